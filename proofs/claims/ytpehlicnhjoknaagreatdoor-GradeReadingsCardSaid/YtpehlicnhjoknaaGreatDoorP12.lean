/- The layer of own lemmas and contracts, part 12. -/
import Derived.Test.YtpehlicnhjoknaaGreatDoorP11
import Derived.Test.YtpehlicnhjoknaaGreatDoorP6
import Derived.Test.YtpehlicnhjoknaaGreatDoorP10
import Derived.Test.YtpehlicnhjoknaaGreatDoorP3
import Derived.Shelf.RegionOpenPlain
import Derived.Lib.Builder
import Derived.Lib.UnsafeStr
import Derived.Lib.Strings
import Derived.Lib.Slices
import Derived.Lib.Walk
import Derived.Laws.Externs
import Derived.KernelRfl
import Derived.WalkKit
import Derived.Shelf.Strconv.Itoa3
import Derived.Lib.ItoaMem
import Derived.Lib.AppendIntMem
import Derived.BigCall
import Derived.BigGuard
set_option linter.unusedVariables false
set_option linter.unusedSimpArgs false
namespace Go.Ide
open Go.Proofs Go.RowKit
set_option maxRecDepth 20000
set_option maxHeartbeats 4000000
theorem b3a {H Hf:Hp}{K g T:Nat}{l:List Nat}{N:Nat}(hl:l.length=N)(he:Hp.get H K=some ⟨K,g,T,1,l.map a0p⟩:=by exact rfl)(hn:Hp.get Hf K=none:=by exact rfl):Fz H Hf (.osl K g 1 0 N) (.sl false 1 (l.map a0p)):=by
 subst hl;have key:∀ (j:Nat) (d d':D),(l.map a0p)[0+j]? = some d→(l.map a0p)[j]? = some d'→d=d':=fun j d d' h1 h2=>by
  rw [Nat.zero_add] at h1;rw [h1] at h2;exact Option.some.inj h2
 refine .osl (e:=⟨K,g,T,1,l.map a0p⟩) he hn rfl rfl (by simp) (by simp) (fun j d d' h1 h2=>by rw [key j d d' h1 h2]) fun j d d' q c c' h1 h2 h3 h4=>?_
 rw [key j d d' h1 h2] at h3;rw [h3] at h4;cases h4;exact Fz.refl _
theorem a7b (c : UInt8) (l : List UInt8) : (((c.toNat : Nat) : Int) == 45) = a1K (c :: l) := by
  show _ = (c == 45)
  rw [Bool.eq_iff_iff, beq_iff_eq, beq_iff_eq, ← UInt8.toNat_inj]
  exact ⟨fun h => by have : c.toNat = 45 := by omega
                     exact this, fun h => by rw [h]; rfl⟩
abbrev b5c:Ent:=⟨0,0,157,2,[.agg [boo false,a2u]]⟩
theorem c6t {x:List UInt8}(h:9<x.length):dv x=dv (x.take (x.length - 9))*RB+dv (x.drop (x.length - 9)):=by
 conv=>lhs;rw [← List.take_append_drop (x.length - 9) x,a4d,List.length_drop,show x.length - (x.length - 9)=9 by omega]
theorem c8C (A B t n v:Nat):(A*B+t)*B^n+v=A*B^(n+1)+(v+B^n*t):=by
 rw [Nat.add_mul,Nat.mul_assoc,Nat.pow_succ,Nat.mul_comm B,Nat.mul_comm t];omega
theorem a9y {x x0:List UInt8}{w:List Nat}(h9:9<x.length)(g1:x.all a0B=true)(g2:x.length+w.length*9=x0.length)(g3:Rd w)(g4:dv x0=dv x*RB^w.length+a0h w) :
  (x.take (x.length - 9)).all a0B=true∧(x.take (x.length - 9)).length+(w++[dv (x.drop (x.length - 9))]).length*9=x0.length∧Rd (w++[dv (x.drop (x.length - 9))]) ∧
  dv x0=dv (x.take (x.length - 9))*RB^(w++[dv (x.drop (x.length - 9))]).length+a0h (w++[dv (x.drop (x.length - 9))]):=by
 refine ⟨List.all_eq_true.2 fun a ha=>List.all_eq_true.1 g1 a (List.mem_of_mem_take ha),?_,Rd.append g3 fun a ha=>?_,?_⟩
 ·rw [List.length_take,List.length_append,List.length_singleton];omega
 ·simp only [List.mem_cons,List.not_mem_nil,or_false] at ha
  subst ha
  have:=a5S (x.drop (x.length - 9)) (List.all_eq_true.2 fun a ha=>List.all_eq_true.1 g1 a (List.mem_of_mem_drop ha))
  rwa [List.length_drop,show x.length - (x.length - 9)=9 by omega] at this
 ·rw [g4,c6t h9,a0S rfl,List.length_append,List.length_singleton]
  exact c8C _ _ _ _ _
theorem b5C {x x0:List UInt8}{w:List Nat}(h9:x.length≤9)(g1:x.all a0B=true)(g3:Rd w)(g4:dv x0=dv x*RB^w.length+a0h w):Rd (w++[dv x])∧a0h (w++[dv x])=dv x0:=by
 refine ⟨Rd.append g3 fun a ha=>?_,?_⟩
 ·simp only [List.mem_cons,List.not_mem_nil,or_false] at ha
  subst ha;exact Nat.lt_of_lt_of_le (a5S x g1) (Nat.pow_le_pow_right (by decide) h9)
 ·rw [g4,a0S rfl,Nat.mul_comm,Nat.add_comm]
theorem b7d {w:List Nat}{a:Nat}:List.take w.length (w.map a0p)++[i64 (a:Int)]=(w++[a]).map a0p:=by
 rw [List.take_of_length_le (by rw [List.length_map];exact Nat.le_refl _),List.map_append];rfl
theorem b8R (l:List UInt8)(hd:(a0l l).all a0B=true)(hl:l.length≤1000000):a0b C0 164 [str (sb l)] (rZ (rv l)):=by
 have er:rv l=sg (a1K l) (dv (a0l l)):=rfl;rw [er];refine a0c.walk w1 c5V rfl fun F=>?_
 have hsz:=a0r l;have hdl:(a0l l).length≤l.length:=by
  unfold a0l;split
  ·rw [List.length_drop];omega
  ·exact Nat.le_refl _
 refine sR 0 ?_;refine OkS.seqX (α:=Nat) (fun n=>⟨[(0,str (sb l)),(2,.optr 0 0 2 0 0),(3,boo (a1K l))],[b5c],n⟩) (fun _=>True) ?_ ?_
 ·cases l with
  | nil =>
   have e0:(sb []).size=0:=rfl;have e1:decide (((0:Nat):Int)>0)=false:=rfl;refine OkS.reg w1 100 (by kernel_rfl) ?_;refine gwI (ff2 e0 e1) ?_;refine gwI (ff2 kF e1) ?_;exact ⟨trivial,_,trivial,wkI⟩
  | cons c l =>
   have hpos:(sb (c::l)).size=l.length+1:=hsz;have e0:decide (((sb (c::l)).size:Int)>0)=true:=decide_eq_true (by omega);have e1:((((c::l).getD (Int.toNat 0) 0).toNat:Int)==45)=a1K (c::l):=a7b c l;refine OkS.reg w1 100 (by kernel_rfl) ?_;refine gwI e0 ?_;refine gwI (ff3 kT e0 e1) ?_;exact ⟨trivial,_,trivial,wkI⟩
 rintro n0 -;refine OkS.seqX (α:=Nat) (fun n=>⟨[(0,str (sb (a0l l))),(2,.optr 0 0 2 0 0),(3,boo (a1K l))],[b5c],n⟩) (fun _=>True) ?_ ?_
 ·refine sR 200 ?_
  cases hb:a1K l
  ·have ed:a0l l=l:=by unfold a0l;rw [hb];rfl
   rw [ed];refine ifI ?_;refine skI ?_;exact ⟨rfl,_,trivial,wkI⟩
  ·have ed:a0l l=l.drop 1:=by unfold a0l;rw [hb];rfl
   have hl0:1≤l.length:=by
    cases l with
    | nil=>cases hb
    | cons c l=>rw [List.length_cons];omega
   have ee:(sb l).extract (Int.toNat 1) l.length=sb (a0l l):=by
    rw [a1B,List.take_of_length_le (Nat.le_refl _),ed];rfl
   refine ifI ?_;refine OkS.reg w1 300 (by kernel_rfl) ?_;refine gwI (ff2 hsz kN) ?_;rw [ee];exact ⟨trivial,_,trivial,wkI⟩
 rintro n1 -;generalize a1K l=neg at *;generalize a0l l=x0 at *;clear er hsz;have hx0:x0.length≤1000000:=Nat.le_trans hdl hl;clear hdl hl l;refine sR 400 ?_;refine OkS.seq ?_;refine OkS.block ?_;refine OkS.loop (α:=Bool × List UInt8 × List Nat × Nat × Nat) (fun p=>match p with
  | (false,x,_,_,n)=>⟨[(0,str (sb x)),(2,.optr 0 0 2 0 0),(3,boo neg),(4,a2u)],[b5c],n⟩
  | (true,x,w,g,n)=>⟨[(0,str (sb x)),(2,.optr 0 0 2 0 0),(3,boo neg),(4,.osl 608 g 1 0 w.length)],[⟨608,g,3,1,w.map a0p⟩,b5c],n⟩) (fun p=>p.2.1.length)
  (fun p=>p.2.1.all a0B=true∧p.2.1.length+p.2.2.1.length*9=x0.length∧Rd p.2.2.1∧dv x0=dv p.2.1*RB^p.2.2.1.length+a0h p.2.2.1∧(p.1=false→p.2.2.1=[]))
  (false,x0,[],0,_) ⟨hd,rfl,(fun a ha=>by cases ha),by simp [a0h],fun _=>rfl⟩ wkI ?_
 rintro ⟨t,x,w,g,n2⟩ F ⟨g1,g2,g3,g4,g5⟩;dsimp only at g1 g2 g3 g4 g5;have hsz:=a0r x
 by_cases h9:9<x.length
 ·have ht:decide ((x.length:Int)>9)=true:=decide_eq_true (by omega)
  have cv:=b0m (x.drop (x.length - 9)) (List.all_eq_true.2 fun a ha=>List.all_eq_true.1 g1 a (List.mem_of_mem_drop ha)) (by rw [List.length_drop];omega);have wk:IntKind.i64.wrap ((x.length:Int) - 9)=((x.length - 9:Nat):Int):=by rw [wI (by omega) (by omega)];omega
  have wr:IntKind.i64.wrap (((sb x).size:Int) - 9)=((x.length - 9:Nat):Int):=by rw [hsz,wk]
  have e1:(sb x).extract (x.length - 9) x.length=sb (x.drop (x.length - 9)):=by rw [a1B,List.take_of_length_le (Nat.le_refl _)]
  have e2:(sb x).extract 0 (x.length - 9)=sb (x.take (x.length - 9)):=by rw [a1B,List.drop_zero]
  cases t
  ·dsimp only
   obtain rfl:=g5 rfl;refine OkS.seq ?_;refine sZ 500 ?_;refine nwI (ff2 hsz ht) ?_;refine ifI ?_;refine skI ?_;refine OkS.block ?_;refine sZ 600 ?_;refine gwI (ff5 hsz wk wr kN e1) ?_;refine a0m.same _ cv inferInstance ?_;refine stI ?_;have J:=a9y h9 g1 g2 g3 g4;rw [List.nil_append] at J;refine OkS.reg w1 700 (by kernel_rfl) ?_;refine gwI (ff4 hsz wk wr kN) ?_;refine gwI e2 ?_;exact ⟨(true,x.take (x.length - 9),[dv (x.drop (x.length - 9))],n2+11,_),⟨J.1,J.2.1,J.2.2.1,J.2.2.2,fun h=>by cases h⟩,by dsimp only;rw [List.length_take];omega,wkI⟩
  ·dsimp only
   clear g5;have J:=a9y h9 g1 g2 g3 g4;have ew:(w.map a0p).length=w.length:=List.length_map _;have el:w.length+1=(w++[dv (x.drop (x.length - 9))]).length:=by rw [List.length_append];rfl
   refine OkS.seq ?_;refine sZ 500 ?_;refine nwI (ff2 hsz ht) ?_;refine ifI ?_;refine skI ?_;refine OkS.block ?_;refine sZ 600 ?_;refine gwI (ff5 hsz wk wr kN e1) ?_;refine a0m.same _ cv inferInstance ?_;refine stI ?_;rw [b7d,el];refine OkS.reg w1 700 (by kernel_rfl) ?_;refine gwI (ff4 hsz wk wr kN) ?_;refine gwI e2 ?_;exact ⟨(true,x.take (x.length - 9),w++[dv (x.drop (x.length - 9))],n2+11,_),⟨J.1,J.2.1,J.2.2.1,J.2.2.2,fun h=>by cases h⟩,by dsimp only;rw [List.length_take];omega,wkI⟩
 ·have ht:decide ((x.length:Int)>9)=false:=decide_eq_false (by omega)
  have cv:=b0m x g1 (by omega);obtain ⟨r1,r2⟩:=b5C (by omega) g1 g3 g4;have cs:=b3F neg (w++[dv x]) r1 (by rw [List.length_append,List.length_singleton];omega);rw [r2] at cs;cases t
  ·dsimp only
   obtain rfl:=g5 rfl;refine OkS.seq ?_;refine sZ 500 ?_;refine nwI (ff2 hsz ht) ?_;refine ifI ?_;refine exI ?_;refine sR 800 ?_;refine a0m.same _ cv inferInstance ?_;refine stI ?_;refine a0m.own _ (a0C.give [b5c] cs (.drop (.keep .nil)) ⟨.refl _,b3a rfl,trivial⟩ inferInstance) ?_;rintro d H' n' ⟨rfl,rfl,rfl⟩;refine stI ?_;refine rtI ?_;exact a0a rfl IsPure.out
  ·dsimp only
   clear g5;have ew:(w.map a0p).length=w.length:=List.length_map _;have el:w.length+1=(w++[dv x]).length:=by rw [List.length_append];rfl
   refine OkS.seq ?_;refine sZ 500 ?_;refine nwI (ff2 hsz ht) ?_;refine ifI ?_;refine exI ?_;refine sR 800 ?_;refine a0m.same _ cv inferInstance ?_;refine stI ?_;rw [b7d,el];refine a0m.own _ (a0C.give [b5c] cs (.drop (.keep .nil)) ⟨.refl _,b3a rfl,trivial⟩ inferInstance) ?_;rintro d H' n' ⟨rfl,rfl,rfl⟩;refine stI ?_;refine rtI ?_;exact a0a rfl IsPure.out
def isO (o:Option D):Bool:=match o with
 | some (.agg [.prim (.bool false),.sl false 1 [.prim (.int .i64 1)]])=>true
 | _=>false
theorem b9C {o:Option D}(h:isO o=true):o=some (rZ 1):=by
 have h1:a0o 1=[1]:=a2E (by decide) (by decide);unfold isO at h;split at h
 ·show _=some (D.agg [boo (decide ((1:Int)<0)),rL (a0o 1)])
  rw [h1];rfl
 ·cases h
theorem b4M:isO ((evF X1 1000 60).1 84 [i64 1])=true:=by kernel_rfl
theorem b7n:a0b C0 84 [i64 1] (rZ 1):=a0b.ev a3M 1000 60 (b9C b4M)
def c6p (l:List UInt8):Int:=rv (a2f l)
def c9u (l:List UInt8):Int:=if a3J l then rv (a1w l) else 1
instance  (x y:Int):IsPure (.tup [rZ x,rZ y]):=⟨.tup fun d hd=>by
 simp only [List.mem_cons,List.not_mem_nil,or_false] at hd;rcases hd with rfl|rfl
 ·exact IsPure.out
 ·exact IsPure.out⟩
theorem a5e (l:List UInt8)(hn:(a0l (a2f l)).all a0B=true)(hd:(a0l (a1w l)).all a0B=true)(hl:l.length≤1000000):a0b C0 89 [str (sb l)] (.tup [rZ (c6p l),rZ (c9u l)]):=by
 refine a0c.walk w1 d0z rfl fun F=>?_
 have hsz:=a0r l;have cs:=a6j l (by omega);have hsl:=a1v l;have c1:=b8R (a2f l) hn (by unfold a2f;rw [List.length_take];omega);have c2:=b8R (a1w l) hd (by unfold a1w;rw [List.length_drop];omega);have cw:=b7n;unfold c6p c9u;refine sR 0 ?_;refine sR 100 ?_;refine sR 200 ?_;refine cI cs ?_;cases hh:a3J l
 ·have he:a0e l=l.length:=by
   unfold a3J at hh
   have:=of_decide_eq_false hh
   omega
  have e0:(((a0e l:Nat):Int)==(l.length:Int))=true:=beq_iff_eq.2 (by omega);have en:a2f l=l:=by unfold a2f;rw [he,List.take_of_length_le (Nat.le_refl _)]
  rw [en] at c1 ⊢;refine OkS.seq ?_;refine sZ 300 ?_;refine nwI (ff2 hsz e0) ?_;refine ifI ?_;refine sR 400 ?_;refine cI c1 ?_;refine a0m.same _ cw inferInstance ?_;refine stI ?_;refine rtI ?_;exact a0a rfl IsPure.out
 ·have he:a0e l<l.length:=of_decide_eq_true hh
  have e0:(((a0e l:Nat):Int)==(l.length:Int))=false:=beq_eq_false_iff_ne.2 (by omega);have x1:(sb l).extract 0 (a0e l)=sb (a2f l):=by rw [a1B,List.drop_zero];rfl
  have x2:(sb l).extract (a0e l+1) l.length=sb (a1w l):=by rw [a1B,List.take_of_length_le (Nat.le_refl _)];rfl
  have wk:IntKind.i64.wrap (((a0e l:Nat):Int)+1)=((a0e l+1:Nat):Int):=wI (by omega) (by omega);refine OkS.seq ?_;refine sZ 300 ?_;refine nwI (ff2 hsz e0) ?_;refine ifI ?_;refine skI ?_;refine OkS.seq ?_;refine OkS.regD w1 500 [0,1,2,3,4,5,6,7] [8,9,10] (by kernel_rfl) ?_;refine gwI (ff5 hsz wk kN x1 x2) ?_;refine a0n.same _ c1 inferInstance ?_;refine gwI (ff5 hsz wk kN x1 x2) ?_;refine a0m.same _ c2 inferInstance ?_;refine stI ?_;refine rtI ?_;exact a0a rfl IsPure.out
def txt (r:Rat):List UInt8:=if r.den=1 then Lib.itoa r.num else Lib.itoa r.num++47::Lib.decDigits r.den
def qZ (x y:Int):Rat:=mkRat (if y<0 then -x else x) y.natAbs
theorem a6J {x:Int}{d:Nat}(hd:d≠0):(mkRat x d).num=sg (decide (x<0)) (x.natAbs / Nat.gcd x.natAbs d)∧(mkRat x d).den=d / Nat.gcd x.natAbs d:=by
 rw [mkRat,dif_neg hd,Rat.normalize_eq];refine ⟨?_,rfl⟩;dsimp only;have hg:0<Nat.gcd x.natAbs d:=Nat.gcd_pos_of_pos_right _ (Nat.pos_of_ne_zero hd);obtain ⟨p,hp⟩:=Nat.gcd_dvd_left x.natAbs d;have e1:x.natAbs / Nat.gcd x.natAbs d=p:=by
  refine Nat.div_eq_of_eq_mul_right hg hp
 have e2:x=(Nat.gcd x.natAbs d:Int)*sg (decide (x<0)) p:=by
  have h0:(x.natAbs:Int)=(Nat.gcd x.natAbs d:Int)*(p:Int):=by rw [← Int.natCast_mul,← hp]
  unfold sg
  by_cases hx:x<0
  ·rw [decide_eq_true hx,if_pos rfl,Int.mul_neg,← h0];omega
  ·rw [decide_eq_false hx,if_neg (by decide),← h0];omega
 rw [e1]
 conv=>lhs;arg 1;rw [e2]
 rw [Int.mul_ediv_cancel_left _ (by omega)]
theorem b3C (q:Nat):((((((a0o q).map a0p).length:Nat):Int)==1)=true∧∃ a,(a0o q)[0]? = some a∧(((a:Nat):Int)==1)=decide (q=1))∨((((((a0o q).map a0p).length:Nat):Int)==1)=false∧q≠1):=by
 rw [List.length_map]
 by_cases h:(a0o q).length=1
 ·refine .inl ⟨beq_iff_eq.2 (by omega),?_⟩
  obtain ⟨a,ha⟩:=a2S (l:=a0o q) (i:=0) (by omega);refine ⟨a,ha,?_⟩;have e:a0o q=[a]:=by
   obtain ⟨b,hb⟩:=List.length_eq_one_iff.1 h;rw [hb] at ha ⊢;cases ha;rfl
  have e2:q=a:=by rw [← a0q q,e];simp [a0h]
  rw [e2];rw [Bool.eq_iff_iff,beq_iff_eq,decide_eq_true_iff];omega
 ·refine .inr ⟨beq_eq_false_iff_ne.2 (by omega),fun hq=>h ?_⟩
  rw [hq,a2E (by decide) (by decide)];rfl
theorem a5O (x y:Int)(hy0:y≠0)(hx:b1o x)(hy:b1o y):a0b C0 83 [rZ x,rZ y] (str (sb (txt (qZ x y)))):=by
 refine a0c.walk w1 d0Z rfl fun F=>?_
 unfold qZ;refine sR 0 ?_;refine OkS.seqX (α:=Nat) (fun n=>⟨[(2,.optr 0 0 2 0 0),(3,.optr 1 1 2 0 0)],[⟨1,1,157,2,[.agg [boo false,rD y.natAbs]]⟩,⟨0,0,157,2,[rZ (if y<0 then -x else x)]⟩],n⟩) (fun _=>True) ?_ ?_
 ·by_cases h:y<0
  ·have cx:=b6H x hx
   have cy:=b6H y hy;have e1:rZ (-y)=.agg [boo false,rD y.natAbs]:=by
    show D.agg [boo (decide (-y<0)),rD (-y).natAbs]=_;rw [decide_eq_false (by omega),Int.natAbs_neg]
   rw [e1] at cy;rw [if_pos h];refine sZ 100 ?_;refine nwI (decide_eq_true h) ?_;refine ifI ?_;refine OkS.regD w1 200 [0,1,2] [3,4,5] (by kernel_rfl) ?_;refine gwI kN ?_;refine a0n.same _ cx inferInstance ?_;refine gwI kN ?_;refine a0m.same _ cy inferInstance ?_;refine stI ?_;exact ⟨trivial,_,trivial,wkI⟩
  ·have e1:rZ y=.agg [boo false,rD y.natAbs]:=by
    show D.agg [boo (decide (y<0)),rD y.natAbs]=_;rw [decide_eq_false h]
   rw [if_neg h];refine sZ 100 ?_;refine nwI (decide_eq_false h) ?_;refine ifI ?_;refine skI ?_;refine ⟨rfl,5,trivial,?_⟩;rw [← e1];exact wkI
 rintro n0 -;obtain ⟨z,hz⟩:∃ z,z=(if y<0 then -x else x):=⟨_,rfl⟩
 have hza:z.natAbs=x.natAbs:=by rw [hz];split<;>omega
 obtain ⟨d,hd⟩:∃ d,d=y.natAbs:=⟨_,rfl⟩
 have hd0:d≠0:=by omega
 unfold b1o at hx hy;rw [← hza] at hx;rw [← hd] at hy;rw [← hz,← hd];clear hz hza hd hy0;clear x y;have cg:=b3n z.natAbs d hx hy;obtain ⟨qn,qd⟩:=a6J (x:=z) hd0;have hg:0<Nat.gcd z.natAbs d:=Nat.gcd_pos_of_pos_right _ (Nat.pos_of_ne_zero hd0);have hgl:(a0o (Nat.gcd z.natAbs d)).length<1000000:=Nat.lt_of_le_of_lt (a0w _ _ (Nat.gcd_le_right _ (Nat.pos_of_ne_zero hd0))) hy;have c4:=c9T z.natAbs (Nat.gcd z.natAbs d) (by omega) hx hgl;have c5:a0b C0 160 [rD d,rD (Nat.gcd z.natAbs d)] (.tup [.sl false 1 ((a0o (d / Nat.gcd z.natAbs d)).map a0p),rD (d%Nat.gcd z.natAbs d)]):=c9T d (Nat.gcd z.natAbs d) (by omega) hy hgl;have hpl:(a0o (z.natAbs / Nat.gcd z.natAbs d)).length<1000000:=Nat.lt_of_le_of_lt (a0w _ _ (Nat.div_le_self _ _)) hx;have hql:(a0o (d / Nat.gcd z.natAbs d)).length<1000000:=Nat.lt_of_le_of_lt (a0w _ _ (Nat.div_le_self _ _)) hy;have etx:txt (mkRat z d)=if d / Nat.gcd z.natAbs d=1 then Lib.itoa (sg (decide (z<0)) (z.natAbs / Nat.gcd z.natAbs d)) else Lib.itoa (sg (decide (z<0)) (z.natAbs / Nat.gcd z.natAbs d))++47::Lib.decDigits (d / Nat.gcd z.natAbs d):=by
  unfold txt;rw [qn,qd]
 rw [etx];clear etx qn qd hg hgl;generalize z.natAbs / Nat.gcd z.natAbs d=p at *;generalize d / Nat.gcd z.natAbs d=q at *;generalize z.natAbs%Nat.gcd z.natAbs d=r1 at *;generalize d%Nat.gcd z.natAbs d=r2 at *;generalize Nat.gcd z.natAbs d=gg at *;have c6:=a2Y (decide (z<0)) p (by omega);have hab:(sg (decide (z<0)) p).natAbs=p:=by unfold sg;split<;>omega
 have c7:=b7x (sg (decide (z<0)) p) (by unfold b1o;rw [hab];exact hpl);have c8:=a2Y false q (by omega);have c9:=b7x (sg false q) (by unfold b1o;show (a0o q).length<1000000;exact hql);have e9:Lib.itoa (sg false q)=Lib.decDigits q:=by rw [b6Z false q (by simp)];rfl
 rw [e9] at c9;have l1:=a7N (a0D p);rw [a0q] at l1;have l2:=a7N (a0D q);rw [a0q] at l2;have l3:(Lib.itoa (sg (decide (z<0)) p)).length≤(Lib.decDigits p).length+1:=by
  unfold Lib.itoa;split
  ·rw [hab,List.length_cons];exact Nat.le_refl _
  ·rw [show (sg (decide (z<0)) p).toNat=p by omega];omega
 generalize sg (decide (z<0)) p=pz at *;have s1:=a0r (Lib.itoa pz);have s2:=a0r (Lib.decDigits q);have s3:(⟨#[47]⟩:ByteArray).size=1:=rfl;have s4:(sb (Lib.itoa pz)++(⟨#[47]⟩:ByteArray)).size=(sb (Lib.itoa pz)).size+(⟨#[47]⟩:ByteArray).size:=ByteArray.size_append;generalize Lib.itoa pz=t1 at *;generalize Lib.decDigits q=t2 at *;refine sR 300 ?_;refine cI cg ?_;refine sR 400 ?_;refine cI c4 ?_;refine sR 500 ?_;refine cI c5 ?_;refine sR 600 ?_;refine cI c6 ?_;refine cI c7 ?_;have ht:=b3C q;rcases ht with ⟨h1,a,ha,h2⟩|⟨h1,h2⟩
 ·have ha':=a6o ha
  refine OkS.seq ?_;refine sZ 700 ?_;refine gwI h1 ?_;refine ixI kT ha' ?_;refine gwI (ff2 h1 h2) ?_
  by_cases hq:q=1
  ·rw [decide_eq_true hq,if_pos hq]
   refine ifI ?_;refine sR 800 ?_;refine rtI ?_;exact a0a rfl IsPure.out
  ·rw [decide_eq_false hq,if_neg hq]
   refine ifI ?_;refine skI ?_;refine sR 900 ?_;refine a0m.same _ c8 inferInstance ?_;refine stI ?_;refine a0m.same _ c9 inferInstance ?_;refine stI ?_;refine rtI ?_;refine a0a ?_ IsPure.out;show str ((⟨t1.toArray⟩++⟨([47]:List UInt8).toArray⟩:ByteArray)++⟨t2.toArray⟩)=_;rw [a3V,a3V,List.append_assoc];rfl
 ·rw [if_neg h2]
  refine OkS.seq ?_;refine sZ 700 ?_;refine nwI h1 ?_;refine gwI kF ?_;refine ifI ?_;refine skI ?_;refine sR 900 ?_;refine a0m.same _ c8 inferInstance ?_;refine stI ?_;refine a0m.same _ c9 inferInstance ?_;refine stI ?_;refine rtI ?_;refine a0a ?_ IsPure.out;show str ((⟨t1.toArray⟩++⟨([47]:List UInt8).toArray⟩:ByteArray)++⟨t2.toArray⟩)=_;rw [a3V,a3V,List.append_assoc];rfl
set_option maxHeartbeats 2000000
theorem a6S (k:Nat)(h:k<10):(UInt8.ofNat (48+k)).toNat=48+k:=by
 rw [UInt8.toNat_ofNat'];omega
theorem a1k:∀ n:Nat,(Lib.decDigits n).all a0B=true∧dv (Lib.decDigits n)=n∧(Lib.decDigits n)≠[]:=fun n=>by
 induction n using Nat.strongRecOn with
 | _ n ih =>
  have one:∀ k,k<10→a0B (UInt8.ofNat (48+k))=true:=fun k hk=>by
   unfold a0B;rw [a6S k hk,Bool.and_eq_true];exact ⟨Nat.ble_eq_true_of_le (by omega),Nat.ble_eq_true_of_le (by omega)⟩
  have vone:∀ k,k<10→dv [UInt8.ofNat (48+k)]=k:=fun k hk=>by
   show 0*10+((UInt8.ofNat (48+k)).toNat - 48)=k;rw [a6S k hk];omega
  rw [Lib.decDigits];split
  ·rename_i h
   exact ⟨by rw [List.all_cons,one n h];rfl,vone n h,by simp⟩
  ·rename_i h
   obtain ⟨h1,h2,h3⟩:=ih (n / 10) (by omega);refine ⟨by rw [List.all_append,h1,List.all_cons,one _ (Nat.mod_lt _ (by decide))];rfl,?_,by simp⟩;rw [a4d,h2,vone _ (Nat.mod_lt _ (by decide)),List.length_singleton];omega
theorem c0v {n:Nat}(h:n≠0):∃ c l,Lib.decDigits n=c::l∧c≠48:=by
 induction n using Nat.strongRecOn with
 | _ n ih =>
  rw [Lib.decDigits];split
  ·rename_i h1
   refine ⟨_,_,rfl,fun hh=>?_⟩
   have:=congrArg UInt8.toNat hh
   rw [a6S n h1] at this
   have:48+n=48:=this
   omega
  ·rename_i h1
   obtain ⟨c,l,e,hc⟩:=ih (n / 10) (by omega) (by omega);rw [e];exact ⟨c,l++_,rfl,hc⟩
theorem c7B {c:UInt8}(h:a0B c=true):c≠47∧c≠45:=by
 obtain ⟨h1,h2⟩:=a2g h;exact ⟨fun hh=>by subst hh;simp at h1,fun hh=>by subst hh;simp at h1⟩
theorem a4r (z:Int):a1K (Lib.itoa z)=decide (z<0)∧a0l (Lib.itoa z)=Lib.decDigits z.natAbs:=by
 unfold Lib.itoa
 by_cases h:z<0
 ·rw [if_pos h,decide_eq_true h]
  exact ⟨rfl,rfl⟩
 ·rw [if_neg h,decide_eq_false h,show z.toNat=z.natAbs by omega]
  have h1:=a5W (a1k z.natAbs).1;exact ⟨h1,a1A (a1k z.natAbs).1⟩
theorem b6D (z:Int):rv (Lib.itoa z)=z:=by
 unfold rv;rw [(a4r z).1,(a4r z).2,(a1k z.natAbs).2.1]
 by_cases h:z<0
 ·rw [decide_eq_true h,if_pos rfl];omega
 ·rw [decide_eq_false h,if_neg (by decide)];omega
theorem a6x (z:Int):∀ c∈Lib.itoa z,(c != 47)=true:=fun c hc=>by
 have hd:∀ n,∀ c∈Lib.decDigits n,(c != 47)=true:=fun n c h=>by
  have:=(c7B (List.all_eq_true.1 (a1k n).1 c h)).1
  simpa using this
 unfold Lib.itoa at hc;split at hc
 ·rcases List.mem_cons.1 hc with rfl|h
  ·rfl
  ·exact hd _ c h
 ·exact hd _ c hc
theorem a3C {p:UInt8→Bool}:∀ {l:List UInt8} (m:List UInt8),(∀ c∈l,p c=true)→(l++m).takeWhile p=l++m.takeWhile p
 | [],_,_=>rfl
 | a::l,m,h=>by
  rw [List.cons_append,List.takeWhile_cons,if_pos (h a List.mem_cons_self),a3C m fun c hc=>h c (List.mem_cons_of_mem _ hc)];rfl
theorem a3S (r:Rat):a0e (txt r)=(Lib.itoa r.num).length:=by
 unfold a0e txt;split
 ·have:=a3C (p:=(· != 47)) [] (a6x r.num)
  rw [List.append_nil] at this;rw [this];simp
 ·rw [a3C (p:=(· != 47)) _ (a6x r.num)]
  simp
theorem a5N (r:Rat):a2f (txt r)=Lib.itoa r.num:=by
 unfold a2f;rw [a3S];unfold txt;split
 ·exact List.take_of_length_le (Nat.le_refl _)
 ·exact List.take_left' rfl
theorem a4W (r:Rat):a1w (txt r)=if r.den=1 then [] else Lib.decDigits r.den:=by
 unfold a1w;rw [a3S];unfold txt;split
 ·exact List.drop_of_length_le (Nat.le_succ _)
 ·rw [List.drop_append]
  rw [List.drop_of_length_le (Nat.le_succ _),Nat.add_sub_cancel_left];rfl
theorem a5J (r:Rat):a3J (txt r) = !decide (r.den=1):=by
 unfold a3J;rw [a3S];unfold txt
 by_cases h:r.den=1
 ·rw [if_pos h,decide_eq_true h,decide_eq_false (by omega)];rfl
 ·rw [if_neg h,decide_eq_false h,List.length_append,List.length_cons,decide_eq_true (by omega)];rfl
theorem a5z (r:Rat):c6p (txt r)=r.num:=by unfold c6p;rw [a5N,b6D]
theorem a7a (r:Rat):c9u (txt r)=r.den:=by
 unfold c9u;rw [a5J,a4W]
 by_cases h:r.den=1
 ·rw [decide_eq_true h,h];rfl
 ·rw [decide_eq_false h,if_neg h,if_pos (show (!false)=true from rfl),a9g (a1k _).1,(a1k _).2.1]
theorem a4x (r:Rat):(a0l (a2f (txt r))).all a0B=true:=by rw [a5N,(a4r _).2];exact (a1k _).1
theorem a4p (r:Rat):(a0l (a1w (txt r))).all a0B=true:=by
 rw [a4W];split
 ·rfl
 ·rw [a1A (a1k _).1];exact (a1k _).1
theorem b6r (z:Int):Lib.itoa z≠[]:=by
 unfold Lib.itoa;split
 ·simp
 ·exact (a1k _).2.2
theorem c1t (r:Rat):txt r≠[]:=by
 unfold txt;split
 ·exact b6r _
 ·simp
theorem b0k (r:Rat):a1K (txt r)=decide (r.num<0):=by
 rw [← (a4r r.num).1];unfold txt;split
 ·rfl
 ·have:=b6r r.num
  cases h:Lib.itoa r.num with
  | nil=>exact absurd h this
  | cons c l=>rfl
theorem a9L (r:Rat):decide (txt r=[48])=decide (r.num=0):=by
 refine decide_eq_decide.2 ⟨fun h=>?_,fun h=>?_⟩
 ·have h1:=a5z r
  rw [h] at h1;rw [← h1];decide
 ·have:r.den=1:=by
   have:=r.reduced
   rw [h] at this;simpa using this
  unfold txt;rw [if_pos this,h];show Lib.decDigits 0=[48];rw [Lib.decDigits,dif_pos (by decide)];rfl
abbrev rR (r:Rat):D:=str (sb (txt r))
def b0u (r:Rat):Prop:=(txt r).length≤1000000
theorem b3o (r:Rat)(hl:b0u r):a0b C0 71 [rR r] (i64 (a3s r)):=by
 refine a0c.walk w1 d0p rfl fun F=>?_
 have hsz:=a0r (txt r);unfold b0u at hl;have ez:=a4G (txt r) [48];rw [a9L] at ez;have en:=b0k r;refine sR 0 ?_;refine OkS.seq ?_;refine OkS.seq ?_;have ez2:a0E (sb (txt r)) ⟨#[48]⟩=decide (r.num=0):=ez;have hne:=c1t r;refine OkS.reg w1 100 (by kernel_rfl) ?_;refine nwI ez2 ?_
 by_cases h0:r.num=0
 ·rw [decide_eq_true h0]
  refine ifI ?_;refine sR 200 ?_;refine rtI ?_;exact a0a (by unfold a3s;rw [h0];rfl) IsPure.out
 ·rw [decide_eq_false h0]
  have hpos:0<(txt r).length:=List.length_pos_iff.2 hne;have e0:decide (((sb (txt r)).size:Int)>0)=true:=decide_eq_true (by omega);have e1:((((txt r).getD (Int.toNat 0) 0).toNat:Int)==45)=decide (r.num<0):=by
   rw [← en];cases ht:txt r with
   | nil=>exact absurd ht hne
   | cons c l=>exact a7b c l
  refine ifI ?_;refine skI ?_;refine OkS.seq ?_;refine sZ 300 ?_;refine gwI e0 ?_;refine gwI (ff3 kT e0 e1) ?_
  by_cases hn:r.num<0
  ·rw [decide_eq_true hn]
   refine ifI ?_;refine sR 400 ?_;refine rtI ?_;exact a0a (by unfold a3s;congr 3;omega) IsPure.out
  ·rw [decide_eq_false hn]
   refine ifI ?_;refine skI ?_;refine sR 500 ?_;refine rtI ?_;exact a0a (by unfold a3s;congr 3;omega) IsPure.out
theorem b5v (r:Rat)(hl:b0u r):a0b C0 137 [rR r] (boo (decide (r.den=1))):=by
 refine a0c.walk w1 c8K rfl fun F=>?_
 have hsz:=a0r (txt r);unfold b0u at hl;have cs:=a6j (txt r) (by omega);have hh:=a5J r;have hle:=a1v (txt r);unfold a3J at hh;have et:(((a0e (txt r):Nat):Int)==((txt r).length:Int))=decide (r.den=1):=by
  have:decide (r.den=1) = !decide (a0e (txt r)<(txt r).length):=by rw [hh];simp
  rw [this];rw [Bool.eq_iff_iff,beq_iff_eq,Bool.not_eq_true',decide_eq_false_iff_not];omega
 refine sR 0 ?_;refine sR 100 ?_;refine cI cs ?_;rw [hsz,et];refine rtI ?_;exact a0a rfl IsPure.out
theorem a4h (z:Int):txt (z:Rat)=Lib.itoa z:=by
 unfold txt;rw [if_pos (Rat.den_intCast z),Rat.num_intCast]
theorem d0l (r:Rat)(hl:b0u r):a0b C0 122 [rR r] (rR (r.num:Rat)):=by
 refine a0c.walk w1 c8s rfl fun F=>?_
 have hsz:=a0r (txt r);unfold b0u at hl;have cs:=a6j (txt r) (by omega);have hle:=a1v (txt r);have e1:(sb (txt r)).extract 0 (a0e (txt r))=sb (txt (r.num:Rat)):=by rw [a1B,List.drop_zero,a4h,← a5N];rfl
 refine sR 0 ?_;refine sR 100 ?_;refine cI cs ?_;simp only [Int.toNat_natCast,e1];refine rtI ?_;exact a0a rfl IsPure.out
theorem d0f (r:Rat)(hl:b0u r):a0b C0 123 [rR r] (rR ((r.den:Int):Rat)):=by
 refine a0c.walk w1 c5T rfl fun F=>?_
 have hsz:=a0r (txt r);unfold b0u at hl;have cs:=a6j (txt r) (by omega);have hh:=a5J r;have hle:=a1v (txt r);unfold a3J at hh;have ed:=a4W r;unfold a1w at ed;refine sR 0 ?_;refine sR 100 ?_;refine cI cs ?_;refine OkS.seq ?_;refine OkS.seq ?_
 by_cases h:r.den=1
 ·rw [decide_eq_true h] at hh
  have hge:=of_decide_eq_false (p:=a0e (txt r)<(txt r).length) hh;have et:(((a0e (txt r):Nat):Int)==((txt r).length:Int))=true:=beq_iff_eq.2 (by omega);refine OkS.reg w1 200 (by kernel_rfl) ?_;refine nwI (ff2 hsz et) ?_;refine ifI ?_;refine sR 300 ?_;refine rtI ?_;refine a0a ?_ IsPure.out;show _=str (sb (txt ((r.den:Int):Rat)));rw [a4h,h];show _=str (sb (Lib.decDigits 1));rw [Lib.decDigits,dif_pos (by decide)];rfl
 ·rw [decide_eq_false h] at hh
  have hge:=of_decide_eq_true (p:=a0e (txt r)<(txt r).length) hh;have et:(((a0e (txt r):Nat):Int)==((txt r).length:Int))=false:=beq_eq_false_iff_ne.2 (by omega);have wk:IntKind.i64.wrap (((a0e (txt r):Nat):Int)+1)=((a0e (txt r)+1:Nat):Int):=wI (by omega) (by omega);have e1:(sb (txt r)).extract (a0e (txt r)+1) (txt r).length=sb (txt ((r.den:Int):Rat)):=by
   rw [if_neg h] at ed;rw [a1B,List.take_of_length_le (Nat.le_refl _),ed,a4h];rfl
  refine OkS.reg w1 200 (by kernel_rfl) ?_;refine nwI (ff2 hsz et) ?_;refine ifI ?_;refine skI ?_;refine sZ 400 ?_;refine gwI (ff3 hsz wk kN) ?_;refine gwI e1 ?_;refine rtI ?_;exact a0a rfl IsPure.out
theorem a7X {r:Rat}(h:r.num<0):(txt r).drop 1=txt (-r)∧(txt (-r)).length+1=(txt r).length:=by
 have e:Lib.itoa r.num=45::Lib.itoa (-r.num):=by
  unfold Lib.itoa;rw [if_pos h,if_neg (by omega),show (-r.num).toNat=r.num.natAbs by omega]
 have e2:txt r=45::txt (-r):=by
  unfold txt;rw [Rat.neg_den,Rat.neg_num,e];split<;>rfl
 rw [e2];exact ⟨rfl,rfl⟩
theorem c0D {r:Rat}(h:0<r.num):txt (-r)=45::txt r:=by
 obtain ⟨h1,h2⟩:=a7X (r:=-r) (by rw [Rat.neg_num];omega);rw [Rat.neg_neg] at h1;have h3:=b0k (-r);rw [decide_eq_true (by rw [Rat.neg_num];omega)] at h3;cases ht:txt (-r) with
 | nil=>rw [ht] at h3;cases h3
 | cons c l =>
  rw [ht] at h1 h3
  have:c=45:=by simpa [a1K] using h3
  rw [this,← h1];rfl
theorem b2p (r:Rat):decide (a3s r<0)=decide (r.num<0):=decide_eq_decide.2 (by unfold a3s;omega)
theorem c4x (r:Rat):(a3s r==0)=decide (r.num=0):=by
 rw [Bool.eq_iff_iff,beq_iff_eq,decide_eq_true_iff];unfold a3s;omega
theorem d1I (r:Rat)(hl:b0u r):a0b C0 139 [rR r] (rR (-r)):=by
 refine a0c.walk w1 c7i rfl fun F=>?_
 have hsz:=a0r (txt r);have cs:=b3o r hl;unfold b0u at hl;have e1:=b2p r;have e2:=c4x r;refine sR 0 ?_;refine OkS.seq ?_;refine sR 100 ?_;refine cI cs ?_;rw [e1]
 by_cases h:r.num<0
 ·obtain ⟨t1,t2⟩:=a7X h
  have ee:(sb (txt r)).extract (Int.toNat 1) (txt r).length=sb (txt (-r)):=by
   rw [a1B,List.take_of_length_le (Nat.le_refl _),← t1];rfl
  rw [decide_eq_true h];refine ifI ?_;refine sZ 200 ?_;refine gwI (ff2 hsz kN) ?_;rw [ee];refine rtI ?_;exact a0a rfl IsPure.out
 ·rw [decide_eq_false h]
  refine ifI ?_;refine skI ?_;refine OkS.seq ?_;refine sR 300 ?_;refine cI cs ?_;rw [e2]
  by_cases h0:r.num=0
  ·rw [decide_eq_true h0]
   refine ifI ?_;refine sR 400 ?_;refine rtI ?_;refine a0a ?_ IsPure.out
   have:r=0:=Rat.num_eq_zero.1 h0
   rw [this];rfl
  ·have tp:=c0D (r:=r) (by omega)
   have z3:(⟨#[45]⟩:ByteArray).size=1:=rfl;rw [decide_eq_false h0];refine ifI ?_;refine skI ?_;refine sR 500 ?_;refine rtI ?_;refine a0a ?_ IsPure.out;show str ((⟨([45]:List UInt8).toArray⟩:ByteArray)++⟨(txt r).toArray⟩)=str (sb (txt (-r)));rw [a3V,tp];rfl
theorem c6R (r:Rat)(hl:b0u r):a0b C0 121 [rR r] (rR (if r.num<0 then -r else r)):=by
 refine a0c.walk w1 c5N rfl fun F=>?_
 have hsz:=a0r (txt r);have cs:=b3o r hl;unfold b0u at hl;have e1:=b2p r;refine sR 0 ?_;refine OkS.seq ?_;refine sR 100 ?_;refine cI cs ?_;rw [e1]
 by_cases h:r.num<0
 ·obtain ⟨t1,t2⟩:=a7X h
  have ee:(sb (txt r)).extract (Int.toNat 1) (txt r).length=sb (txt (-r)):=by
   rw [a1B,List.take_of_length_le (Nat.le_refl _),← t1];rfl
  rw [decide_eq_true h,if_pos h];refine ifI ?_;refine sZ 200 ?_;refine gwI (ff2 hsz kN) ?_;rw [ee];refine rtI ?_;exact a0a rfl IsPure.out
 ·rw [decide_eq_false h,if_neg h]
  refine ifI ?_;refine skI ?_;refine sR 300 ?_;refine rtI ?_;exact a0a rfl IsPure.out
def a4J (r:Rat):Rat:=if r.num<0 then -r else r
theorem a6K (r:Rat):(a4J r).num=r.num.natAbs∧(a4J r).den=r.den:=by
 unfold a4J;split
 ·rw [Rat.neg_num,Rat.neg_den];exact ⟨by omega,rfl⟩
 ·exact ⟨by omega,rfl⟩
def qk (r:Rat):Bool:=!decide (20<(txt r).length) && !(decide (9<a0e (txt (a4J r)))||decide (10<(txt (a4J r)).length - a0e (txt (a4J r))))
theorem b9A (r:Rat):(txt (a4J r)).length≤(txt r).length:=by
 unfold a4J;split
 ·rename_i h
  have:=(a7X h).2
  omega
 ·exact Nat.le_refl _
theorem a5i (r:Rat):Lib.itoa (a4J r).num=Lib.decDigits r.num.natAbs:=by
 rw [(a6K r).1];unfold Lib.itoa;rw [if_neg (by omega)];rfl
theorem a5g {r:Rat}(h:qk r=true):r.num.natAbs<10^9∧r.den<10^9:=by
 unfold qk at h;simp only [Bool.and_eq_true,Bool.not_eq_true',Bool.or_eq_false_iff,decide_eq_false_iff_not] at h;obtain ⟨h1,h2,h3⟩:=h;have hs:=a3S (a4J r);rw [a5i] at hs;have hd:=a4W (a4J r);rw [(a6K r).2] at hd;have hdl:(a1w (txt (a4J r))).length=(txt (a4J r)).length - (a0e (txt (a4J r))+1):=by unfold a1w;rw [List.length_drop]
 have d1:=a5S _ (a1k r.num.natAbs).1;have d2:=a5S _ (a1k r.den).1;rw [(a1k _).2.1] at d1 d2;refine ⟨Nat.lt_of_lt_of_le d1 (Nat.pow_le_pow_right (by decide) (by omega)),?_⟩
 by_cases h1:r.den=1
 ·rw [h1];decide
 ·rw [if_neg h1] at hd
  rw [hd] at hdl;exact Nat.lt_of_lt_of_le d2 (Nat.pow_le_pow_right (by decide) (by omega))
theorem b0h (r:Rat)(hl:b0u r):a0b C0 92 [rR r] (.tup [i64 (if qk r then r.num else 0),i64 (if qk r then (r.den:Int) else 0),boo (qk r)]):=by
 refine a0c.walk w1 d1V rfl fun F=>?_
 have hsz:=a0r (txt r);unfold b0u at hl;have hne:=c1t r;have hpos:0<(txt r).length:=List.length_pos_iff.2 hne;refine sR 0 ?_;refine sR 100 ?_;refine OkS.seq ?_;refine OkS.seq ?_
 by_cases h20:20<(txt r).length
 ·have e2:decide (((txt r).length:Int)>20)=true:=decide_eq_true (by omega)
  have eq:qk r=false:=by unfold qk;rw [decide_eq_true h20];rfl
  rw [eq];refine OkS.reg w1 200 (by kernel_rfl) ?_;refine nwI (ff2 hsz e2) ?_;refine ifI ?_;refine sR 300 ?_;refine rtI ?_;exact a0a rfl IsPure.out
 ·have e2:decide (((txt r).length:Int)>20)=false:=decide_eq_false (by omega)
  have eq:qk r = !(decide (9<a0e (txt (a4J r)))||decide (10<(txt (a4J r)).length - a0e (txt (a4J r)))):=by unfold qk;rw [decide_eq_false h20];rfl
  have en:=b0k r;refine OkS.reg w1 200 (by kernel_rfl) ?_;refine nwI (ff2 hsz e2) ?_;refine ifI ?_;refine skI ?_;refine OkS.seqX (α:=Nat) (fun n=>⟨[(5,rR r),(6,boo (decide (r.num<0)))],[],n⟩) (fun _=>True) ?_ ?_
  ·have e0:decide (((sb (txt r)).size:Int)>0)=true:=decide_eq_true (by omega)
   have e1:((((txt r).getD (Int.toNat 0) 0).toNat:Int)==45)=decide (r.num<0):=by
    rw [← en];cases ht:txt r with
    | nil=>exact absurd ht hne
    | cons c l=>exact a7b c l
   refine OkS.reg w1 400 (by kernel_rfl) ?_;refine gwI e0 ?_;refine gwI (ff3 kT e0 e1) ?_;exact ⟨trivial,_,trivial,wkI⟩
  rintro n0 -;refine OkS.seqX (α:=Nat) (fun n=>⟨[(5,rR (a4J r)),(6,boo (decide (r.num<0)))],[],n⟩) (fun _=>True) ?_ ?_
  ·refine sR 500 ?_
   by_cases h:r.num<0
   ·obtain ⟨t1,t2⟩:=a7X h
    have ea:a4J r = -r:=by unfold a4J;rw [if_pos h]
    have ee:(sb (txt r)).extract (Int.toNat 1) (txt r).length=sb (txt (a4J r)):=by
     rw [ea,a1B,List.take_of_length_le (Nat.le_refl _),← t1];rfl
    rw [decide_eq_true h];refine ifI ?_;refine OkS.reg w1 600 (by kernel_rfl) ?_;refine gwI (ff2 hsz kN) ?_;rw [ee];exact ⟨trivial,_,trivial,wkI⟩
   ·have ea:a4J r=r:=by unfold a4J;rw [if_neg h]
    rw [decide_eq_false h,ea];refine ifI ?_;refine skI ?_;exact ⟨rfl,_,trivial,wkI⟩
  rintro n1 -;have hal:=b9A r;have hsa:=a3S (a4J r);rw [a5i] at hsa;have hn:=a5N (a4J r);rw [a5i] at hn;have hd:=a4W (a4J r);rw [(a6K r).2] at hd;have hh:=a5J (a4J r);rw [(a6K r).2] at hh;unfold a3J at hh;have hle:=a1v (txt (a4J r));have cs:=a6j (txt (a4J r)) (by omega);have hszA:=a0r (txt (a4J r));clear hsz hne hpos e2 en;generalize hT:txt (a4J r)=T at *;have eR:rR (a4J r)=str (sb T):=by rw [← hT]
  rw [eR];clear hT eR;refine sR 700 ?_;refine cI cs ?_;have w8:IntKind.i64.wrap ((T.length:Int) - (a0e T:Int))=((T.length - a0e T:Nat):Int):=by rw [wI (by omega) (by omega)];omega
  have eb:decide (((T.length - a0e T:Nat):Int)>10)=decide (10<T.length - a0e T):=decide_eq_decide.2 (by omega)
  by_cases h9:9<a0e T
  ·have e8:decide ((a0e T:Int)>9)=true:=decide_eq_true (by omega)
   rw [decide_eq_true h9] at eq;have eq2:qk r=false:=eq;rw [eq2];refine OkS.seq ?_;refine sZ 800 ?_;refine nwI e8 ?_;refine gwI kT ?_;refine ifI ?_;refine sR 900 ?_;refine rtI ?_;exact a0a rfl IsPure.out
  have e8:decide ((a0e T:Int)>9)=false:=decide_eq_false (by omega);rw [decide_eq_false h9] at eq
  by_cases h10:10<T.length - a0e T
  ·rw [decide_eq_true h10] at eq eb
   have eq2:qk r=false:=eq;rw [eq2];refine OkS.seq ?_;refine sZ 800 ?_;refine nwI e8 ?_;refine gwI (ff4 kF hszA w8 eb) ?_;refine ifI ?_;refine sR 900 ?_;refine rtI ?_;exact a0a rfl IsPure.out
  rw [decide_eq_false h10] at eq eb;have eq2:qk r=true:=eq;rw [eq2];refine OkS.seq ?_;refine sZ 800 ?_;refine nwI e8 ?_;refine gwI (ff4 kF hszA w8 eb) ?_;refine ifI ?_;refine skI ?_;have hd1:=a1k r.num.natAbs;have hd2:=a1k r.den;have c1:=b0m (Lib.decDigits r.num.natAbs) hd1.1 (by omega);rw [hd1.2.1] at c1;have e10:(sb T).extract 0 (a0e T)=sb (Lib.decDigits r.num.natAbs):=by
   rw [a1B,List.drop_zero,← hn];rfl
  refine sZ 1000 ?_;refine gwI (ff2 hszA kN) ?_;refine gwI e10 ?_;refine a0m.same _ c1 inferInstance ?_;refine stI ?_;refine OkS.seqX (α:=Nat) (fun n=>⟨[(6,boo (decide (r.num<0))),(8,i64 (r.num.natAbs:Int)),(9,i64 (r.den:Int))],[],n⟩) (fun _=>True) ?_ ?_
  ·by_cases hden:r.den=1
   ·rw [decide_eq_true hden] at hh
    have e11:decide ((a0e T:Int)<(T.length:Int))=false:=decide_eq_false (by have:=of_decide_eq_false (p:=a0e T<T.length) hh;omega);rw [hden];refine sZ 1100 ?_;refine nwI (ff2 hszA e11) ?_;refine ifI ?_;refine skI ?_;exact ⟨rfl,_,trivial,wkI⟩
   ·rw [decide_eq_false hden] at hh
    rw [if_neg hden] at hd;have hlt:=of_decide_eq_true (p:=a0e T<T.length) hh;have e11:decide ((a0e T:Int)<(T.length:Int))=true:=decide_eq_true (by omega);have wk:IntKind.i64.wrap (((a0e T:Nat):Int)+1)=((a0e T+1:Nat):Int):=wI (by omega) (by omega);have e12:(sb T).extract (a0e T+1) T.length=sb (Lib.decDigits r.den):=by
     rw [a1B,List.take_of_length_le (Nat.le_refl _),← hd];rfl
    have hdl:(Lib.decDigits r.den).length≤18:=by
     rw [← hd];unfold a1w;rw [List.length_drop];omega
    have c2:=b0m (Lib.decDigits r.den) hd2.1 hdl;rw [hd2.2.1] at c2;refine sZ 1100 ?_;refine nwI (ff2 hszA e11) ?_;refine ifI ?_;refine OkS.reg w1 1200 (by kernel_rfl) ?_;refine gwI (ff3 hszA wk kN) ?_;refine gwI e12 ?_;refine a0m.same _ c2 inferInstance ?_;refine stI ?_;exact ⟨trivial,_,trivial,wkI⟩
  rintro n2 -;obtain ⟨b1,b2⟩:=a5g eq2;refine OkS.seqX (α:=Nat) (fun n=>⟨[(8,i64 r.num),(9,i64 (r.den:Int))],[],n⟩) (fun _=>True) ?_ ?_
  ·refine sR 1300 ?_
   by_cases h:r.num<0
   ·have wn:IntKind.i64.wrap (0 - (r.num.natAbs:Int))=r.num:=by rw [wI (by omega) (by omega)];omega
    rw [decide_eq_true h];refine ifI ?_;refine OkS.reg w1 1400 (by kernel_rfl) ?_;refine nwI wn ?_;exact ⟨trivial,_,trivial,wkI⟩
   ·have en:(r.num.natAbs:Int)=r.num:=by omega
    rw [decide_eq_false h,en];refine ifI ?_;refine skI ?_;exact ⟨rfl,_,trivial,wkI⟩
  rintro n3 -;refine sR 1500 ?_;refine rtI ?_;exact a0a rfl IsPure.out
theorem b5u (b:Bool)(n:Nat):(sg b n).natAbs=n:=by unfold sg;split<;>omega
theorem c8q (z:Int)(d:Nat)(hz:z.natAbs≤4000000000000000000)(hd0:0<d)(hd:d≤4000000000000000000):a0b C0 31 [i64 z,i64 (d:Int)] (rR (mkRat z d)):=by
 refine a0c.walk w1 d0L rfl fun F=>?_
 have hg:0<Nat.gcd z.natAbs d:=Nat.gcd_pos_of_pos_right _ hd0;have hgl:Nat.gcd z.natAbs d≤d:=Nat.gcd_le_right _ hd0;obtain ⟨qn,qd⟩:=a6J (x:=z) (d:=d) (by omega);have etx:txt (mkRat z d)=if d / Nat.gcd z.natAbs d=1 then Lib.itoa (mkRat z d).num else Lib.itoa (mkRat z d).num++47::Lib.decDigits (d / Nat.gcd z.natAbs d):=by
  unfold txt;rw [qd]
 have q1:z.tdiv (Nat.gcd z.natAbs d:Nat)=(mkRat z d).num:=by
  rw [qn];obtain ⟨p,hp⟩:=Nat.gcd_dvd_left z.natAbs d;have e1:z.natAbs / Nat.gcd z.natAbs d=p:=Nat.div_eq_of_eq_mul_right hg hp;have e2:z=(Nat.gcd z.natAbs d:Int)*sg (decide (z<0)) p:=by
   have h0:(z.natAbs:Int)=(Nat.gcd z.natAbs d:Int)*(p:Int):=by rw [← Int.natCast_mul,← hp]
   unfold sg
   by_cases hx:z<0
   ·rw [decide_eq_true hx,if_pos rfl,Int.mul_neg,← h0];omega
   ·rw [decide_eq_false hx,if_neg (by decide),← h0];omega
  rw [e1]
  conv=>lhs;arg 1;rw [e2]
  rw [Int.mul_tdiv_cancel_left _ (by omega)]
 have q2:(d:Int).tdiv (Nat.gcd z.natAbs d:Nat)=((d / Nat.gcd z.natAbs d:Nat):Int):=rfl;have q5:(mkRat z d).num.natAbs≤4000000000000000000:=by
  rw [qn];rw [b5u];exact Nat.le_trans (Nat.div_le_self _ _) hz
 have q4:d / Nat.gcd z.natAbs d≤4000000000000000000:=Nat.le_trans (Nat.div_le_self _ _) hd;have hx:0<d / Nat.gcd z.natAbs d:=Nat.div_pos hgl hg;have ert:rR (mkRat z d)=str (sb (if d / Nat.gcd z.natAbs d=1 then Lib.itoa (mkRat z d).num else Lib.itoa (mkRat z d).num++47::Lib.decDigits (d / Nat.gcd z.natAbs d))):=by rw [← etx]
 rw [ert];clear etx ert qn qd;generalize (mkRat z d).num=pz at *;refine fR 0 ?_;refine OkS.seqW ⟨[(0,i64 z),(1,i64 d),(4,str ⟨#[]⟩)],[],50⟩ ?_ ?_
 ·refine OkS.seq ?_
  have l1:(decide (z < -4000000000000000000))=false:=by apply decide_eq_false;omega
  have l2:(decide (z>4000000000000000000))=false:=by apply decide_eq_false;omega
  have l3:(decide ((d:Int) < -4000000000000000000))=false:=by apply decide_eq_false;omega
  have l4:(decide ((d:Int)>4000000000000000000))=false:=by apply decide_eq_false;omega
  refine OkS.reg w1 100 (by kernel_rfl) ?_
  repeat' (first|(refine And.intro (by exact sdI) ?_;(refine dsI ?_);(try simp only [a8B,b5b,l1,l2,l3,l4]))|((refine brI (fun hb=>?_) (fun hb=>?_))<;>(try simp only [Bool.not_eq_true',Bool.not_eq_false'] at hb)<;>(try simp only [hb])<;>(refine dsI ?_)))
  refine ifI ?_;refine skI ?_;exact And.intro (by trivial) (wkI)
 refine OkS.seqW ⟨[(0,i64 z),(1,i64 d),(4,str ⟨#[]⟩)],[],100⟩ ?_ ?_
 ·refine fR 300 ?_
  refine ifI ?_;have e27:(decide ((d:Int)<0))=false:=by simp
  rw [e27];refine skI ?_;exact And.intro (by trivial) (wkI)
 refine OkS.seq ?_;have m1:max z (IntKind.i64.wrap (0 - z))=(z.natAbs:Int):=by rw [wI (by omega) (by omega)];omega
 refine OkS.reg w1 500 (by kernel_rfl) ?_;refine mwI m1 ?_;refine dI (c4D z.natAbs d (by omega) (by omega)) ?_;refine OkS.seq ?_;refine OkS.regD w1 600 [0,1,2,3,4,5,6] [7] (by kernel_rfl) ?_;refine nxI ?_;have w1p:IntKind.i64.wrap pz=pz:=wI (by omega) (by omega);rw [q1,q2,w1p,wN (Nat.le_trans q4 (by decide))];clear q1 q2 hg hgl;generalize d / Nat.gcd z.natAbs d=y at *;refine fR 700 ?_;have c1:=a4D pz.natAbs 1 (by omega);have c2:=a4D y 1 (by omega);rw [b7T] at c1 c2;have s1:=a1H 18 pz.natAbs (Nat.lt_of_le_of_lt q5 (by decide));have s2:=a1H 18 y (Nat.lt_of_le_of_lt q4 (by decide));have z1:=a7p (Lib.decDigits pz.natAbs);have z2:=a7p (Lib.decDigits y);have m1:max pz (IntKind.i64.wrap (0 - pz))=(pz.natAbs:Int):=by rw [wI (by omega) (by omega)];omega
 refine OkS.seqX (α:=Nat) (fun n=>⟨[(0,i64 pz),(1,i64 (y:Int)),(4,str ⟨#[]⟩),(6,str (sb (if pz<0 then [45] else [])))],[],n⟩) (fun _=>True) ?_ ?_
 ·refine fR 800 ?_
  by_cases h:pz<0
  ·rw [decide_eq_true h,if_pos h]
   refine ifI ?_;refine fI 900 ?_;exact ⟨rfl,_,trivial,wkI⟩
  ·rw [decide_eq_false h,if_neg h]
   refine ifI ?_;refine skI ?_;exact ⟨rfl,_,trivial,wkI⟩
 rintro n0 -;have ei:(if pz<0 then [45] else [])++Lib.decDigits pz.natAbs=Lib.itoa pz:=by
  unfold Lib.itoa;split
  ·rfl
  ·rw [show pz.toNat=pz.natAbs by omega];rfl
 have z3:=a0r (if pz<0 then [45] else []);have z4:(if pz<0 then [45] else []:List UInt8).length≤1:=by split<;>simp
 have z5:(Lib.itoa pz).length≤20:=by rw [← ei,List.length_append];omega
 refine sZ 1000 ?_;refine mwI m1 ?_;refine dI c1 ?_;rw [a3V,ei];have z6:=a7p (Lib.itoa pz);generalize Lib.itoa pz=t1 at *;clear ei z3 z4;refine OkS.seqX (α:=Nat) (fun n=>⟨[(6,str (sb (if y=1 then t1 else t1++47::Lib.decDigits y)))],[],n⟩) (fun _=>True) ?_ ?_
 ·refine fR 1100 ?_
  by_cases hy:y=1
  ·rw [if_pos hy]
   have e54:(decide ((y:Int)>1))=false:=by apply decide_eq_false;omega
   rw [e54];refine ifI ?_;refine skI ?_;exact ⟨rfl,_,trivial,wkI⟩
  ·rw [if_neg hy]
   have e54:(decide ((y:Int)>1))=true:=by apply decide_eq_true;omega
   have s3:(⟨#[47]⟩:ByteArray).size=1:=rfl;have sc:((⟨t1.toArray⟩:ByteArray)++(⟨#[47]⟩:ByteArray)).size=(⟨t1.toArray⟩:ByteArray).size+(⟨#[47]⟩:ByteArray).size:=ByteArray.size_append;rw [e54];refine ifI ?_;refine fI 1200 ?_;refine dI c2 ?_;have e47:(⟨#[47]⟩:ByteArray)=⟨([47]:List UInt8).toArray⟩:=rfl;rw [e47,a3V,a3V,List.append_assoc,List.cons_append,List.nil_append];exact ⟨rfl,_,trivial,wkI⟩
 rintro n1 -;refine fR 1300 ?_;refine rtI ?_;exact a0a rfl IsPure.out
theorem b2r {n k:Nat}(h:(a0f n).length≤k):(a0o n).length≤3*k:=by
 refine a1j (Nat.lt_of_lt_of_le (a2y n) ?_);rw [Nat.pow_mul];exact Nat.le_trans (Nat.pow_le_pow_right (by decide) h) (Nat.pow_le_pow_left (by decide) k)
theorem a9q {n k:Nat}(h:(a0f n).length≤k):(Lib.decDigits n).length≤27*k+1:=by
 have h1:=a7N (a0D n);rw [a0q] at h1
 have:=b2r h
 omega
theorem b6I {z:Int}{k:Nat}(h:(a0f z.natAbs).length≤k):(Lib.itoa z).length≤27*k+2:=by
 have:=a9q h
 unfold Lib.itoa;split
 ·rw [List.length_cons];omega
 ·rw [show z.toNat=z.natAbs by omega];omega
theorem a2t {r:Rat}{k:Nat}(h:rk r k)(hk:k≤10000):b0u r:=by
 have h1:=b6I h.1;have h2:=a9q h.2;unfold b0u txt;split
 ·omega
 ·rw [List.length_append,List.length_cons];omega
def LZ (x:Int)(p:Nat):Prop:=(a0o x.natAbs).length≤p
theorem LZ.mul {x y:Int}{p q:Nat}(hx:LZ x p)(hy:LZ y q):LZ (x*y) (p+q):=by
 unfold LZ at *;rw [Int.natAbs_mul]
 have:=a4X x.natAbs y.natAbs
 omega
theorem LZ.add {x y:Int}{p q:Nat}(hx:LZ x p)(hy:LZ y q):LZ (x+y) (p+q+1):=by
 unfold LZ at *;have h1:=a0w (x+y).natAbs (x.natAbs+y.natAbs) (Int.natAbs_add_le x y);have h2:=a4S x.natAbs y.natAbs;omega
theorem LZ.few {x:Int}{p:Nat}(h:LZ x p)(hp:p<1000000):b1o x:=Nat.lt_of_le_of_lt h hp
theorem LZ.num {r:Rat}{k:Nat}(h:rk r k):LZ r.num (3*k):=b2r h.1
theorem LZ.den {r:Rat}{k:Nat}(h:rk r k):LZ (r.den:Int) (3*k):=b2r h.2
theorem c7h (a b:Rat):qZ (a.num*b.den+b.num*a.den) ((a.den:Int)*b.den)=a+b:=by
 unfold qZ;have h:¬ ((a.den:Int)*b.den<0):=by
  rw [← Int.natCast_mul];omega
 rw [if_neg h,← Int.natCast_mul,Int.natAbs_natCast,Rat.add_def',]
theorem c8B (a b:Rat):qZ (a.num*b.num) ((a.den:Int)*b.den)=a*b:=by
 unfold qZ;have h:¬ ((a.den:Int)*b.den<0):=by
  rw [← Int.natCast_mul];omega
 rw [if_neg h,← Int.natCast_mul,Int.natAbs_natCast,Rat.mul_def']
theorem a3Z {x y:Int}(hx:x.natAbs<10^9)(hy:y.natAbs<10^9):(x*y).natAbs<10^18:=by
 rw [Int.natAbs_mul];exact Nat.lt_of_lt_of_le (Nat.mul_lt_mul'' hx hy) (by decide)
theorem d1q (a b:Rat)(i j:Nat)(ha:rk a i)(hb:rk b j)(hij:i+j≤10000):a0b C0 35 [rR a,rR b] (rR (a+b)):=by
 refine a0c.walk w1 d0C rfl fun F=>?_
 have ta:=a2t ha (by omega);have tb:=a2t hb (by omega);have qa:=b0h a ta;have qb:=b0h b tb
 by_cases hq:qk a=true∧qk b=true
 ·obtain ⟨h1,h2⟩:=hq
  obtain ⟨n1,d1⟩:=a5g h1;obtain ⟨n2,d2⟩:=a5g h2;rw [h1,if_pos rfl,if_pos rfl] at qa;rw [h2,if_pos rfl,if_pos rfl] at qb;have p1:=a3Z n1 (y:=(b.den:Int)) (by omega);have p2:=a3Z n2 (y:=(a.den:Int)) (by omega);have p3:=a3Z (x:=(a.den:Int)) (y:=(b.den:Int)) (by omega) (by omega);have m1:IntKind.i64.wrap (a.num*(b.den:Int))=a.num*b.den:=wI (by omega) (by omega);have m2:IntKind.i64.wrap (b.num*(a.den:Int))=b.num*a.den:=wI (by omega) (by omega);have m3:IntKind.i64.wrap (a.num*(b.den:Int)+b.num*(a.den:Int))=a.num*b.den+b.num*a.den:=wI (by omega) (by omega);have m4:IntKind.i64.wrap ((a.den:Int)*(b.den:Int))=((a.den*b.den:Nat):Int):=by rw [wI (by omega) (by omega),Int.natCast_mul]
  have p4:a.den*b.den<10^18:=by rw [← Int.natCast_mul,Int.natAbs_natCast] at p3;exact p3
  have cf:=c8q (a.num*b.den+b.num*a.den) (a.den*b.den) (by omega) (Nat.mul_pos a.den_pos b.den_pos) (by omega);rw [← Rat.add_def'] at cf;refine sR 0 ?_;refine sR 100 ?_;refine cI qa ?_;refine sR 200 ?_;refine cI qb ?_;refine OkS.seq ?_;refine sZ 300 ?_;refine gwI kT ?_;refine ifI ?_;refine sZ 400 ?_;refine nwI (ff4 m1 m2 m3 m4) ?_;refine cI cf ?_;refine rtI ?_;exact a0a rfl IsPure.out
 ·refine sR 0 ?_
  refine sR 100 ?_;refine cI qa ?_;refine sR 200 ?_;refine cI qb ?_;refine OkS.seqX (α:=Nat) (fun n=>⟨[(0,rR a),(1,rR b)],[],n⟩) (fun _=>True) ?_ ?_
  ·cases h1:qk a
   ·refine sZ 300 ?_
    refine gwI h1 ?_;refine gwI kF ?_;refine ifI ?_;refine skI ?_;exact ⟨rfl,_,trivial,wkI⟩
   ·have h2:qk b=false:=by
     cases h2:qk b
     ·rfl
     ·exact absurd ⟨h1,h2⟩ hq
    rw [h2];refine sZ 300 ?_;refine gwI h1 ?_;refine gwI kT ?_;refine ifI ?_;refine skI ?_;exact ⟨rfl,_,trivial,wkI⟩
  rintro n0 -;clear qa qb hq;have pa:=a5e (txt a) (a4x a) (a4p a) ta;have pb:=a5e (txt b) (a4x b) (a4p b) tb;rw [a5z,a7a] at pa pb;have lan:=LZ.num ha;have lad:=LZ.den ha;have lbn:=LZ.num hb;have lbd:=LZ.den hb;have da:=a.den_pos;have db:=b.den_pos;have c1:=a7s a.num b.den (lan.few (by omega)) (lbd.few (by omega));have c2:=a7s b.num a.den (lbn.few (by omega)) (lad.few (by omega));have c3:=c6Q (a.num*b.den) (b.num*a.den) ((lan.mul lbd).few (by omega)) ((lbn.mul lad).few (by omega));have c4:=a7s (a.den:Int) b.den (lad.few (by omega)) (lbd.few (by omega));have c5:=a5O (a.num*b.den+b.num*a.den) ((a.den:Int)*b.den) (by rw [← Int.natCast_mul];have:=Nat.mul_pos da db;omega) (((lan.mul lbd).add (lbn.mul lad)).few (by omega)) ((lad.mul lbd).few (by omega));rw [c7h] at c5;refine sR 500 ?_;refine cI pa ?_;refine sR 600 ?_;refine cI pb ?_;refine OkS.seq ?_;refine OkS.regD w1 700 [0,1,2,3,4,5,6,7,8] [9,10,11] (by kernel_rfl) ?_;refine gwI kN ?_
  first|refine a0n.same _ c1 inferInstance ?_|refine a0m.same _ c1 inferInstance ?_
  refine gwI kN ?_
  first|refine a0n.same _ c2 inferInstance ?_|refine a0m.same _ c2 inferInstance ?_
  refine gwI kN ?_
  first|refine a0n.same _ c3 inferInstance ?_|refine a0m.same _ c3 inferInstance ?_
  refine gwI kN ?_
  first|refine a0n.same _ c4 inferInstance ?_|refine a0m.same _ c4 inferInstance ?_
  refine gwI kN ?_
  first|refine a0n.same _ c5 inferInstance ?_|refine a0m.same _ c5 inferInstance ?_
  refine gwI kN ?_;refine rtI ?_;exact a0a rfl IsPure.out
theorem d0a (a b:Rat)(i j:Nat)(ha:rk a i)(hb:rk b j)(hij:i+j≤10000):a0b C0 36 [rR a,rR b] (rR (a*b)):=by
 refine a0c.walk w1 d0d rfl fun F=>?_
 have ta:=a2t ha (by omega);have tb:=a2t hb (by omega);have qa:=b0h a ta;have qb:=b0h b tb
 by_cases hq:qk a=true∧qk b=true
 ·obtain ⟨h1,h2⟩:=hq
  obtain ⟨n1,d1⟩:=a5g h1;obtain ⟨n2,d2⟩:=a5g h2;rw [h1,if_pos rfl,if_pos rfl] at qa;rw [h2,if_pos rfl,if_pos rfl] at qb;have p1:=a3Z n1 (y:=b.num) n2;have p3:=a3Z (x:=(a.den:Int)) (y:=(b.den:Int)) (by omega) (by omega);have m1:IntKind.i64.wrap (a.num*b.num)=a.num*b.num:=wI (by omega) (by omega);have m4:IntKind.i64.wrap ((a.den:Int)*(b.den:Int))=((a.den*b.den:Nat):Int):=by rw [wI (by omega) (by omega),Int.natCast_mul]
  have p4:a.den*b.den<10^18:=by rw [← Int.natCast_mul,Int.natAbs_natCast] at p3;exact p3
  have cf:=c8q (a.num*b.num) (a.den*b.den) (by omega) (Nat.mul_pos a.den_pos b.den_pos) (by omega);rw [← Rat.mul_def'] at cf;refine sR 0 ?_;refine sR 100 ?_;refine cI qa ?_;refine sR 200 ?_;refine cI qb ?_;refine OkS.seq ?_;refine sZ 300 ?_;refine gwI kT ?_;refine ifI ?_;refine sZ 400 ?_;refine nwI (ff2 m1 m4) ?_;refine cI cf ?_;refine rtI ?_;exact a0a rfl IsPure.out
 ·refine sR 0 ?_
  refine sR 100 ?_;refine cI qa ?_;refine sR 200 ?_;refine cI qb ?_;refine OkS.seqX (α:=Nat) (fun n=>⟨[(0,rR a),(1,rR b)],[],n⟩) (fun _=>True) ?_ ?_
  ·cases h1:qk a
   ·refine sZ 300 ?_
    refine gwI h1 ?_;refine gwI kF ?_;refine ifI ?_;refine skI ?_;exact ⟨rfl,_,trivial,wkI⟩
   ·have h2:qk b=false:=by
     cases h2:qk b
     ·rfl
     ·exact absurd ⟨h1,h2⟩ hq
    rw [h2];refine sZ 300 ?_;refine gwI h1 ?_;refine gwI kT ?_;refine ifI ?_;refine skI ?_;exact ⟨rfl,_,trivial,wkI⟩
  rintro n0 -;clear qa qb hq;have pa:=a5e (txt a) (a4x a) (a4p a) ta;have pb:=a5e (txt b) (a4x b) (a4p b) tb;rw [a5z,a7a] at pa pb;have lan:=LZ.num ha;have lad:=LZ.den ha;have lbn:=LZ.num hb;have lbd:=LZ.den hb;have da:=a.den_pos;have db:=b.den_pos;have c1:=a7s a.num b.num (lan.few (by omega)) (lbn.few (by omega));have c4:=a7s (a.den:Int) b.den (lad.few (by omega)) (lbd.few (by omega));have c5:=a5O (a.num*b.num) ((a.den:Int)*b.den) (by rw [← Int.natCast_mul];have:=Nat.mul_pos da db;omega) ((lan.mul lbn).few (by omega)) ((lad.mul lbd).few (by omega));rw [c8B] at c5;refine sR 500 ?_;refine cI pa ?_;refine sR 600 ?_;refine cI pb ?_;refine OkS.seq ?_;refine OkS.regD w1 700 [0,1,2,3,4] [5,6,7] (by kernel_rfl) ?_;refine gwI kN ?_
  first|refine a0n.same _ c1 inferInstance ?_|refine a0m.same _ c1 inferInstance ?_
  refine gwI kN ?_
  first|refine a0n.same _ c4 inferInstance ?_|refine a0m.same _ c4 inferInstance ?_
  refine gwI kN ?_
  first|refine a0n.same _ c5 inferInstance ?_|refine a0m.same _ c5 inferInstance ?_
  refine gwI kN ?_;refine rtI ?_;exact a0a rfl IsPure.out
theorem c9W (a b:Rat)(i j:Nat)(ha:rk a i)(hb:rk b j)(hij:i+j≤10000):a0b C0 60 [rR a,rR b] (rR (a - b)):=by
 refine a0c.walk w1 d1S rfl fun F=>?_
 have c1:=d1I b (a2t hb (by omega));have c2:=d1q a (-b) i j ha (b3Q hb) hij;rw [← Rat.sub_eq_add_neg] at c2;refine sR 0 ?_;refine sR 100 ?_;refine cI c1 ?_;refine cI c2 ?_;refine rtI ?_;exact a0a rfl IsPure.out
theorem c3e (a b:Rat):a3s (a - b)=a2H a b:=by
 unfold a3s a2H;have h1:(a - b).num<0↔a<b:=by
  have e:=Rat.lt_iff (a - b) 0;have e1:(a - b).num*((0:Rat).den:Int)<(0:Rat).num*((a - b).den:Int)↔(a - b).num<0:=by simp
  rw [← e1,← e];constructor<;>intro h<;>grind
 have h2:0<(a - b).num↔b<a:=by
  have e:=Rat.lt_iff 0 (a - b);have e1:(0:Rat).num*((a - b).den:Int)<(a - b).num*((0:Rat).den:Int)↔0<(a - b).num:=by simp
  rw [← e1,← e];constructor<;>intro h<;>grind
 by_cases h:a<b
 ·rw [if_pos h];have:=h1.2 h;omega
 ·rw [if_neg h]
  by_cases h':b<a
  ·rw [if_pos h'];have:=h2.2 h';omega
  ·rw [if_neg h']
   have:=mt h1.1 h
   have:=mt h2.1 h'
   omega
theorem d1t (a b:Rat)(i j:Nat)(ha:rk a i)(hb:rk b j)(hij:i+j<10000):a0b C0 33 [rR a,rR b] (i64 (a2H a b)):=by
 refine a0c.walk w1 d1c rfl fun F=>?_
 have c1:=c9W a b i j ha hb (by omega);have c2:=b3o (a - b) (a2t (b2Y ha hb) (by omega));rw [c3e] at c2;refine sR 0 ?_;refine sR 100 ?_;refine cI c1 ?_;refine cI c2 ?_;refine rtI ?_;exact a0a rfl IsPure.out
theorem c0m (c:UInt8):a0B c=(!decide ((c.toNat:Int)<48) && !decide ((c.toNat:Int)>57)):=by
 unfold a0B;rw [Bool.eq_iff_iff,Bool.and_eq_true,Bool.and_eq_true];simp only [Bool.not_eq_true',decide_eq_false_iff_not,Nat.ble_eq];omega
theorem b0Z {l:List UInt8}{i:Nat}{c:UInt8}(hc:l[i]? = some c)(h:(l.take i).all a0B=true):(l.take (i+1)).all a0B=a0B c:=by
 rw [List.take_add_one,hc,List.all_append,h];simp
theorem c7z {l:List UInt8}{i:Nat}{c:UInt8}(hc:l[i]? = some c)(h:a0B c=false):l.all a0B=false:=by
 cases ha:l.all a0B
 ·rfl
 ·have:=List.all_eq_true.1 ha c (List.mem_of_getElem? hc)
  rw [h] at this;cases this
theorem c0e (l:List UInt8)(hl:l.length≤1000000000):a0b C0 163 [str (sb l)] (boo (l.all a0B)):=by
 refine a0c.walk w1 c6s rfl fun F=>?_
 have hsz:=a0r l;refine sR 0 ?_;refine OkS.seq ?_;refine sR 100 ?_;refine OkS.block ?_;refine OkS.loop (α:=Nat × Nat) (fun p=>⟨[(0,str (sb l)),(3,i64 (p.1:Int))],[],p.2⟩) (fun p=>l.length - p.1) (fun p=>p.1≤l.length∧(l.take p.1).all a0B=true) (0,_) ⟨Nat.zero_le _,rfl⟩ wkI ?_;rintro ⟨i,n⟩ F ⟨hi,ha⟩;dsimp only at hi ha ⊢;refine OkS.seq ?_;refine sZ 200 ?_;refine nwI hsz ?_;refine ifI ?_
 (refine brI (fun hlt=>?_) (fun hlt=>?_))<;>(try simp only [Bool.not_eq_true',Bool.not_eq_false'] at hlt)<;>(try simp only [hlt])
 ·have hi2:i<l.length:=by
   have:=of_decide_eq_true hlt
   omega
  obtain ⟨c,hc⟩:∃ c,l[i]? = some c:=⟨l[i],List.getElem?_eq_getElem hi2⟩
  have hg:l.getD i 0=c:=by simp [hc]
  have wi:IntKind.i64.wrap ((i:Int)+1)=((i+1:Nat):Int):=wI (by omega) (by omega);have hid:=c0m c;have hat:=b0Z hc ha;have hno:=c7z hc;refine skI ?_;refine OkS.seq ?_;refine OkS.block ?_;refine sZ 400 ?_;refine nwI (ff2 kN hg) ?_
  by_cases c1:(c.toNat:Int)<48
  ·rw [decide_eq_true c1] at hid
   have e4:=decide_eq_true c1;simp only [e4];refine gwI kT ?_;refine ifI ?_;refine sR 500 ?_;refine rtI ?_;exact a0a (by rw [hno hid]) IsPure.out
  ·rw [decide_eq_false c1] at hid
   have e4:=decide_eq_false c1;simp only [e4];refine gwI (ff3 kF kN hg) ?_
   by_cases c2:(c.toNat:Int)>57
   ·rw [decide_eq_true c2] at hid ⊢
    refine ifI ?_;refine sR 500 ?_;refine rtI ?_;exact a0a (by rw [hno hid]) IsPure.out
   ·rw [decide_eq_false c2] at hid ⊢
    refine ifI ?_;refine skI ?_;refine OkS.reg w1 300 (by kernel_rfl) ?_;refine nwI wi ?_;exact ⟨(i+1,_),⟨hi2,hat.trans hid⟩,by dsimp only;omega,wkI⟩
 ·have hi2:i=l.length:=by
   have:=of_decide_eq_false hlt
   omega
  subst hi2;rw [List.take_of_length_le (Nat.le_refl _)] at ha;refine exI ?_;refine sR 600 ?_;refine rtI ?_;exact a0a (by rw [ha]) IsPure.out
theorem b8t (c : UInt8) : (((c.toNat : Nat) : Int) == 48) = decide (c = 48) := by
  rw [Bool.eq_iff_iff, beq_iff_eq, decide_eq_true_iff, ← UInt8.toNat_inj]
  exact ⟨fun h => by have : c.toNat = 48 := by omega
                     exact this, fun h => by rw [h]; rfl⟩
theorem c1g (l:List UInt8)(hl:l.length≤1000000000):a0b C0 88 [str (sb l)] (boo (a0W l)):=by
 refine a0c.walk w1 d0O rfl fun F=>?_
 have hsz:=a0r l;have cd:=c0e l hl;refine sR 0 ?_;refine OkS.seq ?_;refine OkS.seq ?_
 match l,hl,hsz,cd with
 | [],_,hsz,_ =>
  have e1:((((sb []).size:Nat):Int)==0)=true:=rfl;refine OkS.reg w1 100 (by kernel_rfl) ?_;refine nwI e1 ?_;refine gwI kT ?_;refine ifI ?_;refine sR 200 ?_;refine rtI ?_;exact a0a rfl IsPure.out
 | [c],hl,hsz,cd =>
  have e1:((((sb [c]).size:Nat):Int)==0)=false:=rfl;have e2:decide ((((sb [c]).size:Nat):Int)>1)=false:=rfl;have ep:a0W [c]=[c].all a0B:=by
   unfold a0W c1O
   by_cases h:c=48
   ·subst h;rfl
   ·simp [h]
  rw [ep];refine OkS.reg w1 100 (by kernel_rfl) ?_;refine nwI e1 ?_;refine gwI kF ?_;simp only [e2];refine gwI kF ?_;refine ifI ?_;refine skI ?_;refine sR 300 ?_;refine cI cd ?_;refine rtI ?_;exact a0a rfl IsPure.out
 | c::d::l,hl,hsz,cd =>
  have hs2:(sb (c::d::l)).size=l.length+2:=hsz;have e1:((((sb (c::d::l)).size:Nat):Int)==0)=false:=beq_eq_false_iff_ne.2 (by omega);have e2:decide ((((sb (c::d::l)).size:Nat):Int)>1)=true:=decide_eq_true (by omega);have e3:((((c::d::l).getD (Int.toNat 0) 0).toNat:Int)==48)=decide (c=48):=b8t c;have ep:a0W (c::d::l)=if c=48 then false else (c::d::l).all a0B:=by
   unfold a0W c1O
   by_cases h:c=48
   ·subst h;simp
   ·simp [h]
  rw [ep];refine OkS.reg w1 100 (by kernel_rfl) ?_;refine nwI e1 ?_;refine gwI (ff2 kF e2) ?_;refine gwI (ff4 kT e2 e3 kF) ?_
  by_cases h:c=48
  ·rw [decide_eq_true h,if_pos h]
   refine ifI ?_;refine sR 200 ?_;refine rtI ?_;exact a0a rfl IsPure.out
  ·rw [decide_eq_false h,if_neg h]
   refine ifI ?_;refine skI ?_;refine sR 300 ?_;refine cI cd ?_;refine rtI ?_;exact a0a rfl IsPure.out
theorem c6l (r:Rat)(h:r≠0):qZ (r.den:Int) r.num=r⁻¹:=by
 have hn:r.num≠0:=fun h1=>h (Rat.num_eq_zero.1 h1)
 rw [Rat.inv_def];unfold qZ;rcases Int.lt_or_gt_of_ne hn with h1|h1
 ·rw [if_pos h1]
  obtain ⟨m,hm⟩:∃ m,r.num=Int.negSucc m:=by
   cases hy:r.num with
   | ofNat n=>rw [hy] at h1;simp at h1;omega
   | negSucc k=>exact ⟨k,rfl⟩
  rw [hm];show mkRat (-(r.den:Int)) (m+1)=Rat.normalize (-(r.den:Int)) (m+1) (Nat.succ_ne_zero m);rw [Rat.normalize_eq_mkRat]
 ·rw [if_neg (by omega)]
  obtain ⟨m,hm⟩:∃ m:Nat,r.num=(m:Int):=⟨r.num.natAbs,by omega⟩
  rw [hm,Rat.divInt_ofNat,Int.natAbs_natCast]
theorem c7P (r:Rat)(k:Nat)(h:rk r k)(hk:k≤10000):a0b C0 135 [rR r] (rR ((r.num / r.den:Int):Rat)):=by
 refine a0c.walk w1 c5S rfl fun F=>?_
 have tr:=a2t h hk;have cw:=b5v r tr;refine sR 0 ?_;refine OkS.seq ?_;refine sR 100 ?_;refine cI cw ?_
 by_cases hd:r.den=1
 ·have er:((r.num / r.den:Int):Rat)=r:=by
   rw [hd];refine Rat.ext ?_ ?_
   ·rw [Rat.num_intCast];simp
   ·rw [Rat.den_intCast,hd]
  rw [decide_eq_true hd,er];refine ifI ?_;refine sR 200 ?_;refine rtI ?_;exact a0a rfl IsPure.out
 ·have pa:=a5e (txt r) (a4x r) (a4p r) tr
  rw [a5z,a7a] at pa;have ln:=LZ.num h;have ld:=LZ.den h;have cf:=b5l r.num r.den (by have:=r.den_pos;omega) (ln.few (by omega)) (ld.few (by omega));have hle:(r.num / (r.den:Int)).natAbs≤r.num.natAbs:=Int.natAbs_ediv_le_natAbs _ _;have ct:=b7x (r.num / (r.den:Int)) (Nat.lt_of_le_of_lt (a0w _ _ hle) (ln.few (by omega)));rw [← a4h] at ct;rw [decide_eq_false hd];refine ifI ?_;refine skI ?_;refine sR 300 ?_;refine cI pa ?_;refine sR 400 ?_;refine cI cf ?_;refine cI ct ?_;refine rtI ?_;exact a0a rfl IsPure.out
theorem d3h (r:Rat)(k:Nat)(h:rk r k)(hk:k≤10000)(h0:r≠0):a0b C0 201 [rR r] (rR r⁻¹):=by
 refine a0c.walk w1 c6v rfl fun F=>?_
 have tr:=a2t h hk;have pa:=a5e (txt r) (a4x r) (a4p r) tr;rw [a5z,a7a] at pa;have ln:=LZ.num h;have ld:=LZ.den h;have cf:=a5O (r.den:Int) r.num (fun h1=>h0 (Rat.num_eq_zero.1 h1)) (ld.few (by omega)) (ln.few (by omega));rw [c6l r h0] at cf;refine sR 0 ?_;refine sR 100 ?_;refine cI pa ?_;refine sR 200 ?_;refine cI cf ?_;refine rtI ?_;exact a0a rfl IsPure.out
theorem c3K (a b:Rat)(i j:Nat)(ha:rk a i)(hb:rk b j)(hij:i+j≤10000)(h0:b≠0):a0b C0 134 [rR a,rR b] (rR (a / b)):=by
 refine a0c.walk w1 c8T rfl fun F=>?_
 have c1:=d3h b j hb (by omega) h0;have c2:=d0a a b⁻¹ i j ha (b7s hb h0) hij;rw [← Rat.div_def] at c2;refine sR 0 ?_;refine sR 100 ?_;refine cI c1 ?_;refine cI c2 ?_;refine rtI ?_;exact a0a rfl IsPure.out
def a6f (r:Rat):Bool:=decide (600<(Lib.decDigits r.num.natAbs).length)||decide (600<(Lib.decDigits r.den).length)
theorem b5N (r:Rat)(k:Nat)(h:rk r k)(hk:k≤10000):a0b C0 54 [rR r] (i64 (if a6f r then 4 else 0)):=by
 refine a0c.walk w1 d1s rfl fun F=>?_
 have tr:=a2t h hk;have c1:=d0l r tr;have hn:rk ((r.num:Int):Rat) (k+1):=by
  refine ⟨by rw [Rat.num_intCast];have:=h.1;omega,by rw [Rat.den_intCast];have:=a0t (n:=1) (k:=1) (by decide);omega⟩
 have c2:=c6R ((r.num:Int):Rat) (by
  unfold b0u;rw [a4h]
  have:=b6I h.1
  omega)
 have c3:=d0f r tr;have e2:txt (if ((r.num:Int):Rat).num<0 then -((r.num:Int):Rat) else ((r.num:Int):Rat))=Lib.decDigits r.num.natAbs:=by
  have e:=a5i ((r.num:Int):Rat);rw [Rat.num_intCast] at e ⊢;rw [← e];unfold a4J;rw [Rat.num_intCast];split
  ·rw [← Rat.intCast_neg,a4h,Rat.num_intCast]
  ·rw [a4h,Rat.num_intCast]
 have e3:txt ((r.den:Int):Rat)=Lib.decDigits r.den:=by
  rw [a4h];rfl
 have s2:=a0r (Lib.decDigits r.num.natAbs);have s3:=a0r (Lib.decDigits r.den);unfold a6f;unfold rR at c2 c3;rw [e2] at c2;rw [e3] at c3;generalize Lib.decDigits r.num.natAbs=A at *;generalize Lib.decDigits r.den=B at *;have t2:decide ((A.length:Int)>600)=decide (600<A.length):=decide_eq_decide.2 (by omega);have t3:decide ((B.length:Int)>600)=decide (600<B.length):=decide_eq_decide.2 (by omega);refine sR 0 ?_;refine OkS.seq ?_;refine sR 100 ?_;refine cI c1 ?_;refine cI c2 ?_;simp only [s2,t2]
 by_cases h9:600<A.length
 ·rw [decide_eq_true h9]
  refine gwI kT ?_;refine ifI ?_;refine sR 200 ?_;refine rtI ?_;exact a0a rfl IsPure.out
 ·rw [decide_eq_false h9]
  refine gwI kF ?_;refine gcI kF ?_;refine a0m.same _ c3 inferInstance ?_;refine gwI (ff3 kF s3 t3) ?_
  by_cases h8:600<B.length
  ·rw [decide_eq_true h8]
   refine ifI ?_;refine sR 200 ?_;refine rtI ?_;exact a0a rfl IsPure.out
  ·rw [decide_eq_false h8]
   refine ifI ?_;refine skI ?_;refine sR 300 ?_;refine rtI ?_;exact a0a rfl IsPure.out
theorem b8Z (l:List UInt8):a0e l=(a2f l).length:=by
 have:=a1v l
 unfold a2f;rw [List.length_take];omega
theorem a5V (l:List UInt8):a2f (a0l l)=a0R l∧a1w (a0l l)=a1w l∧a3J (a0l l)=a3J l∧decide (a2f l=[45,48])=(a1K l&&decide (a0R l=[48])):=by
 cases hb:a1K l
 ·have ed:a0l l=l:=by unfold a0l;rw [hb];rfl
  have en:a1K (a2f l)=false:=by
   unfold a2f;cases l with
   | nil=>rfl
   | cons c l =>
    cases hk:a0e (c::l) with
    | zero=>rfl
    | succ k=>exact hb
  have es:a0R l=a2f l:=by unfold a0R a0l;rw [en];rfl
  rw [ed,es];refine ⟨rfl,rfl,rfl,?_⟩;rw [Bool.false_and];refine decide_eq_false fun h=>?_
  rw [h] at en;cases en
 ·cases l with
  | nil=>cases hb
  | cons c m =>
   have hc:c=45:=by simpa [a1K] using hb
   subst hc;have ed:a0l (45::m)=m:=rfl;have e1:a0e (45::m)=a0e m+1:=by
    unfold a0e;rw [List.takeWhile_cons,if_pos (by decide),List.length_cons]
   have e2:a2f (45::m)=45::a2f m:=by unfold a2f;rw [e1,List.take_succ_cons]
   have e3:a1w (45::m)=a1w m:=by unfold a1w;rw [e1,List.drop_succ_cons]
   have e4:a3J (45::m)=a3J m:=by unfold a3J;rw [e1,List.length_cons];exact decide_eq_decide.2 (by omega)
   have e5:a0R (45::m)=a2f m:=by unfold a0R;rw [e2];rfl
   rw [ed,e2,e3,e4,e5];refine ⟨rfl,rfl,rfl,?_⟩;rw [Bool.true_and];exact decide_eq_decide.2 (by simp)
theorem a4E (l:List UInt8):a3y l=((!a0W (a0R l)||(a1K l&&decide (a0R l=[48])))||(a3J l&&(!a0W (a1w l)||decide (a1w l=[48])||decide (a1w l=[49])))):=by
 unfold a3y;rw [(a5V l).2.2.2]
theorem c0H {l:List UInt8}(h:a0W l=true):l≠[]:=(a2q h).1
theorem c0X {l:List UInt8}(h:0<l.length):(((l.getD (Int.toNat 0) 0).toNat:Int)==45)=a1K l:=by
 cases l with
 | nil=>cases h
 | cons c l=>exact a7b c l
theorem b3O (l:List UInt8)(hl:l.length≤100000):a0b C0 32 [str (sb l)] (i64 (chk l)):=by
 refine a0c.walk w1 d1T rfl fun F=>?_
 have hsz:=a0r l;obtain ⟨p1,p2,p3,-⟩:=a5V l;have hdl:(a0l l).length≤l.length:=by
  unfold a0l;split
  ·rw [List.length_drop];omega
  ·exact Nat.le_refl _
 have hbf:=a4E l;have hchk1:(!a0W (a0R l)||(a1K l&&decide (a0R l=[48])))=true→chk l=1:=fun h=>by
  unfold chk;rw [hbf,h,Bool.true_or,if_pos rfl]
 have hchk2:(a3J l&&(!a0W (a1w l)||decide (a1w l=[48])||decide (a1w l=[49])))=true→chk l=1:=fun h=>by
  unfold chk;rw [hbf,h,Bool.or_true,if_pos rfl]
 have hne:a0W (a0R l)=true→0<l.length:=fun h=>by
  cases l with
  | nil=>exact absurd rfl (c0H h)
  | cons c l=>rw [List.length_cons];omega
 refine sR 0 ?_;refine sR 100 ?_;refine OkS.seqX (α:=Nat) (fun n=>⟨[(0,str (sb l)),(3,str (sb (a0l l)))],[],n⟩) (fun _=>True) ?_ ?_
 ·rcases Nat.eq_zero_or_pos l.length with h0|h0
  ·have e0:l=[]:=List.eq_nil_of_length_eq_zero h0
   have e1:decide (((sb []).size:Int)>0)=false:=rfl;have ed:a0l l=l:=by rw [e0];rfl
   rw [ed,e0];refine sZ 200 ?_;refine nwI e1 ?_;refine gwI kF ?_;refine ifI ?_;refine skI ?_;exact ⟨rfl,_,trivial,wkI⟩
  ·have e0:decide (((sb l).size:Int)>0)=true:=decide_eq_true (by omega)
   have e1:=c0X h0;refine sZ 200 ?_;refine gwI e0 ?_;refine gwI (ff3 kT e0 e1) ?_;cases hb:a1K l
   ·have ed:a0l l=l:=by unfold a0l;rw [hb];rfl
    rw [ed];refine ifI ?_;refine skI ?_;exact ⟨rfl,_,trivial,wkI⟩
   ·have ed:a0l l=l.drop 1:=by unfold a0l;rw [hb];rfl
    have ee:(sb l).extract (Int.toNat 1) l.length=sb (a0l l):=by
     rw [a1B,List.take_of_length_le (Nat.le_refl _),ed];rfl
    refine ifI ?_;refine OkS.reg w1 300 (by kernel_rfl) ?_;refine gwI (ff2 hsz kN) ?_;rw [ee];exact ⟨trivial,_,trivial,wkI⟩
 rintro n0 -;have cs:=a6j (a0l l) (by omega);have hle:=a1v (a0l l);have hszS:=a0r (a0l l);have hhs:a3J l=decide (a0e (a0l l)<(a0l l).length):=p3.symm;have e10:(sb (a0l l)).extract 0 (a0e (a0l l))=sb (a0R l):=by rw [← p1,a1B,List.drop_zero];rfl
 have e11:(sb (a0l l)).extract (a0e (a0l l)+1) (a0l l).length=sb (a1w l):=by rw [← p2,a1B,List.take_of_length_le (Nat.le_refl _)];rfl
 have hNl:a0e (a0l l)=(a0R l).length:=by rw [← p1];exact b8Z _
 have hDl:(a1w l).length=(a0l l).length - (a0e (a0l l)+1):=by rw [← p2];unfold a1w;rw [List.length_drop]
 have pp:=fun h1 h2=>a5e (a0l l) h1 h2 (by omega)
 unfold c6p c9u at pp;rw [p1,p2,p3] at pp;have edef:chk l=if a3y l then 1 else if 600<(a0R l).length∨600<(a1w l).length then 4 else if a3J l=true∧Nat.gcd (dv (a0R l)) (dv (a1w l))≠1 then 1 else 0:=rfl
 rw [hbf] at edef;generalize hN:a0R l=Nn at *;generalize hD:a1w l=Dn at *;generalize hH:a3J l=hv at *;generalize hK:chk l=Kn at *;generalize a0l l=Sn at *;generalize a0e Sn=k at *;clear p1 p2 p3 hbf hN hD hH hK;have cf:=c1g Nn (by omega);have cf2:=c1g Dn (by omega);have q0:=a4G Nn [48];have q1:=a4G Dn [48];have q2:=a4G Dn [49];refine sR 400 ?_;refine cI cs ?_;refine OkS.seqX (α:=Nat) (fun n=>⟨[(0,str (sb l)),(3,str (sb Sn)),(4,i64 (k:Int))],[],n⟩) (fun _=>(!a0W Nn||(a1K l&&decide (Nn=[48])))=false) ?_ ?_
 ·refine sZ 500 ?_
  refine gwI (ff2 hszS kN) ?_;refine gwI e10 ?_;cases hp:a0W Nn
  ·rw [hp] at cf
   refine a0m.same _ cf inferInstance ?_;refine stI ?_;simp only [Bool.not_false];refine gwI kT ?_;refine ifI ?_;refine sR 600 ?_;refine rtI ?_;exact a0a (by rw [hchk1 (by rw [hp];rfl)];rfl) IsPure.out
  ·rw [hp] at cf
   have hl0:=hne hp;have e1:=c0X hl0;refine a0m.same _ cf inferInstance ?_;refine stI ?_;simp only [Bool.not_true];refine gwI (ff3 kF hsz e1) ?_;have q0':a0E (sb Nn) ⟨#[48]⟩=decide (Nn=[48]):=q0;cases hb:a1K l
   ·refine gwI kF ?_
    refine ifI ?_;refine skI ?_;exact ⟨rfl,_,rfl,wkI⟩
   ·refine gwI (ff4 kT kF hszS kN) ?_
    refine gwI (ff4 kT kF e10 q0') ?_
    by_cases h0:Nn=[48]
    ·rw [decide_eq_true h0]
     refine ifI ?_;refine sR 600 ?_;refine rtI ?_;exact a0a (by rw [hchk1 (by simp [hp,hb,h0])];rfl) IsPure.out
    ·rw [decide_eq_false h0]
     refine ifI ?_;refine skI ?_;exact ⟨rfl,_,by simp,wkI⟩
 rintro n1 hb1;clear hchk1 hne cf q0;refine OkS.seqX (α:=Nat) (fun n=>⟨[(0,str (sb l)),(3,str (sb Sn)),(4,i64 (k:Int))],[],n⟩) (fun _=>(hv&&(!a0W Dn||decide (Dn=[48])||decide (Dn=[49])))=false) ?_ ?_
 ·cases hv
  ·have e40:decide ((k:Int)<(Sn.length:Int))=false:=decide_eq_false (by have:=of_decide_eq_false hhs.symm;omega)
   refine sZ 700 ?_;refine nwI (ff2 hszS e40) ?_;refine gwI kF ?_;refine ifI ?_;refine skI ?_;exact ⟨rfl,_,rfl,wkI⟩
  ·have hkl:=of_decide_eq_true hhs.symm
   have e40:decide ((k:Int)<(Sn.length:Int))=true:=decide_eq_true (by omega);have wk:IntKind.i64.wrap ((k:Int)+1)=((k+1:Nat):Int):=wI (by omega) (by omega);have q1':a0E (sb Dn) ⟨#[48]⟩=decide (Dn=[48]):=q1;have q2':a0E (sb Dn) ⟨#[49]⟩=decide (Dn=[49]):=q2;refine sZ 700 ?_;refine nwI (ff2 hszS e40) ?_;refine gwI (ff4 kT wk hszS kN) ?_;simp only [e11];refine gcI kT ?_;cases hp:a0W Dn
   ·rw [hp] at cf2
    refine a0m.same _ cf2 inferInstance ?_;refine gwI kB ?_;refine gwI kT ?_;refine ifI ?_;refine sR 800 ?_;refine rtI ?_;exact a0a (by rw [hchk2 (by simp [hp])];rfl) IsPure.out
   ·rw [hp] at cf2
    have e12:(sb Sn).extract (IntKind.i64.wrap ((k:Int)+1)).toNat (sb Sn).size=sb Dn:=by rw [wk,hszS,Int.toNat_natCast];exact e11
    refine a0m.same _ cf2 inferInstance ?_;refine gwI kB ?_;simp only [e12,q1']
    by_cases h48:Dn=[48]
    ·rw [decide_eq_true h48]
     refine gwI kT ?_;refine ifI ?_;refine sR 800 ?_;refine rtI ?_;exact a0a (by rw [hchk2 (by simp [h48])];rfl) IsPure.out
    ·rw [decide_eq_false h48]
     refine gwI kB ?_;simp only [e12,q2']
     by_cases h49:Dn=[49]
     ·rw [decide_eq_true h49]
      refine ifI ?_;refine sR 800 ?_;refine rtI ?_;exact a0a (by rw [hchk2 (by simp [h49])];rfl) IsPure.out
     ·rw [decide_eq_false h49]
      refine ifI ?_;refine skI ?_;exact ⟨rfl,_,by simp,wkI⟩
 rintro n2 hb2;clear hchk2 cf2 q1 q2 e10 e11 hsz;have hpN:a0W Nn=true:=by
  cases h:a0W Nn
  ·rw [h] at hb1;simp at hb1
  ·rfl
 have hpD:hv=true→a0W Dn=true:=fun h0=>by
  cases h:a0W Dn
  ·rw [h,h0] at hb2;simp at hb2
  ·rfl
 rw [hb1,hb2] at edef;rw [if_neg (by decide)] at edef;have wl1:IntKind.i64.wrap ((Sn.length:Int) - (k:Int))=(Sn.length:Int) - (k:Int):=wI (by omega) (by omega);have wl2:IntKind.i64.wrap ((Sn.length:Int) - (k:Int) - 1)=(Sn.length:Int) - (k:Int) - 1:=wI (by omega) (by omega);have e91:decide ((Sn.length:Int) - (k:Int) - 1>600)=decide (600<Dn.length):=decide_eq_decide.2 (by omega);refine OkS.seqX (α:=Nat) (fun n=>⟨[(3,str (sb Sn)),(4,i64 (k:Int))],[],n⟩) (fun _=>Nn.length≤600∧Dn.length≤600) ?_ ?_
 ·by_cases g1:600<k
  ·have e9:decide ((k:Int)>600)=true:=decide_eq_true (by omega)
   rw [if_pos (.inl (by omega))] at edef;refine sZ 900 ?_;refine nwI e9 ?_;refine gwI kT ?_;refine ifI ?_;refine sR 1000 ?_;refine rtI ?_;exact a0a (by rw [edef];rfl) IsPure.out
  ·have e9:decide ((k:Int)>600)=false:=decide_eq_false (by omega)
   refine sZ 900 ?_;refine nwI e9 ?_;refine gwI (ff5 kF hszS wl1 wl2 e91) ?_
   by_cases g2:600<Dn.length
   ·rw [if_pos (.inr g2)] at edef
    rw [decide_eq_true g2];refine ifI ?_;refine sR 1000 ?_;refine rtI ?_;exact a0a (by rw [edef];rfl) IsPure.out
   ·rw [decide_eq_false g2]
    refine ifI ?_;refine skI ?_;exact ⟨rfl,_,⟨by omega,by omega⟩,wkI⟩
 rintro n3 ⟨g1,g2⟩;rw [if_neg (by omega)] at edef;clear e91 wl1 wl2 hb1 hb2;obtain ⟨-,dN⟩:=a2q hpN;refine OkS.seqX (α:=Nat) (fun n=>⟨[],[],n⟩) (fun _=>Kn=0) ?_ ?_
 ·cases hv
  ·have e40:decide ((k:Int)<(Sn.length:Int))=false:=decide_eq_false (by have:=of_decide_eq_false hhs.symm;omega)
   rw [if_neg (by simp)] at edef;refine sZ 1100 ?_;refine nwI (ff2 hszS e40) ?_;refine ifI ?_;refine skI ?_;exact ⟨rfl,_,edef,wkI⟩
  ·have hkl:=of_decide_eq_true hhs.symm
   have e40:decide ((k:Int)<(Sn.length:Int))=true:=decide_eq_true (by omega);obtain ⟨-,dD⟩:=a2q (hpD rfl);have pa:=pp (by rw [a1A dN];exact dN) (by rw [a1A dD];exact dD);rw [if_pos rfl,a9g dN,a9g dD] at pa;have lN:(a0o (dv Nn)).length<1000000:=Nat.lt_of_le_of_lt (a1j (Nat.lt_of_lt_of_le (a5S Nn dN) (Nat.pow_le_pow_left (by decide) Nn.length))) (by omega);have lD:(a0o (dv Dn)).length<1000000:=Nat.lt_of_le_of_lt (a1j (Nat.lt_of_lt_of_le (a5S Dn dD) (Nat.pow_le_pow_left (by decide) Dn.length))) (by omega);have cg:a0b C0 90 [rD ((dv Nn:Int)).natAbs,rD ((dv Dn:Int)).natAbs] (.sl false 1 ((a0o (Nat.gcd (dv Nn) (dv Dn))).map a0p)):=b3n (dv Nn) (dv Dn) lN lD;have ht:=b3C (Nat.gcd (dv Nn) (dv Dn));have ed1:Nat.gcd (dv Nn) (dv Dn)≠1→Kn=1:=fun h=>by rw [if_pos ⟨rfl,h⟩] at edef;exact edef
   have ed0:Nat.gcd (dv Nn) (dv Dn)=1→Kn=0:=fun h=>by rw [if_neg (fun hh=>hh.2 h)] at edef;exact edef
   clear edef;generalize Nat.gcd (dv Nn) (dv Dn)=gg at *;refine sZ 1100 ?_;refine nwI (ff2 hszS e40) ?_;refine ifI ?_;refine sR 1200 ?_;refine cI pa ?_;refine sR 1300 ?_;refine cI cg ?_;rcases ht with ⟨t1,a,ha,t2⟩|⟨t1,t2⟩
   ·have ha':=a6o ha
    have t1n:((((a0o gg).map a0p).length:Int) != 1)=false:=by unfold bne;rw [t1];rfl
    have t2n:((a:Int) != 1) = !decide (gg=1):=by unfold bne;rw [t2]
    refine sZ 1400 ?_;refine nwI t1n ?_;refine gwI kF ?_;refine ixI kF ha' ?_;refine gwI (ff2 kF t2n) ?_
    by_cases hg1:gg=1
    ·rw [decide_eq_true hg1]
     refine ifI ?_;refine skI ?_;exact ⟨rfl,_,ed0 hg1,wkI⟩
    ·rw [decide_eq_false hg1]
     refine ifI ?_;refine sR 1500 ?_;refine rtI ?_;exact a0a (by rw [ed1 hg1];rfl) IsPure.out
   ·have edf:=ed1 t2
    have t1n:((((a0o gg).map a0p).length:Int) != 1)=true:=by unfold bne;rw [t1];rfl
    refine sZ 1400 ?_;refine nwI t1n ?_;refine gwI kT ?_;refine ifI ?_;refine sR 1500 ?_;refine rtI ?_;exact a0a (by rw [edf];rfl) IsPure.out
 rintro n4 h0;refine sR 1600 ?_;refine rtI ?_;exact a0a (by rw [h0];rfl) IsPure.out
theorem b9T {n k:Nat}(hn:n≠0)(hk:k<10):Lib.decDigits (n*10+k)=Lib.decDigits n++[UInt8.ofNat (48+k)]:=by
 rw [Lib.decDigits,dif_neg (by omega)]
 congr 2
 ·omega
 ·congr 2;omega
theorem b3G {c:UInt8}(h:a0B c=true):UInt8.ofNat (48+(c.toNat - 48))=c:=by
 obtain ⟨h1,h2⟩:=a2g h;rw [← UInt8.toNat_inj,a6S _ (by omega)];omega
theorem c3Z (l:List UInt8)(c:UInt8):dv (l++[c])=dv l*10+(c.toNat - 48):=by
 rw [a4d];simp [dv,dvF]
theorem c9c:∀ (n:Nat) (l:List UInt8),l.length=n→l≠[]→l.all a0B=true→l.head? ≠ some 48→dv l≠0∧Lib.decDigits (dv l)=l:=fun n=>by
 induction n with
 | zero=>intro l h0 h1;exact absurd (List.eq_nil_of_length_eq_zero h0) h1
 | succ n ih =>
  intro l h0 h1 h2 h3;rcases List.eq_nil_or_concat l with rfl|⟨m,c,rfl⟩
  ·exact absurd rfl h1
  ·rw [List.concat_eq_append] at h0 h1 h2 h3 ⊢
   rw [List.all_append,Bool.and_eq_true] at h2;have hc:a0B c=true:=by simpa using h2.2
   obtain ⟨c1,c2⟩:=a2g hc;rw [c3Z]
   by_cases hm:m=[]
   ·subst hm
    have hc48:c≠48:=fun h=>h3 (by rw [h];rfl)
    have hcn:c.toNat≠48:=fun h=>hc48 (UInt8.toNat_inj.1 h)
    have e0:dv []*10+(c.toNat - 48)=c.toNat - 48:=by simp [dv,dvF]
    rw [e0];refine ⟨by omega,?_⟩;rw [Lib.decDigits,dif_pos (by omega),b3G hc];rfl
   ·have hh:m.head? ≠ some 48:=by
     cases m with
     | nil=>exact absurd rfl hm
     | cons a m=>exact h3
    obtain ⟨i1,i2⟩:=ih m (by rw [List.length_append,List.length_singleton] at h0;omega) hm h2.1 hh;refine ⟨by omega,?_⟩;rw [b9T i1 (by omega),i2,b3G hc]
theorem a7Q {l:List UInt8}(h:a0W l=true):Lib.decDigits (dv l)=l∧(l≠[48]→dv l≠0):=by
 obtain ⟨h1,h2⟩:=a2q h
 by_cases h0:l=[48]
 ·subst h0
  refine ⟨?_,fun hh=>absurd rfl hh⟩;show Lib.decDigits 0=[48];rw [Lib.decDigits,dif_pos (by decide)];rfl
 ·have h3:l.head? ≠ some 48:=by
   unfold a0W at h;rw [Bool.and_eq_true,decide_eq_false h0,Bool.false_or] at h
   have:=h.2
   simpa using this
  obtain ⟨a,b⟩:=c9c _ l rfl h1 h2 h3;exact ⟨b,fun _=>a⟩
theorem b4i:∀ {l:List UInt8},a0e l<l.length→l.drop (a0e l)=47::l.drop (a0e l+1)
 | [],h=>by cases h
 | c::l,h=>by
  by_cases hc:c=47
  ·subst hc;rfl
  ·have e1:a0e (c::l)=a0e l+1:=by
    unfold a0e;rw [List.takeWhile_cons,if_pos (by simpa using hc),List.length_cons]
   rw [e1,List.length_cons] at h;rw [e1,List.drop_succ_cons,List.drop_succ_cons];exact b4i (by omega)
def b4K (l:List UInt8):Nat:=if a3J l then dv (a1w l) else 1
def a0d (l:List UInt8):Rat:=mkRat (rv (a2f l)) (b4K l)
theorem b7M {n:Int}{d:Nat}(hd:d≠0)(h:Nat.gcd n.natAbs d=1):(mkRat n d).num=n∧(mkRat n d).den=d:=by
 obtain ⟨q1,q2⟩:=a6J (x:=n) hd;rw [h,Nat.div_one] at q1 q2;rw [b3m] at q1;exact ⟨q1,q2⟩
theorem a9Z {l:List UInt8}(h:chk l=0):a3y l=false∧(a0R l).length≤600∧(a1w l).length≤600∧(a3J l=true→Nat.gcd (dv (a0R l)) (dv (a1w l))=1):=by
 unfold chk at h;cases hb:a3y l
 ·rw [hb,if_neg (by decide)] at h
  split at h
  ·cases h
  ·rename_i h1
   split at h
   ·cases h
   ·rename_i h2
    refine ⟨rfl,by omega,by omega,fun h3=>?_⟩;rcases Nat.decEq (Nat.gcd (dv (a0R l)) (dv (a1w l))) 1 with h4|h4
    ·exact absurd ⟨h3,h4⟩ h2
    ·exact h4
 ·rw [hb,if_pos rfl] at h;cases h
theorem a2n {l:List UInt8}(h:chk l=0):(a0d l).num=rv (a2f l)∧(a0d l).den=b4K l∧txt (a0d l)=l∧(rv (a2f l)).natAbs=dv (a0R l):=by
 obtain ⟨h1,h2,h3,h4⟩:=a9Z h;rw [a4E] at h1;simp only [Bool.or_eq_false_iff] at h1;obtain ⟨⟨b1,b2⟩,b3⟩:=h1;have p1:a0W (a0R l)=true:=by simpa using b1
 obtain ⟨d1,d2⟩:=a7Q p1;have hab:(rv (a2f l)).natAbs=dv (a0R l):=by
  show (rv (a2f l)).natAbs=dv (a0l (a2f l));unfold rv;split<;>omega
 have hdd:a3J l=true→a0W (a1w l)=true∧a1w l≠[48]∧a1w l≠[49]:=fun hs=>by
  rw [hs,Bool.true_and] at b3;simp only [Bool.or_eq_false_iff] at b3;exact ⟨by simpa using b3.1.1,of_decide_eq_false b3.1.2,of_decide_eq_false b3.2⟩
 have hd0:b4K l≠0:=by
  unfold b4K;cases hs:a3J l
  ·simp
  ·obtain ⟨e1,e2,e3⟩:=hdd hs
   simpa using (a7Q e1).2 e2
 have hg:Nat.gcd (rv (a2f l)).natAbs (b4K l)=1:=by
  rw [hab];unfold b4K;cases hs:a3J l
  ·simp
  ·simpa using h4 hs
 obtain ⟨m1,m2⟩:=b7M hd0 hg;refine ⟨m1,m2,?_,hab⟩;have hi:Lib.itoa (rv (a2f l))=a2f l:=by
  cases hb:a1K (a2f l)
  ·have e1:a0R l=a2f l:=by unfold a0R a0l;rw [hb];rfl
   rw [e1] at d1;have e2:rv (a2f l)=(dv (a2f l):Int):=by unfold rv a0l;rw [hb];rfl
   rw [e2];unfold Lib.itoa;rw [if_neg (by omega)];exact d1
  ·obtain ⟨m,hm⟩:∃ m,a2f l=45::m:=by
    cases hn:a2f l with
    | nil=>rw [hn] at hb;cases hb
    | cons c m =>
     rw [hn] at hb;exact ⟨m,by rw [show c=45 by simpa [a1K] using hb]⟩
   have e1:a0R l=m:=by unfold a0R;rw [hm];rfl
   have hne:a0R l≠[48]:=fun h=>by
    have:=(a5V l).2.2.2
    rw [b2,hm] at this;have h2:=of_decide_eq_false this;rw [e1] at h;exact h2 (by rw [h])
   have hpos:=d2 hne;rw [e1] at d1 hpos;have e2:rv (a2f l) = -(dv m:Int):=by rw [hm];rfl
   rw [e2];unfold Lib.itoa;rw [if_pos (by omega),Int.natAbs_neg,Int.natAbs_natCast,d1,hm]
 unfold txt;rw [show (a0d l).num=rv (a2f l) from m1,show (a0d l).den=b4K l from m2,hi];have hle:=a1v l;cases hs:a3J l
 ·have e1:b4K l=1:=by unfold b4K;rw [hs];rfl
  have e2:=of_decide_eq_false (p:=a0e l<l.length) hs;rw [if_pos e1];unfold a2f;exact List.take_of_length_le (by omega)
 ·obtain ⟨e1,e2,e3⟩:=hdd hs
  have e4:b4K l=dv (a1w l):=by unfold b4K;rw [hs];rfl
  have e5:=(a7Q e1).1;have e6:dv (a1w l)≠1:=fun h=>by
   rw [h,Lib.decDigits,dif_pos (by decide)] at e5;exact e3 e5.symm
  rw [e4,if_neg e6,e5];unfold a2f a1w;rw [← b4i (of_decide_eq_true hs),List.take_append_drop]
theorem a5d {l:List UInt8}(h:chk l=0):(a0R l).all a0B=true∧(a3J l=true→(a1w l).all a0B=true):=by
 obtain ⟨h1,-,-,-⟩:=a9Z h;rw [a4E] at h1;simp only [Bool.or_eq_false_iff] at h1;obtain ⟨⟨b1,-⟩,b3⟩:=h1;refine ⟨(a2q (by simpa using b1)).2,fun hs=>?_⟩;rw [hs,Bool.true_and] at b3;simp only [Bool.or_eq_false_iff] at b3;exact (a2q (by simpa using b3.1.1)).2
theorem a3I {l:List UInt8}(h:chk l=0):rk (a0d l) 600:=by
 obtain ⟨m1,m2,-,m4⟩:=a2n h;obtain ⟨-,h2,h3,-⟩:=a9Z h;obtain ⟨p1,p2⟩:=a5d h;have hb:∀ k,(10:Nat)^k≤BB^k:=fun k=>Nat.pow_le_pow_left (by decide) k
 refine ⟨?_,?_⟩
 ·rw [m1,m4]
  exact Nat.le_trans (a0t (Nat.lt_of_lt_of_le (a5S _ p1) (hb _))) h2
 ·rw [m2]
  unfold b4K;cases hs:a3J l
  ·exact Nat.le_trans (a0t (n:=1) (k:=1) (by decide)) (by decide)
  ·exact Nat.le_trans (a0t (Nat.lt_of_lt_of_le (a5S _ (p2 hs)) (hb _))) h3
theorem a1n {l:List UInt8}(h:chk l=0):FR (a0d l) (a0v l) 600:=by
 obtain ⟨m1,m2,-,-⟩:=a2n h;refine ⟨⟨a0F _,?_,?_⟩,a3I h⟩
 ·show (mkG (rv (a2f l))).z=_
  rw [a1t,m1]
 ·show (if a3J l then dv (a1w l) else 1)=_
  rw [m2];rfl
theorem a4Q {l:List UInt8}(hl:l.length≤100000)(h:chk l=0):a0b C0 63 [str (sb l)] (a0v l).D:=c4I l hl (a5d h).1 (a5d h).2
def a2L:List (List UInt8)→Nat
 | []=>0
 | l::r=>if chk l≠0 then chk l else a2L r
theorem a7u {v:List (List UInt8)}{i:Nat}(h:∀ (j:Nat) (l:List UInt8),j<i→v[j]? = some l→chk l=0):a2L v=a2L (v.drop i):=by
 induction i generalizing v with
 | zero=>rfl
 | succ i ih =>
  cases v with
  | nil=>rfl
  | cons l r =>
   have h0:=h 0 l (Nat.succ_pos i) rfl;rw [List.drop_succ_cons];show (if chk l≠0 then chk l else a2L r)=_;rw [if_neg (fun hh=>hh h0)];exact ih fun j m hj hm=>h (j+1) m (by omega) hm
theorem d3B (v:List (List UInt8))(hv:∀ l∈v,l.length≤100000)(hl:v.length≤1000000):a0b C0 65 [.sl false 1 (v.map fun l=>str (sb l))] (i64 (a2L v)):=by
 refine a0c.walk w1 d1E rfl fun F=>?_
 have el:(((v.map fun l=>str (sb l)).length:Nat):Int)=(v.length:Int):=by rw [List.length_map]
 refine sR 0 ?_;refine OkS.seq ?_;refine sR 100 ?_;refine OkS.block ?_;refine OkS.loop (α:=Nat × Nat) (fun p=>⟨[(0,.sl false 1 (v.map fun l=>str (sb l))),(3,i64 (p.1:Int))],[],p.2⟩) (fun p=>v.length - p.1) (fun p=>p.1≤v.length∧∀ (j:Nat) (l:List UInt8),j<p.1→v[j]? = some l→chk l=0) (0,_) ⟨Nat.zero_le _,fun j l hj=>absurd hj (Nat.not_lt_zero j)⟩ wkI ?_;rintro ⟨i,n⟩ F ⟨hi,ha⟩;dsimp only at hi ha ⊢;refine OkS.seq ?_;refine sZ 200 ?_;refine nwI el ?_;refine ifI ?_
 (refine brI (fun hlt=>?_) (fun hlt=>?_))<;>(try simp only [Bool.not_eq_true',Bool.not_eq_false'] at hlt)<;>(try simp only [hlt])
 ·have hi2:i<v.length:=by
   have:=of_decide_eq_true hlt
   omega
  obtain ⟨l,hl'⟩:∃ l,v[i]? = some l:=⟨v[i],List.getElem?_eq_getElem hi2⟩
  have hm:(v.map fun l=>str (sb l))[i]? = some (str (sb l)):=by rw [List.getElem?_map,hl'];rfl
  have cl:=b3O l (hv l (List.mem_of_getElem? hl'));have hd:a2L v=a2L (v.drop i):=a7u ha;have hdd:v.drop i=l::v.drop (i+1):=by
   rw [List.drop_eq_getElem_cons hi2];rw [List.getElem?_eq_getElem hi2] at hl';rw [Option.some.inj hl']
  have wi:IntKind.i64.wrap ((i:Int)+1)=((i+1:Nat):Int):=wI (by omega) (by omega);refine skI ?_;refine OkS.seq ?_;refine OkS.block ?_;refine sZ 400 ?_;refine gwI kN ?_;refine ixI kT hm ?_;refine gwI kN ?_;refine a0m.same _ cl inferInstance ?_;refine stI ?_
  by_cases g:chk l=0
  ·have e5:(((chk l:Nat):Int) != 0)=false:=by rw [g];rfl
   refine sZ 500 ?_;refine nwI e5 ?_;refine ifI ?_;refine skI ?_;refine OkS.reg w1 300 (by kernel_rfl) ?_;refine nwI wi ?_;refine ⟨(i+1,_),⟨hi2,fun j m hj hjm=>?_⟩,by dsimp only;omega,wkI⟩;rcases Nat.lt_or_ge j i with h|h
   ·exact ha j m h hjm
   ·have:j=i:=by dsimp only at hj;omega
    subst this;rw [hl'] at hjm;cases hjm;exact g
  ·have e5:(((chk l:Nat):Int) != 0)=true:=by
    have:(((chk l:Nat):Int)==0)=false:=beq_eq_false_iff_ne.2 (by omega)
    unfold bne;rw [this];rfl
   refine sZ 500 ?_;refine nwI e5 ?_;refine ifI ?_;refine sR 600 ?_;refine rtI ?_;refine a0a ?_ IsPure.out;rw [hd,hdd];show _=i64 ((if chk l≠0 then chk l else a2L (v.drop (i+1)):Nat):Int);rw [if_pos g]
 ·have hi2:i=v.length:=by
   have:=of_decide_eq_false hlt
   omega
  subst hi2;refine exI ?_;refine sR 700 ?_;refine rtI ?_;refine a0a ?_ IsPure.out;rw [a7u ha,List.drop_of_length_le (Nat.le_refl _)];rfl
theorem b8n (c:Nat):(97≤c∧c≤122)∨(122<c)∨(65≤c∧c≤90)∨((91≤c∧c≤96)∧c≠95)∨(c=95)∨(58≤c∧c≤64)∨(48≤c∧c≤57)∨(c<48∧c≠45∧c≠46)∨(c=45)∨(c=46):=by omega
theorem d1a (l:List UInt8)(hl:l.length≤1000000):a0b C0 70 [str (sb l)] (boo (a1Q l)):=by
 refine a0c.walk w1 d0X rfl fun F=>?_
 have hsz:=a0r l;refine sR 0 ?_;refine OkS.seqX (α:=Nat) (fun n=>⟨[(0,str (sb l))],[],n⟩) (fun _=>1≤l.length∧l.length≤24) ?_ ?_
 ·by_cases h1:l.length<1
  ·have e1:decide ((l.length:Int)<1)=true:=decide_eq_true (by omega)
   refine sZ 100 ?_;refine nwI (ff2 hsz e1) ?_;refine gwI kT ?_;refine ifI ?_;refine sR 200 ?_;refine rtI ?_;exact a0a (by unfold a1Q;rw [decide_eq_false (show ¬ 1≤l.length by omega)];simp) IsPure.out
  ·have e1:decide ((l.length:Int)<1)=false:=decide_eq_false (by omega)
   have e2:decide ((l.length:Int)>24)=decide (24<l.length):=decide_eq_decide.2 (by omega);refine sZ 100 ?_;refine nwI (ff2 hsz e1) ?_;refine gwI (ff3 kF hsz e2) ?_
   by_cases h2:24<l.length
   ·rw [decide_eq_true h2]
    refine ifI ?_;refine sR 200 ?_;refine rtI ?_;exact a0a (by unfold a1Q;rw [decide_eq_false (show ¬ l.length≤24 by omega)];simp) IsPure.out
   ·rw [decide_eq_false h2]
    refine ifI ?_;refine skI ?_;exact ⟨rfl,_,⟨by omega,by omega⟩,wkI⟩
 rintro n0 ⟨l1,l2⟩;refine OkS.seq ?_;refine sR 300 ?_;refine OkS.block ?_;refine OkS.loop (α:=Nat × Nat) (fun p=>⟨[(0,str (sb l)),(3,i64 (p.1:Int))],[],p.2⟩) (fun p=>l.length - p.1) (fun p=>p.1≤l.length∧(l.take p.1).all (fun b=>a1s b.toNat)=true) (0,_) ⟨Nat.zero_le _,rfl⟩ wkI ?_;rintro ⟨i,n⟩ F ⟨hi,ha⟩;dsimp only at hi ha ⊢;refine OkS.seq ?_;refine sZ 400 ?_;refine nwI hsz ?_;refine ifI ?_
 (refine brI (fun hlt=>?_) (fun hlt=>?_))<;>(try simp only [Bool.not_eq_true',Bool.not_eq_false'] at hlt)<;>(try simp only [hlt])
 ·have hi2:i<l.length:=by
   have:=of_decide_eq_true hlt
   omega
  obtain ⟨c,hc⟩:∃ c,l[i]? = some c:=⟨l[i],List.getElem?_eq_getElem hi2⟩
  have hg:l.getD i 0=c:=by simp [hc]
  have wi:IntKind.i64.wrap ((i:Int)+1)=((i+1:Nat):Int):=wI (by omega) (by omega);refine skI ?_;refine OkS.seq ?_;refine OkS.block ?_;refine sZ 600 ?_;refine nwI (ff2 kN hg) ?_;have hcl:a1s c.toNat=false→a1Q l=false:=fun h=>by
   unfold a1Q;cases hall:l.all (fun b=>a1s b.toNat)
   ·rfl
   ·have:=List.all_eq_true.1 hall c (List.mem_of_getElem? hc)
    rw [h] at this;cases this
  have hsn:a1s c.toNat=true→(l.take (i+1)).all (fun b=>a1s b.toNat)=true:=fun h=>by
   rw [List.take_add_one,hc,List.all_append,ha];simpa using h
  have hc9:c.toNat<256:=c.toNat_lt;generalize c.toNat=c at *;refine OkS.seqX (α:=Nat) (fun n=>⟨[(0,str (sb l)),(3,i64 (i:Int)),(56,boo (!a1s c))],[],n⟩) (fun _=>True) ?_ ?_
  ·clear hcl hsn
   rcases b8n c with h|h|h|h|h|h|h|h|h|h
   ·skip
    have f1:decide ((c:Int)≥97)=true:=decide_eq_true (by omega);have f2:decide ((c:Int)≤122)=true:=decide_eq_true (by omega);have f3:decide ((c:Int)≥65)=true:=decide_eq_true (by omega);have f4:decide ((c:Int)≤90)=false:=decide_eq_false (by omega);have f5:decide ((c:Int)≥48)=true:=decide_eq_true (by omega);have f6:decide ((c:Int)≤57)=false:=decide_eq_false (by omega);have f7:((c:Int)==45)=false:=beq_eq_false_iff_ne.2 (by omega);have f8:((c:Int)==95)=false:=beq_eq_false_iff_ne.2 (by omega);have f9:((c:Int)==46)=false:=beq_eq_false_iff_ne.2 (by omega);have hnb:a1s c=true:=by
     unfold a1s;simp;omega
    rw [hnb];refine OkS.reg w1 700 (by kernel_rfl) ?_;refine gwI kB ?_
    try simp only [f1,f2,f3,f4,f5,f6,f7,f8,f9]
    refine gwI kB ?_
    try simp only [f1,f2,f3,f4,f5,f6,f7,f8,f9]
    refine gwI kB ?_
    try simp only [f1,f2,f3,f4,f5,f6,f7,f8,f9]
    refine gwI kB ?_
    try simp only [f1,f2,f3,f4,f5,f6,f7,f8,f9]
    refine gwI kB ?_
    try simp only [f1,f2,f3,f4,f5,f6,f7,f8,f9]
    refine gwI kB ?_
    try simp only [f1,f2,f3,f4,f5,f6,f7,f8,f9]
    refine gwI kB ?_
    try simp only [f1,f2,f3,f4,f5,f6,f7,f8,f9]
    refine gwI kB ?_
    try simp only [f1,f2,f3,f4,f5,f6,f7,f8,f9]
    refine gwI kB ?_
    try simp only [f1,f2,f3,f4,f5,f6,f7,f8,f9]
    exact ⟨by first|exact trivial|rfl|simp,_,trivial,wkI⟩
   ·skip
    have f1:decide ((c:Int)≥97)=true:=decide_eq_true (by omega);have f2:decide ((c:Int)≤122)=false:=decide_eq_false (by omega);have f3:decide ((c:Int)≥65)=true:=decide_eq_true (by omega);have f4:decide ((c:Int)≤90)=false:=decide_eq_false (by omega);have f5:decide ((c:Int)≥48)=true:=decide_eq_true (by omega);have f6:decide ((c:Int)≤57)=false:=decide_eq_false (by omega);have f7:((c:Int)==45)=false:=beq_eq_false_iff_ne.2 (by omega);have f8:((c:Int)==95)=false:=beq_eq_false_iff_ne.2 (by omega);have f9:((c:Int)==46)=false:=beq_eq_false_iff_ne.2 (by omega);have hnb:a1s c=false:=by
     unfold a1s;simp;omega
    rw [hnb];refine OkS.reg w1 700 (by kernel_rfl) ?_;refine gwI kB ?_
    try simp only [f1,f2,f3,f4,f5,f6,f7,f8,f9]
    refine gwI kB ?_
    try simp only [f1,f2,f3,f4,f5,f6,f7,f8,f9]
    refine gwI kB ?_
    try simp only [f1,f2,f3,f4,f5,f6,f7,f8,f9]
    refine gwI kB ?_
    try simp only [f1,f2,f3,f4,f5,f6,f7,f8,f9]
    refine gwI kB ?_
    try simp only [f1,f2,f3,f4,f5,f6,f7,f8,f9]
    refine gwI kB ?_
    try simp only [f1,f2,f3,f4,f5,f6,f7,f8,f9]
    refine gwI kB ?_
    try simp only [f1,f2,f3,f4,f5,f6,f7,f8,f9]
    refine gwI kB ?_
    try simp only [f1,f2,f3,f4,f5,f6,f7,f8,f9]
    refine gwI kB ?_
    try simp only [f1,f2,f3,f4,f5,f6,f7,f8,f9]
    exact ⟨by first|exact trivial|rfl|simp,_,trivial,wkI⟩
   ·skip
    have f1:decide ((c:Int)≥97)=false:=decide_eq_false (by omega);have f2:decide ((c:Int)≤122)=true:=decide_eq_true (by omega);have f3:decide ((c:Int)≥65)=true:=decide_eq_true (by omega);have f4:decide ((c:Int)≤90)=true:=decide_eq_true (by omega);have f5:decide ((c:Int)≥48)=true:=decide_eq_true (by omega);have f6:decide ((c:Int)≤57)=false:=decide_eq_false (by omega);have f7:((c:Int)==45)=false:=beq_eq_false_iff_ne.2 (by omega);have f8:((c:Int)==95)=false:=beq_eq_false_iff_ne.2 (by omega);have f9:((c:Int)==46)=false:=beq_eq_false_iff_ne.2 (by omega);have hnb:a1s c=true:=by
     unfold a1s;simp;omega
    rw [hnb];refine OkS.reg w1 700 (by kernel_rfl) ?_;refine gwI kB ?_
    try simp only [f1,f2,f3,f4,f5,f6,f7,f8,f9]
    refine gwI kB ?_
    try simp only [f1,f2,f3,f4,f5,f6,f7,f8,f9]
    refine gwI kB ?_
    try simp only [f1,f2,f3,f4,f5,f6,f7,f8,f9]
    refine gwI kB ?_
    try simp only [f1,f2,f3,f4,f5,f6,f7,f8,f9]
    refine gwI kB ?_
    try simp only [f1,f2,f3,f4,f5,f6,f7,f8,f9]
    refine gwI kB ?_
    try simp only [f1,f2,f3,f4,f5,f6,f7,f8,f9]
    refine gwI kB ?_
    try simp only [f1,f2,f3,f4,f5,f6,f7,f8,f9]
    refine gwI kB ?_
    try simp only [f1,f2,f3,f4,f5,f6,f7,f8,f9]
    refine gwI kB ?_
    try simp only [f1,f2,f3,f4,f5,f6,f7,f8,f9]
    exact ⟨by first|exact trivial|rfl|simp,_,trivial,wkI⟩
   ·skip
    have f1:decide ((c:Int)≥97)=false:=decide_eq_false (by omega);have f2:decide ((c:Int)≤122)=true:=decide_eq_true (by omega);have f3:decide ((c:Int)≥65)=true:=decide_eq_true (by omega);have f4:decide ((c:Int)≤90)=false:=decide_eq_false (by omega);have f5:decide ((c:Int)≥48)=true:=decide_eq_true (by omega);have f6:decide ((c:Int)≤57)=false:=decide_eq_false (by omega);have f7:((c:Int)==45)=false:=beq_eq_false_iff_ne.2 (by omega);have f8:((c:Int)==95)=false:=beq_eq_false_iff_ne.2 (by omega);have f9:((c:Int)==46)=false:=beq_eq_false_iff_ne.2 (by omega);have hnb:a1s c=false:=by
     unfold a1s;simp;omega
    rw [hnb];refine OkS.reg w1 700 (by kernel_rfl) ?_;refine gwI kB ?_
    try simp only [f1,f2,f3,f4,f5,f6,f7,f8,f9]
    refine gwI kB ?_
    try simp only [f1,f2,f3,f4,f5,f6,f7,f8,f9]
    refine gwI kB ?_
    try simp only [f1,f2,f3,f4,f5,f6,f7,f8,f9]
    refine gwI kB ?_
    try simp only [f1,f2,f3,f4,f5,f6,f7,f8,f9]
    refine gwI kB ?_
    try simp only [f1,f2,f3,f4,f5,f6,f7,f8,f9]
    refine gwI kB ?_
    try simp only [f1,f2,f3,f4,f5,f6,f7,f8,f9]
    refine gwI kB ?_
    try simp only [f1,f2,f3,f4,f5,f6,f7,f8,f9]
    refine gwI kB ?_
    try simp only [f1,f2,f3,f4,f5,f6,f7,f8,f9]
    refine gwI kB ?_
    try simp only [f1,f2,f3,f4,f5,f6,f7,f8,f9]
    exact ⟨by first|exact trivial|rfl|simp,_,trivial,wkI⟩
   ·skip
    have f1:decide ((c:Int)≥97)=false:=decide_eq_false (by omega);have f2:decide ((c:Int)≤122)=true:=decide_eq_true (by omega);have f3:decide ((c:Int)≥65)=true:=decide_eq_true (by omega);have f4:decide ((c:Int)≤90)=false:=decide_eq_false (by omega);have f5:decide ((c:Int)≥48)=true:=decide_eq_true (by omega);have f6:decide ((c:Int)≤57)=false:=decide_eq_false (by omega);have f7:((c:Int)==45)=false:=beq_eq_false_iff_ne.2 (by omega);have f8:((c:Int)==95)=true:=beq_iff_eq.2 (by omega);have f9:((c:Int)==46)=false:=beq_eq_false_iff_ne.2 (by omega);have hnb:a1s c=true:=by
     unfold a1s;simp;omega
    rw [hnb];refine OkS.reg w1 700 (by kernel_rfl) ?_;refine gwI kB ?_
    try simp only [f1,f2,f3,f4,f5,f6,f7,f8,f9]
    refine gwI kB ?_
    try simp only [f1,f2,f3,f4,f5,f6,f7,f8,f9]
    refine gwI kB ?_
    try simp only [f1,f2,f3,f4,f5,f6,f7,f8,f9]
    refine gwI kB ?_
    try simp only [f1,f2,f3,f4,f5,f6,f7,f8,f9]
    refine gwI kB ?_
    try simp only [f1,f2,f3,f4,f5,f6,f7,f8,f9]
    refine gwI kB ?_
    try simp only [f1,f2,f3,f4,f5,f6,f7,f8,f9]
    refine gwI kB ?_
    try simp only [f1,f2,f3,f4,f5,f6,f7,f8,f9]
    refine gwI kB ?_
    try simp only [f1,f2,f3,f4,f5,f6,f7,f8,f9]
    refine gwI kB ?_
    try simp only [f1,f2,f3,f4,f5,f6,f7,f8,f9]
    exact ⟨by first|exact trivial|rfl|simp,_,trivial,wkI⟩
   ·skip
    have f1:decide ((c:Int)≥97)=false:=decide_eq_false (by omega);have f2:decide ((c:Int)≤122)=true:=decide_eq_true (by omega);have f3:decide ((c:Int)≥65)=false:=decide_eq_false (by omega);have f4:decide ((c:Int)≤90)=true:=decide_eq_true (by omega);have f5:decide ((c:Int)≥48)=true:=decide_eq_true (by omega);have f6:decide ((c:Int)≤57)=false:=decide_eq_false (by omega);have f7:((c:Int)==45)=false:=beq_eq_false_iff_ne.2 (by omega);have f8:((c:Int)==95)=false:=beq_eq_false_iff_ne.2 (by omega);have f9:((c:Int)==46)=false:=beq_eq_false_iff_ne.2 (by omega);have hnb:a1s c=false:=by
     unfold a1s;simp;omega
    rw [hnb];refine OkS.reg w1 700 (by kernel_rfl) ?_;refine gwI kB ?_
    try simp only [f1,f2,f3,f4,f5,f6,f7,f8,f9]
    refine gwI kB ?_
    try simp only [f1,f2,f3,f4,f5,f6,f7,f8,f9]
    refine gwI kB ?_
    try simp only [f1,f2,f3,f4,f5,f6,f7,f8,f9]
    refine gwI kB ?_
    try simp only [f1,f2,f3,f4,f5,f6,f7,f8,f9]
    refine gwI kB ?_
    try simp only [f1,f2,f3,f4,f5,f6,f7,f8,f9]
    refine gwI kB ?_
    try simp only [f1,f2,f3,f4,f5,f6,f7,f8,f9]
    refine gwI kB ?_
    try simp only [f1,f2,f3,f4,f5,f6,f7,f8,f9]
    refine gwI kB ?_
    try simp only [f1,f2,f3,f4,f5,f6,f7,f8,f9]
    refine gwI kB ?_
    try simp only [f1,f2,f3,f4,f5,f6,f7,f8,f9]
    exact ⟨by first|exact trivial|rfl|simp,_,trivial,wkI⟩
   ·skip
    have f1:decide ((c:Int)≥97)=false:=decide_eq_false (by omega);have f2:decide ((c:Int)≤122)=true:=decide_eq_true (by omega);have f3:decide ((c:Int)≥65)=false:=decide_eq_false (by omega);have f4:decide ((c:Int)≤90)=true:=decide_eq_true (by omega);have f5:decide ((c:Int)≥48)=true:=decide_eq_true (by omega);have f6:decide ((c:Int)≤57)=true:=decide_eq_true (by omega);have f7:((c:Int)==45)=false:=beq_eq_false_iff_ne.2 (by omega);have f8:((c:Int)==95)=false:=beq_eq_false_iff_ne.2 (by omega);have f9:((c:Int)==46)=false:=beq_eq_false_iff_ne.2 (by omega);have hnb:a1s c=true:=by
     unfold a1s;simp;omega
    rw [hnb];refine OkS.reg w1 700 (by kernel_rfl) ?_;refine gwI kB ?_
    try simp only [f1,f2,f3,f4,f5,f6,f7,f8,f9]
    refine gwI kB ?_
    try simp only [f1,f2,f3,f4,f5,f6,f7,f8,f9]
    refine gwI kB ?_
    try simp only [f1,f2,f3,f4,f5,f6,f7,f8,f9]
    refine gwI kB ?_
    try simp only [f1,f2,f3,f4,f5,f6,f7,f8,f9]
    refine gwI kB ?_
    try simp only [f1,f2,f3,f4,f5,f6,f7,f8,f9]
    refine gwI kB ?_
    try simp only [f1,f2,f3,f4,f5,f6,f7,f8,f9]
    refine gwI kB ?_
    try simp only [f1,f2,f3,f4,f5,f6,f7,f8,f9]
    refine gwI kB ?_
    try simp only [f1,f2,f3,f4,f5,f6,f7,f8,f9]
    refine gwI kB ?_
    try simp only [f1,f2,f3,f4,f5,f6,f7,f8,f9]
    exact ⟨by first|exact trivial|rfl|simp,_,trivial,wkI⟩
   ·skip
    have f1:decide ((c:Int)≥97)=false:=decide_eq_false (by omega);have f2:decide ((c:Int)≤122)=true:=decide_eq_true (by omega);have f3:decide ((c:Int)≥65)=false:=decide_eq_false (by omega);have f4:decide ((c:Int)≤90)=true:=decide_eq_true (by omega);have f5:decide ((c:Int)≥48)=false:=decide_eq_false (by omega);have f6:decide ((c:Int)≤57)=true:=decide_eq_true (by omega);have f7:((c:Int)==45)=false:=beq_eq_false_iff_ne.2 (by omega);have f8:((c:Int)==95)=false:=beq_eq_false_iff_ne.2 (by omega);have f9:((c:Int)==46)=false:=beq_eq_false_iff_ne.2 (by omega);have hnb:a1s c=false:=by
     unfold a1s;simp;omega
    rw [hnb];refine OkS.reg w1 700 (by kernel_rfl) ?_;refine gwI kB ?_
    try simp only [f1,f2,f3,f4,f5,f6,f7,f8,f9]
    refine gwI kB ?_
    try simp only [f1,f2,f3,f4,f5,f6,f7,f8,f9]
    refine gwI kB ?_
    try simp only [f1,f2,f3,f4,f5,f6,f7,f8,f9]
    refine gwI kB ?_
    try simp only [f1,f2,f3,f4,f5,f6,f7,f8,f9]
    refine gwI kB ?_
    try simp only [f1,f2,f3,f4,f5,f6,f7,f8,f9]
    refine gwI kB ?_
    try simp only [f1,f2,f3,f4,f5,f6,f7,f8,f9]
    refine gwI kB ?_
    try simp only [f1,f2,f3,f4,f5,f6,f7,f8,f9]
    refine gwI kB ?_
    try simp only [f1,f2,f3,f4,f5,f6,f7,f8,f9]
    refine gwI kB ?_
    try simp only [f1,f2,f3,f4,f5,f6,f7,f8,f9]
    exact ⟨by first|exact trivial|rfl|simp,_,trivial,wkI⟩
   ·skip
    have f1:decide ((c:Int)≥97)=false:=decide_eq_false (by omega);have f2:decide ((c:Int)≤122)=true:=decide_eq_true (by omega);have f3:decide ((c:Int)≥65)=false:=decide_eq_false (by omega);have f4:decide ((c:Int)≤90)=true:=decide_eq_true (by omega);have f5:decide ((c:Int)≥48)=false:=decide_eq_false (by omega);have f6:decide ((c:Int)≤57)=true:=decide_eq_true (by omega);have f7:((c:Int)==45)=true:=beq_iff_eq.2 (by omega);have f8:((c:Int)==95)=false:=beq_eq_false_iff_ne.2 (by omega);have f9:((c:Int)==46)=false:=beq_eq_false_iff_ne.2 (by omega);have hnb:a1s c=true:=by
     unfold a1s;simp;omega
    rw [hnb];refine OkS.reg w1 700 (by kernel_rfl) ?_;refine gwI kB ?_
    try simp only [f1,f2,f3,f4,f5,f6,f7,f8,f9]
    refine gwI kB ?_
    try simp only [f1,f2,f3,f4,f5,f6,f7,f8,f9]
    refine gwI kB ?_
    try simp only [f1,f2,f3,f4,f5,f6,f7,f8,f9]
    refine gwI kB ?_
    try simp only [f1,f2,f3,f4,f5,f6,f7,f8,f9]
    refine gwI kB ?_
    try simp only [f1,f2,f3,f4,f5,f6,f7,f8,f9]
    refine gwI kB ?_
    try simp only [f1,f2,f3,f4,f5,f6,f7,f8,f9]
    refine gwI kB ?_
    try simp only [f1,f2,f3,f4,f5,f6,f7,f8,f9]
    refine gwI kB ?_
    try simp only [f1,f2,f3,f4,f5,f6,f7,f8,f9]
    refine gwI kB ?_
    try simp only [f1,f2,f3,f4,f5,f6,f7,f8,f9]
    exact ⟨by first|exact trivial|rfl|simp,_,trivial,wkI⟩
   ·skip
    have f1:decide ((c:Int)≥97)=false:=decide_eq_false (by omega);have f2:decide ((c:Int)≤122)=true:=decide_eq_true (by omega);have f3:decide ((c:Int)≥65)=false:=decide_eq_false (by omega);have f4:decide ((c:Int)≤90)=true:=decide_eq_true (by omega);have f5:decide ((c:Int)≥48)=false:=decide_eq_false (by omega);have f6:decide ((c:Int)≤57)=true:=decide_eq_true (by omega);have f7:((c:Int)==45)=false:=beq_eq_false_iff_ne.2 (by omega);have f8:((c:Int)==95)=false:=beq_eq_false_iff_ne.2 (by omega);have f9:((c:Int)==46)=true:=beq_iff_eq.2 (by omega);have hnb:a1s c=true:=by
     unfold a1s;simp;omega
    rw [hnb];refine OkS.reg w1 700 (by kernel_rfl) ?_;refine gwI kB ?_
    try simp only [f1,f2,f3,f4,f5,f6,f7,f8,f9]
    refine gwI kB ?_
    try simp only [f1,f2,f3,f4,f5,f6,f7,f8,f9]
    refine gwI kB ?_
    try simp only [f1,f2,f3,f4,f5,f6,f7,f8,f9]
    refine gwI kB ?_
    try simp only [f1,f2,f3,f4,f5,f6,f7,f8,f9]
    refine gwI kB ?_
    try simp only [f1,f2,f3,f4,f5,f6,f7,f8,f9]
    refine gwI kB ?_
    try simp only [f1,f2,f3,f4,f5,f6,f7,f8,f9]
    refine gwI kB ?_
    try simp only [f1,f2,f3,f4,f5,f6,f7,f8,f9]
    refine gwI kB ?_
    try simp only [f1,f2,f3,f4,f5,f6,f7,f8,f9]
    refine gwI kB ?_
    try simp only [f1,f2,f3,f4,f5,f6,f7,f8,f9]
    exact ⟨by first|exact trivial|rfl|simp,_,trivial,wkI⟩
  rintro n1 -;cases hb:a1s c
  ·refine ifI ?_
   refine sR 800 ?_;refine rtI ?_;exact a0a (by rw [hcl hb]) IsPure.out
  ·refine ifI ?_
   refine skI ?_;refine OkS.reg w1 500 (by kernel_rfl) ?_;refine nwI wi ?_;exact ⟨(i+1,_),⟨hi2,hsn hb⟩,by dsimp only;omega,wkI⟩
 ·have hi2:i=l.length:=by
   have:=of_decide_eq_false hlt
   omega
  subst hi2;rw [List.take_of_length_le (Nat.le_refl _)] at ha;refine exI ?_;refine sR 900 ?_;refine rtI ?_;exact a0a (by unfold a1Q;rw [ha,decide_eq_true l1,decide_eq_true l2];rfl) IsPure.out
def a2F:List Int→Int
 | []=>0
 | e::r=>if e≠0 then e else a2F r
theorem a7L {v:List Int}{i:Nat}(h:∀ (j:Nat) (e:Int),j<i→v[j]? = some e→e=0):a2F v=a2F (v.drop i):=by
 induction i generalizing v with
 | zero=>rfl
 | succ i ih =>
  cases v with
  | nil=>rfl
  | cons l r =>
   have h0:=h 0 l (Nat.succ_pos i) rfl;rw [List.drop_succ_cons];show (if l≠0 then l else a2F r)=_;rw [if_neg (fun hh=>hh h0)];exact ih fun j m hj hm=>h (j+1) m (by omega) hm
theorem a9P {a:Int}(h:a≠0):(a != 0)=true:=by
 have:(a==0)=false:=beq_eq_false_iff_ne.2 h
 unfold bne;rw [this];rfl
theorem a9I (v:List Int)(hl:v.length≤1000):a0b C0 47 [.sl true 1 (v.map fun e=>i64 e)] (i64 (a2F v)):=by
 refine a0c.walk w1 c9H rfl fun F=>?_
 have el:(((v.map fun e=>i64 e).length:Nat):Int)=(v.length:Int):=by rw [List.length_map]
 refine sR 0 ?_;refine OkS.seq ?_;refine sZ 100 ?_;refine nwI el ?_;refine OkS.block ?_;refine OkS.loop (α:=Nat × Nat) (fun p=>⟨[(5,.sl true 1 (v.map fun e=>i64 e)),(6,i64 v.length),(7,i64 (p.1:Int))],[],p.2⟩) (fun p=>v.length - p.1) (fun p=>p.1≤v.length∧∀ (j:Nat) (e:Int),j<p.1→v[j]? = some e→e=0) (0,_) ⟨Nat.zero_le _,fun j l hj=>absurd hj (Nat.not_lt_zero j)⟩ wkI ?_;rintro ⟨i,n⟩ F ⟨hi,ha⟩;dsimp only at hi ha ⊢;refine sR 200 ?_;refine OkS.seq ?_;refine ifI ?_
 (refine brI (fun hlt=>?_) (fun hlt=>?_))<;>(try simp only [Bool.not_eq_true',Bool.not_eq_false'] at hlt)<;>(try simp only [hlt])
 ·have hi2:i<v.length:=by
   have:=of_decide_eq_true hlt
   omega
  obtain ⟨l,hl'⟩:∃ l,v[i]? = some l:=⟨v[i],List.getElem?_eq_getElem hi2⟩
  have hm:(v.map fun e=>i64 e)[i]? = some (i64 l):=by rw [List.getElem?_map,hl'];rfl
  have hd:a2F v=a2F (v.drop i):=a7L ha;have hdd:v.drop i=l::v.drop (i+1):=by
   rw [List.drop_eq_getElem_cons hi2];rw [List.getElem?_eq_getElem hi2] at hl';rw [Option.some.inj hl']
  have wi:IntKind.i64.wrap ((i:Int)+1)=((i+1:Nat):Int):=wI (by omega) (by omega);refine skI ?_;refine OkS.seq ?_;refine OkS.block ?_;refine sZ 300 ?_;refine gwI kN ?_;refine ixI kT hm ?_;refine gwI kN ?_
  by_cases g:l=0
  ·have e5:(l != 0)=false:=by rw [g];rfl
   refine sZ 400 ?_;refine nwI e5 ?_;refine ifI ?_;refine skI ?_;refine OkS.reg w1 600 (by kernel_rfl) ?_;refine nwI wi ?_;refine ⟨(i+1,_),⟨hi2,fun j m hj hjm=>?_⟩,by dsimp only;omega,wkI⟩;rcases Nat.lt_or_ge j i with h|h
   ·exact ha j m h hjm
   ·have:j=i:=by dsimp only at hj;omega
    subst this;rw [hl'] at hjm;cases hjm;exact g
  ·have e5:(l != 0)=true:=a9P g
   refine sZ 400 ?_;refine nwI e5 ?_;refine ifI ?_;refine sR 500 ?_;refine rtI ?_;refine a0a ?_ IsPure.out;rw [hd,hdd];show _=i64 (if l≠0 then l else a2F (v.drop (i+1)));rw [if_pos g]
 ·have hi2:i=v.length:=by
   have:=of_decide_eq_false hlt
   omega
  subst hi2;refine exI ?_;refine sR 700 ?_;refine rtI ?_;refine a0a ?_ IsPure.out;rw [a7L ha,List.drop_of_length_le (Nat.le_refl _)];rfl
def a2W (s:ByteArray):Bool:=a0E s ⟨#[100,111,119,110]⟩||(a0E s ⟨#[117,112]⟩||(a0E s ⟨#[104,97,108,102,45,117,112]⟩||a0E s ⟨#[104,97,108,102,45,101,118,101,110]⟩))
def a1D (k st:List UInt8):Nat:=if a2W (sb k) then (if chk st≠0 then chk st else if a3s (a0d st)≤0 then 3 else 0) else 20
theorem c4j {l:List UInt8}(h:chk l=0):b0u (a0d l):=a2t (a3I h) (by decide)
theorem b6v {l:List UInt8}(h:chk l=0):a0b C0 71 [str (sb l)] (i64 (a3s (a0d l))):=by
 have:=b3o (a0d l) (c4j h)
 unfold rR at this;rw [(a2n h).2.2.1] at this;exact this
theorem c5r {a b:List UInt8}(ha:chk a=0)(hb:chk b=0):a0b C0 33 [str (sb a),str (sb b)] (i64 (a2H (a0d a) (a0d b))):=by
 have cc:=d1t (a0d a) (a0d b) 600 600 (a3I ha) (a3I hb) (by decide);unfold rR at cc;rw [(a2n ha).2.2.1,(a2n hb).2.2.1] at cc;exact cc
theorem d1p (k st:List UInt8)(h1:st.length≤100000):a0b C0 72 [.agg [str (sb k),str (sb st)]] (i64 (a1D k st)):=by
 refine a0c.walk w1 d1W rfl fun F=>?_
 have c1:=b3O st h1;refine sR 0 ?_;refine OkS.seqX (α:=Nat) (fun n=>⟨[(1,.optr 0 0 2 0 0)],[⟨0,0,49,2,[.agg [str (sb k),str (sb st)]]⟩],n⟩) (fun _=>a2W (sb k)=true) ?_ ?_
 ·unfold a1D a2W
  obtain ⟨b1,e1⟩:∃ b,a0E (sb k) ⟨#[100,111,119,110]⟩=b:=⟨_,rfl⟩
  obtain ⟨b2,e2⟩:∃ b,a0E (sb k) ⟨#[117,112]⟩=b:=⟨_,rfl⟩
  obtain ⟨b3,e3⟩:∃ b,a0E (sb k) ⟨#[104,97,108,102,45,117,112]⟩=b:=⟨_,rfl⟩
  obtain ⟨b4,e4⟩:∃ b,a0E (sb k) ⟨#[104,97,108,102,45,101,118,101,110]⟩=b:=⟨_,rfl⟩
  rw [e1,e2,e3,e4];refine OkS.seq ?_;cases b1
  ·cases b2
   ·cases b3
    ·cases b4
     ·refine OkS.reg w1 100 (by kernel_rfl) ?_
      refine nwI (ff6 e1 e2 e3 e4 kT kF) ?_;refine gwI (ff6 e1 e2 e3 e4 kT kF) ?_;refine gwI (ff6 e1 e2 e3 e4 kT kF) ?_;refine gwI (ff6 e1 e2 e3 e4 kT kF) ?_;refine ifI ?_;refine sR 200 ?_;refine rtI ?_;exact a0a rfl IsPure.out
     ·refine OkS.reg w1 100 (by kernel_rfl) ?_
      refine nwI (ff6 e1 e2 e3 e4 kT kF) ?_;refine gwI (ff6 e1 e2 e3 e4 kT kF) ?_;refine gwI (ff6 e1 e2 e3 e4 kT kF) ?_;refine gwI (ff6 e1 e2 e3 e4 kT kF) ?_;refine ifI ?_;refine skI ?_;exact ⟨rfl,_,rfl,wkI⟩
    ·refine OkS.reg w1 100 (by kernel_rfl) ?_
     refine nwI (ff6 e1 e2 e3 e4 kT kF) ?_;refine gwI (ff6 e1 e2 e3 e4 kT kF) ?_;refine gwI (ff6 e1 e2 e3 e4 kT kF) ?_;refine gwI (ff6 e1 e2 e3 e4 kT kF) ?_;refine ifI ?_;refine skI ?_;exact ⟨rfl,_,rfl,wkI⟩
   ·refine OkS.reg w1 100 (by kernel_rfl) ?_
    refine nwI (ff6 e1 e2 e3 e4 kT kF) ?_;refine gwI (ff6 e1 e2 e3 e4 kT kF) ?_;refine gwI (ff6 e1 e2 e3 e4 kT kF) ?_;refine gwI (ff6 e1 e2 e3 e4 kT kF) ?_;refine ifI ?_;refine skI ?_;exact ⟨rfl,_,rfl,wkI⟩
  ·refine OkS.reg w1 100 (by kernel_rfl) ?_
   refine nwI (ff6 e1 e2 e3 e4 kT kF) ?_;refine gwI (ff6 e1 e2 e3 e4 kT kF) ?_;refine gwI (ff6 e1 e2 e3 e4 kT kF) ?_;refine gwI (ff6 e1 e2 e3 e4 kT kF) ?_;refine ifI ?_;refine skI ?_;exact ⟨rfl,_,rfl,wkI⟩
 rintro n0 hk;unfold a1D;rw [if_pos hk];refine sR 300 ?_;refine cI c1 ?_
 by_cases g1:chk st=0
 ·have e8:(((chk st:Nat):Int)==0)=true:=by rw [g1];rfl
  have cs:=b6v g1;rw [if_neg (fun h=>h g1)];refine OkS.seq ?_;refine sZ 400 ?_;refine nwI e8 ?_;refine gwI kT ?_;refine gcI kT ?_;refine a0m.same _ cs inferInstance ?_;refine gwI kT ?_
  by_cases g3:a3s (a0d st)≤0
  ·rw [decide_eq_true g3,if_pos g3]
   refine ifI ?_;refine sR 500 ?_;refine rtI ?_;exact a0a rfl IsPure.out
  ·rw [decide_eq_false g3,if_neg g3]
   refine ifI ?_;refine skI ?_;refine sR 600 ?_;refine rtI ?_;exact a0a (by rw [g1]) IsPure.out
 ·have e8:(((chk st:Nat):Int)==0)=false:=beq_eq_false_iff_ne.2 (by omega)
  rw [if_pos g1];refine OkS.seq ?_;refine sZ 400 ?_;refine nwI e8 ?_;refine gwI kF ?_;refine ifI ?_;refine skI ?_;refine sR 600 ?_;refine rtI ?_;exact a0a rfl IsPure.out
structure a2B where
 name:List UInt8
 tol:List UInt8
 kind:List UInt8
 step:List UInt8
 deriving Inhabited
def a2B.D (f:a2B):D:=.agg [str (sb f.name),str (sb f.tol),str (sb f.kind),str (sb f.step)]
def a2B.few (f:a2B):Prop:=f.name.length≤100000∧f.tol.length≤100000∧f.kind.length≤100000∧f.step.length≤100000
instance  (f:a2B):CellsPure f.D:=by unfold a2B.D;exact inferInstance
instance  (f:a2B):IsPure f.D:=by unfold a2B.D;exact inferInstance
def a0s (f:a2B):Nat:=if a1Q f.name then (if chk f.tol≠0 then chk f.tol else if a3s (a0d f.tol)<0 then 3 else a1D f.kind f.step) else 8
theorem b2P (f:a2B)(hf:f.few):a0b C0 25 [f.D] (i64 (a0s f)):=by
 refine a0c.walk w1 d0R rfl fun F=>?_
 have cn:=d1a f.name (by have:=hf.1;omega);have c1:=b3O f.tol hf.2.1;have cr:=d1p f.kind f.step hf.2.2.2;unfold a2B.D a0s;refine sR 0 ?_;refine OkS.seq ?_;refine sR 100 ?_;refine cI cn ?_;cases hn:a1Q f.name
 ·rw [if_neg (by decide)]
  refine ifI ?_;refine sR 200 ?_;refine rtI ?_;exact a0a rfl IsPure.out
 rw [if_pos rfl];refine ifI ?_;refine skI ?_;refine sR 300 ?_;refine cI c1 ?_
 by_cases g1:chk f.tol=0
 ·have e8:(((chk f.tol:Nat):Int)==0)=true:=by rw [g1];rfl
  have cs:=b6v g1;rw [if_neg (fun h=>h g1)];refine OkS.seq ?_;refine sZ 400 ?_;refine nwI e8 ?_;refine gwI kT ?_;refine gcI kT ?_;refine a0m.same _ cs inferInstance ?_;refine gwI kT ?_
  by_cases g3:a3s (a0d f.tol)<0
  ·rw [decide_eq_true g3,if_pos g3]
   refine ifI ?_;refine rI 500 ?_;refine OkS.seq ?_;refine sR 600 ?_;refine ifI ?_;refine skI ?_;refine sR 800 ?_;refine rtI ?_;exact a0a rfl IsPure.out
  ·rw [decide_eq_false g3,if_neg g3]
   refine ifI ?_;refine skI ?_;refine OkS.seq ?_;refine sZ 600 ?_;refine nwI e8 ?_;refine ifI ?_;refine rI 700 ?_;refine cI cr ?_;refine sR 800 ?_;refine rtI ?_;exact a0a rfl IsPure.out
 ·have e8:(((chk f.tol:Nat):Int)==0)=false:=beq_eq_false_iff_ne.2 (by omega)
  rw [if_pos g1];refine OkS.seq ?_;refine sZ 400 ?_;refine nwI e8 ?_;refine gwI kF ?_;refine ifI ?_;refine skI ?_;refine OkS.seq ?_;refine sZ 600 ?_;refine nwI e8 ?_;refine ifI ?_;refine skI ?_;refine sR 800 ?_;refine rtI ?_;exact a0a rfl IsPure.out
theorem b3U (a b:List UInt8):a0E (sb a) (sb b)=decide (a=b):=by
 unfold a0E
 by_cases h:a=b
 ·subst h;simp
 ·rw [decide_eq_false h]
  apply beq_eq_false_iff_ne.2;intro hh;apply h;simpa [sb] using hh
structure c4B where
 name:List UInt8
 least:List (List UInt8)
 most:List (List UInt8)
 deriving Inhabited
def c4B.D (g:c4B):D:=.agg [str (sb g.name),.sl false 1 (g.least.map fun l=>str (sb l)),.sl false 1 (g.most.map fun l=>str (sb l))]
instance  (g:c4B):CellsPure g.D:=by unfold c4B.D;exact inferInstance
instance  (g:c4B):IsPure g.D:=by unfold c4B.D;exact inferInstance
def lv (l:List (List UInt8))(k:Nat):List UInt8:=l.getD k []
def c6a (gs:List c4B)(i k:Nat):Option (List UInt8 × List UInt8):=if i=0 then none else some (lv (gs.getD (i - 1) default).least k,lv (gs.getD (i - 1) default).most k)
theorem a3B {l:List (List UInt8)}{k:Nat}(h:k<l.length):l[k]? = some (lv l k):=by
 unfold lv;rw [List.getD_eq_getElem?_getD,List.getElem?_eq_getElem h];rfl
theorem b6C {l:List (List UInt8)}{k:Nat}(h:k<l.length):(l.map fun x=>str (sb x))[k]? = some (str (sb (lv l k))):=by
 rw [List.getElem?_map,a3B h];rfl
theorem b1a (s:ByteArray):(a2W s=true→∃ f,a4K s (mpK a2a) (mpV a2a)=some (some (.agg [.clo (.func f) [] []])))∧(a2W s=false→a4K s (mpK a2a) (mpV a2a)=some none):=by
 unfold a2W;simp only [a2a,mpK,mpV,a4K];cases a0E s ⟨#[100,111,119,110]⟩<;>cases a0E s ⟨#[117,112]⟩<;>cases a0E s ⟨#[104,97,108,102,45,117,112]⟩<;>cases a0E s ⟨#[104,97,108,102,45,101,118,101,110]⟩<;>simp
section
attribute [local irreducible] wpQ
theorem b6i (k st:List UInt8)(h1:st.length≤100000):a0b C0 69 [.agg [str (sb k),str (sb st)]] (i64 (a1D k st)):=by
 refine a0c.walk w1 c6n rfl fun F=>?_
 have dk:a0b C0 145 [] (.mp (mpK a2a) (mpV a2a)):=a6X;have dp:IsPure (D.mp (mpK a2a) (mpV a2a)):=⟨a0P (n:=20) (by kernel_rfl)⟩
 have c1:=a4A st h1;unfold a1D;refine fR 0 ?_;cases hk:a2W (sb k)
 ·have hlk:=(b1a (sb k)).2 hk
  refine OkS.seq ?_;refine OkS.seq ?_;refine OkS.regWa w1 100 [0,1,2,3,4,5,6,7,8] [9] 8 7 [4,3,2,1,0,5,7] (by kernel_rfl) (by kernel_rfl) ?_;refine nxI ?_;refine a0n.same _ dk inferInstance ?_;refine b6o (b7h (s:=sb k) (a:=9) (b:=220) (z:=.agg #[.nilFunc]) (by kernel_rfl) rfl rfl hlk) ?_;dsimp only [okD];refine nxI ?_;refine nxI ?_;refine fR 200 ?_;refine ifI ?_;refine fR 300 ?_;refine rtI ?_;exact a0a rfl IsPure.out
 obtain ⟨fn,hlk⟩:=(b1a (sb k)).1 hk;rw [if_pos rfl];refine OkS.seq ?_;refine OkS.seq ?_;refine OkS.regWa w1 100 [0,1,2,3,4,5,6,7,8] [9] 8 7 [4,3,2,1,0,5,7] (by kernel_rfl) (by kernel_rfl) ?_;refine nxI ?_;refine a0n.same _ dk inferInstance ?_;refine b6o (b3K (s:=sb k) (a:=9) (b:=220) (z:=.agg #[.nilFunc]) (by kernel_rfl) rfl rfl hlk) ?_;dsimp only [okD];refine nxI ?_;refine nxI ?_;refine fR 200 ?_;refine ifI ?_;refine skI ?_;refine OkS.seq ?_;refine fR 400 ?_;refine dI c1 ?_
 by_cases g1:chk st=0
 ·have e8:(((chk st:Nat):Int) != 0)=false:=by rw [g1];rfl
  have cf:=a4Q h1 g1;have cs:=a9U (a1n g1).is;have cp:IsPure (a0v st).D:=inferInstance;rw [if_neg (fun h=>h g1)];refine fR 500 ?_;rw [e8];refine ifI ?_;refine skI ?_;refine OkS.seq ?_;refine fR 700 ?_;refine dI cf ?_;refine dI cs ?_
  by_cases g3:a3s (a0d st)≤0
  ·rw [decide_eq_true g3,if_pos g3]
   refine ifI ?_;refine fR 800 ?_;refine rtI ?_;exact a0a rfl IsPure.out
  ·rw [decide_eq_false g3,if_neg g3]
   refine ifI ?_;refine skI ?_;refine fR 900 ?_;refine rtI ?_;exact a0a rfl IsPure.out
 ·have e8:(((chk st:Nat):Int) != 0)=true:=a9P (by omega)
  rw [if_pos g1];refine fR 500 ?_;rw [e8];refine ifI ?_;refine fR 600 ?_;refine rtI ?_;exact a0a rfl IsPure.out
end
theorem a7v (f:a2B)(hf:f.few):a0b C0 24 [f.D] (i64 (a0s f)):=by
 refine a0c.walk w1 c8G rfl fun F=>?_
 have cn:a0b C0 67 [str (sb f.name)] (boo (a1Q f.name)):=a7h (sb f.name);have c1:=a4A f.tol hf.2.1;have cr:=b6i f.kind f.step hf.2.2.2;unfold a2B.D a0s;refine fR 0 ?_;refine OkS.seq ?_;refine fR 100 ?_;refine dI cn ?_;cases hn:a1Q f.name
 ·rw [if_neg (by decide)]
  refine ifI ?_;refine fR 200 ?_;refine rtI ?_;exact a0a rfl IsPure.out
 rw [if_pos rfl];refine ifI ?_;refine skI ?_;refine OkS.seq ?_;refine fR 300 ?_;refine dI c1 ?_
 by_cases g1:chk f.tol=0
 ·have e8:(((chk f.tol:Nat):Int) != 0)=false:=by rw [g1];rfl
  have cf:=a4Q hf.2.1 g1;have cs:=a9U (a1n g1).is;have cw:=a3F (decide (a3s (a0d f.tol)<0)) 3;have c2:a0b C0 47 [.sl true 1 [i64 (if decide (a3s (a0d f.tol)<0) then 3 else 0),i64 (a1D f.kind f.step)]] (i64 (a2F [if decide (a3s (a0d f.tol)<0) then 3 else 0,(a1D f.kind f.step:Int)])):=a9I [if decide (a3s (a0d f.tol)<0) then 3 else 0,(a1D f.kind f.step:Int)] (by simp);have cp:IsPure (a0v f.tol).D:=inferInstance;rw [if_neg (fun h=>h g1)];refine fR 400 ?_;rw [e8];refine ifI ?_;refine skI ?_;refine OkS.seq ?_;refine OkS.regD w1 600 [0,1,2,3,4,5,6,7] [8,9,10,11] (by kernel_rfl) ?_;refine nxI ?_;refine a0n.same _ (cf) inferInstance ?_;refine nxI ?_;refine a0n.same _ (cs) inferInstance ?_;refine nxI ?_;refine a0n.same _ (cw) inferInstance ?_;refine nxI ?_;refine dI cr ?_;refine dI c2 ?_;refine rtI ?_;refine a0a ?_ IsPure.out;unfold a2F a2F a2F
  by_cases g3:a3s (a0d f.tol)<0
  ·simp [g3]
  ·by_cases g4:a1D f.kind f.step=0
   ·simp [g3,g4]
   ·simp [g3,g4]
 ·have e8:(((chk f.tol:Nat):Int) != 0)=true:=a9P (by omega)
  rw [if_pos g1];refine fR 400 ?_;rw [e8];refine ifI ?_;refine fR 500 ?_;refine rtI ?_;exact a0a rfl IsPure.out
set_option maxHeartbeats 4000000
theorem c7y (a b:Rat):decide (a2H a b>0)=decide (a2H b a<0):=decide_eq_decide.2 (by
 unfold a2H
 by_cases h1:a<b
 ·have h2:¬ b<a:=by grind
  rw [if_pos h1,if_neg h2,if_pos h1];decide
 ·by_cases h2:b<a
  ·rw [if_neg h1,if_pos h2,if_pos h2];decide
  ·rw [if_neg h1,if_neg h2,if_neg h2,if_neg h1])
def b5r (v:List (List UInt8)):Bool:=v.all fun l=>decide (l.length≤40)
def a9t (f:a2B):Bool:=decide (f.name.length≤100)&&decide (f.kind.length≤100)&&decide (f.tol.length≤40)&&decide (f.step.length≤40)
theorem b6f {v:List (List UInt8)}(h:b5r v=true):∀ l∈v,l.length≤40:=fun l hl=>of_decide_eq_true (List.all_eq_true.1 h l hl)
theorem b9P {α:Type}{l:List α}{p:α→Bool}{k:Nat}{x:α}(hx:l[k]? = some x)(h:(l.take k).all p=true)(hp:p x=true):(l.take (k+1)).all p=true:=by
 rw [List.take_add_one,hx,List.all_append,h];simp [hp]
theorem c3n {α:Type}{l:List α}{p:α→Bool}{k:Nat}{x:α}(hx:l[k]? = some x)(hp:p x=false):l.all p=false:=by
 cases h:l.all p
 ·rfl
 ·rw [List.all_eq_true.1 h x (List.mem_of_getElem? hx)] at hp;exact hp
theorem c0Q {a b:Nat}:decide ((a:Int)≤(b:Int))=decide (a≤b):=decide_eq_decide.2 (by omega)
theorem c3y (b:Bool)(v:List (List UInt8))(hl:v.length≤9223372036854775807):a0b C0 19 [.sl b 1 (v.map fun l=>str (sb l))] (boo (b5r v)):=by
 refine a0c.walk w1 d1y rfl fun F=>?_
 have el:(((v.map fun l=>str (sb l)).length:Nat):Int)=(v.length:Int):=by rw [List.length_map]
 refine sR 0 ?_;refine OkS.seq ?_;refine sZ 100 ?_;refine nwI el ?_;refine OkS.block ?_;refine OkS.loop (α:=Nat × Nat) (fun p=>⟨[(5,.sl b 1 (v.map fun l=>str (sb l))),(6,i64 v.length),(7,i64 (p.1:Int))],[],p.2⟩) (fun p=>v.length - p.1) (fun p=>p.1≤v.length∧(v.take p.1).all (fun l=>decide (l.length≤40))=true) (0,_) ⟨Nat.zero_le _,rfl⟩ wkI ?_;rintro ⟨i,n⟩ F ⟨hi,ha⟩;dsimp only at hi ha ⊢;refine sR 200 ?_;refine OkS.seq ?_;refine ifI ?_
 (refine brI (fun hlt=>?_) (fun hlt=>?_))<;>(try simp only [Bool.not_eq_true',Bool.not_eq_false'] at hlt)<;>(try simp only [hlt])
 ·have hi2:i<v.length:=by
   have:=of_decide_eq_true hlt
   omega
  have hm:=b6C hi2;have hx:=a3B hi2;have wi:IntKind.i64.wrap ((i:Int)+1)=((i+1:Nat):Int):=wI (by omega) (by omega);obtain ⟨l,hl'⟩:∃ l,lv v i=l:=⟨_,rfl⟩
  rw [hl'] at hm hx;have hsz:=a0r l;refine skI ?_;refine OkS.seq ?_;refine OkS.block ?_;refine sZ 300 ?_;refine gwI kN ?_;refine ixI kT hm ?_;refine gwI kN ?_
  by_cases g:l.length≤40
  ·have e5:decide ((l.length:Int)>40)=false:=decide_eq_false (by omega)
   refine sZ 400 ?_;refine nwI (ff2 hsz e5) ?_;refine ifI ?_;refine skI ?_;refine OkS.reg w1 600 (by kernel_rfl) ?_;refine nwI wi ?_;exact ⟨(i+1,_),⟨hi2,b9P hx ha (decide_eq_true g)⟩,by dsimp only;omega,wkI⟩
  ·have e5:decide ((l.length:Int)>40)=true:=decide_eq_true (by omega)
   refine sZ 400 ?_;refine nwI (ff2 hsz e5) ?_;refine ifI ?_;refine sR 500 ?_;refine rtI ?_;exact a0a (by unfold b5r;rw [c3n hx (decide_eq_false g)]) IsPure.out
 have hi2:i=v.length:=by
  have:=of_decide_eq_false hlt
  omega
 subst hi2;refine exI ?_;refine sR 700 ?_;refine rtI ?_;exact a0a (by unfold b5r;rw [List.take_length] at ha;rw [ha]) IsPure.out
theorem c3x (f:a2B):a0b C0 18 [f.D] (boo (a9t f)):=by
 refine a0c.walk w1 d2g rfl fun F=>?_
 have cf:=c3y true [f.tol,f.step] (by simp);have hr:a9t f=(decide (f.name.length≤100)&&(decide (f.kind.length≤100)&&b5r [f.tol,f.step])):=by
  unfold a9t b5r;simp only [List.all_cons,List.all_nil,Bool.and_true,Bool.and_assoc]
 rw [hr];have z1:=a0r f.name;have z2:=a0r f.kind;dsimp only [List.map] at cf;unfold a2B.D;obtain ⟨q,hq⟩:∃ q,b5r [f.tol,f.step]=q:=⟨_,rfl⟩
 rw [hq] at cf ⊢;have d1:decide ((f.name.length:Int)≤100)=decide (f.name.length≤100):=decide_eq_decide.2 (by omega);have d2:decide ((f.kind.length:Int)≤100)=decide (f.kind.length≤100):=decide_eq_decide.2 (by omega);refine sR 0 ?_
 by_cases g1:f.name.length≤100
 rotate_left
 ·rw [decide_eq_false g1] at d1 ⊢
  refine sZ 100 ?_;refine nwI (ff2 z1 d1) ?_;refine gwI kB ?_
  try simp only [implies_true]
  refine gwI kB ?_
  try simp only [implies_true]
  refine gwI kB ?_;refine rtI ?_;exact a0a rfl IsPure.out
 rw [decide_eq_true g1] at d1 ⊢
 by_cases g2:f.kind.length≤100
 rotate_left
 ·rw [decide_eq_false g2] at d2 ⊢
  refine sZ 100 ?_;refine nwI (ff2 z1 d1) ?_;refine gwI kB ?_
  try simp only [z2,d2,implies_true]
  refine gwI kB ?_
  try simp only [implies_true]
  refine gwI kB ?_;refine rtI ?_;exact a0a rfl IsPure.out
 rw [decide_eq_true g2] at d2 ⊢;refine sZ 100 ?_;refine nwI (ff2 z1 d1) ?_;refine gwI kB ?_
 try simp only [z2,d2,implies_true]
 refine gwI kB ?_
 try simp only [implies_true]
 refine gcI kB ?_;refine a0m.same _ cf inferInstance ?_;refine gwI kB ?_
 try simp only [implies_true]
 refine rtI ?_;exact a0a rfl IsPure.out
open Go.ChangeShapes Go.WideShapes
def stF (P:Program)(t:Nat):Option (List (Nat × Nat × Nat)):=match P.underlying t with
 | some (.struct fs)=>some (fs.toList.map fun f=>(f.type,f.offset,P.cellsOf f.type))
 | _=>none
section
variable {H:Type} {enc:TypeId × Value→H} {W:World} {fuel:Nat} {cs:List Value} {x:DataW H × List MemPlace} {t:TypeId}
theorem c5C {l:List (Nat × Nat × Nat)}{m:Nat}(hs:stF Tryz.prog t=some l)(hm:Tryz.prog.cellsOf t=m)(h:DataW.trod enc Tryz.prog W 0 (fun _=>true) true fuel t cs=some x) :
  cs.length=m∧∃ n,∀ (i u off k:Nat),l[i]? = some (u,off,k)→∃ y,DataW.trod enc Tryz.prog W 0 (fun _=>true) true n u ((cs.drop off).take k)=some y:=by
 unfold stF at hs;split at hs
 ·rename_i fs hu
  obtain ⟨h1,n,h2⟩:=b7z hu h;refine ⟨h1.trans hm,n,fun i u off k hl=>?_⟩;obtain rfl:=Option.some.inj hs;rw [List.getElem?_map] at hl;obtain ⟨f,hf,he⟩:=Option.map_eq_some_iff.1 hl;cases he;exact h2 i f (by rw [← Array.getElem?_toList];exact hf)
 ·cases hs
theorem b6N {a b c:Nat}{p q:List D}(h:a7F W ((cs.drop a).take b) p)(k:a7F W ((cs.drop (a+b)).take c) q):a7F W ((cs.drop a).take (b+c)) (p++q):=by
 rw [List.take_add,List.drop_drop];exact h.append k
theorem c2q {n:Nat}{p:List D}(hn:cs.length=n)(h:a7F W ((cs.drop 0).take n) p):a7F W cs p:=by
 rw [List.drop_zero,← hn,List.take_length] at h;exact h
theorem b3Y (h:DataW.trod enc Tryz.prog W 0 (fun _=>true) true fuel 44 cs=some x):∃ l:List UInt8,a7F W cs (str (sb l)).cells∧l.length≤maxLen:=c2A (by kernel_rfl) h
theorem b1L (h:DataW.trod enc Tryz.prog W 0 (fun _=>true) true fuel 9 cs=some x):∃ l:List UInt8,a7F W cs [str (sb l)]∧l.length≤maxLen:=c2A (by kernel_rfl) h
theorem c3f (h:DataW.trod enc Tryz.prog W 0 (fun _=>true) true fuel 52 cs=some x):∃ l:List (List UInt8),a7F W cs [.sl false 1 (l.map fun l=>str (sb l))]∧(∀ a∈l,a.length≤maxLen)∧l.length≤maxLen :=
 d1C (g:=fun l:List UInt8=>str (sb l)) (ok:=fun l=>l.length≤maxLen) (e:=44) (by kernel_rfl) (by kernel_rfl) (by decide) (fun _ _ _ h=>b3Y h) h
theorem b6e (h:DataW.trod enc Tryz.prog W 0 (fun _=>true) true fuel 51 cs=some x):∃ f:a2B,a7F W cs f.D.cells∧True:=by
 obtain ⟨h1,n,h2⟩:=c5C (l:=[(9,0,1),(44,1,1),(49,2,2)]) (m:=4) (by kernel_rfl) (by kernel_rfl) h;obtain ⟨y0,k0⟩:=h2 0 _ _ _ rfl;obtain ⟨y1,k1⟩:=h2 1 _ _ _ rfl;obtain ⟨y2,k2⟩:=h2 2 _ _ _ rfl;obtain ⟨a0,r0,_⟩:=b1L k0;obtain ⟨a1,r1,_⟩:=b3Y k1;obtain ⟨h3,n',h4⟩:=c5C (l:=[(9,0,1),(44,1,1)]) (m:=2) (by kernel_rfl) (by kernel_rfl) k2;obtain ⟨z0,j0⟩:=h4 0 _ _ _ rfl;obtain ⟨z1,j1⟩:=h4 1 _ _ _ rfl;obtain ⟨b0,s0,_⟩:=b1L j0;obtain ⟨b1,s1,_⟩:=b3Y j1;exact ⟨⟨a0,a1,b0,b1⟩,c2q h1 (b6N (b:=1) (c:=3) r0 (b6N (b:=1) (c:=2) r1 (c2q h3 (b6N (b:=1) (c:=1) s0 s1)))),trivial⟩
end
theorem d1O {P:Program}{W:World}{t e base:Nat}{v:Value}(hu:P.underlying t=some (.slice e))(h:Value.okWide P W .any base t v):∃ a l c,v=.slice a l c:=by
 unfold Value.okWide at h;rw [hu] at h;dsimp only at h;unfold Cell.okWide at h;rw [hu] at h;cases v<;>first|exact ⟨_,_,_,rfl⟩|(dsimp only at h;unfold Cell.ok at h;rw [hu] at h;exact h.elim)
theorem a7F.val1 {W:World}{v:Value}{d:D}(h:a7F W [v] [d]):Rep nol (fun _=>False) W d v:=(h.cell 0 v d rfl rfl).2
set_option maxHeartbeats 1000000
set_option maxRecDepth 100000
theorem d0I {n:Nat}(h:1≤n):liesAt Tryz.prog Tryz.prog.depth 269 n 0 269 1=true:=by
 have hs:sameLayout Tryz.prog Tryz.prog.depth 269 269=true:=by kernel_rfl
 have hc:Tryz.prog.cellsOf 269=2:=by kernel_rfl
 obtain ⟨d,hd⟩:∃ d,Tryz.prog.depth=d+1:=⟨Tryz.prog.depth - 1,by kernel_rfl⟩
 rw [hd] at hs ⊢;unfold liesAt;rw [hd];unfold rowAt;simp [hc,hs,h]
theorem c4u (b c:Nat)(hc:2≤c)(w:World)(h0:w.cell? ⟨b,0,none⟩=some (.pointer none))(hsh:w.shape? b=some (269,c))(hfz:w.frozen? ⟨b,0,none⟩=false) :
  Calls Tryz.prog 242 #[.pointer (some ⟨b,0,none⟩)] w fun e w'=>e=.returned (.tuple #[])∧w'=w.setCell ⟨b,0,none⟩ (.pointer (some ⟨b,0,none⟩)):=by
 obtain ⟨j,hj,hjs⟩:=Option.map_eq_some_iff.1 (show (Tryz.prog.info? 269).map (·.size)=some 2 by kernel_rfl);have hl:liesAt Tryz.prog Tryz.prog.depth 269 (c / Tryz.prog.cellsOf 269) 0 269 1=true:=d0I (by rw [show Tryz.prog.cellsOf 269=2 by kernel_rfl];omega)
 go_enter Tryz.func242,Tryz.ntmps242
 go_wp2
 rw [Lib.run_to_unsafe w ⟨b,0,none⟩ (t:=269) (by kernel_rfl) (by kernel_rfl) hj (by rw [hjs];decide) hsh (by show 0<c;omega)];simp only [Result.andThen];rw [Oper.upon_value]
 go_wp2
 rw [run_callFunc_extern Tryz.func265 (by kernel_rfl) (by kernel_rfl) (by kernel_rfl) (e:=Extern.AbiNoEscape.same) (by kernel_rfl)];rw [Lib.run_noEscape];simp only [Result.andThen];rw [Oper.upon_value]
 go_wp2
 rw [Lib.run_from_unsafe w ⟨b,0,none⟩ (u:=269) (by kernel_rfl) (by kernel_rfl) hj hsh hl];simp only [Result.andThen];rw [Oper.upon_value]
 go_wp2
 go_end0
 exact ⟨rfl,rfl⟩
theorem c5Q (b:Nat)(w:World)(h0:w.cell? ⟨b,0,none⟩=some (.pointer (some ⟨b,0,none⟩))) :
  Calls Tryz.prog 242 #[.pointer (some ⟨b,0,none⟩)] w fun e w'=>e=.returned (.tuple #[])∧w'=w:=by
 obtain ⟨j,hj,hjs⟩:=Option.map_eq_some_iff.1 (show (Tryz.prog.info? 269).map (·.size)=some 2 by kernel_rfl)
 go_enter Tryz.func242,Tryz.ntmps242
 go_wp2
 rw [Lib.run_neq_ptr_same w _ (te:=269) (by kernel_rfl) hj]
 go_wp2
 go_end0
 exact ⟨rfl,rfl⟩
theorem d3U (b g:Nat)(cur cs:Array Value)(l:List UInt8)(h0:l≠[])(w:World)(hb:w.heap[b]? = some (.cells cs 269 (0,0)))(hb1:cs[1]? = some (.slice (some ⟨g,0,none⟩) l.length cur.size))
  (hg:w.heap[g]? = some (.cells cur 5 (0,0))) (hl:l.length≤cur.size) (hcap:cur.size≤maxLen) (hcell:∀ (j:Nat) (x:UInt8),l[j]? = some x→cur[j]? = some (.int .u8 x.toNat)) :
  Calls Tryz.prog 189 #[.pointer (some ⟨b,0,none⟩)] w fun e w'=>e=.returned (.string ⟨l.toArray⟩)∧w'=(w.drew.freeze ⟨g,0,none⟩ l.length):=by
 have c1:w.drew.cell? ⟨b,1,none⟩=some (.slice (some ⟨g,0,none⟩) l.length cur.size):=by
  have:w.drew.heap[b]? = some (.cells cs 269 (0,0)):=hb
  rw [Lib.cell_of_heap this];exact hb1
 have h0':l.length≠0:=by simpa using h0
 have hSD:(Builtin.unsafeSliceData_ #[267] 317 #[.slice (some ⟨g,0,none⟩) l.length cur.size]).run Tryz.prog w.drew=.ok (.pointer (some ⟨g,0,none⟩)) w.drew :=
  Lib.run_unsafeSliceData_row _ _ _ _ _ _ (by omega)
 have hUS:(Builtin.unsafeString_ #[317,3] 9 #[.pointer (some ⟨g,0,none⟩),.int .i64 l.length]).run Tryz.prog w.drew=.ok (.string ⟨l.toArray⟩) (w.drew.freeze ⟨g,0,none⟩ l.length):=by
  refine Lib.run_unsafeString_row w.drew 317 3 9 5 (by kernel_rfl) (by kernel_rfl) g cur.size (by have hg':w.drew.heap[g]? = some (.cells cur 5 (0,0)):=hg;simp [World.shape?,hg']) l h0 (by omega) (by unfold maxLen at hcap;omega) ?_;intro j x hx;have hg':w.drew.heap[g]? = some (.cells cur 5 (0,0)):=hg
  have:=hcell j x hx
  rw [Addr.add_lit];simp [World.cell?,hg',this]
 have mixed:Tryz.prog.follows .mixedOrders=true:=by kernel_rfl
 go_enter Tryz.func189,Tryz.ntmps189
 go_wp2
 go_region_o
 all_goals (go_wp2;go_ret;exact ⟨rfl,rfl⟩)
def a4H (l:List UInt8):List D:=l.map fun b=>.prim (.int .u8 (b.toNat:Int))
abbrev b1P (g:Nat)(p x:D):Ent:=⟨1500,g,269,2,[.agg [p,x]]⟩
theorem d2u {vs:Array Value}(h:vs.size=1):vs = #[vs.getD 0 undef]:=by
 match vs,h with
 | ⟨[u]⟩,_=>rfl
theorem d2t (g n:Nat)(x p:D)(H1 H2:Hp)(hp:p=.prim (.pointer none)∨p=.optr 1500 g 2 0 0) :
  a0C C0 242 [.optr 1500 g 2 0 0] (H1++b1P g p x::H2) n (fun d H' n'=>d=.prim (.tuple #[])∧H'=H1++b1P g (.optr 1500 g 2 0 0) x::H2∧n'=n):=by
 refine ⟨⟨_,_,Tryz.func242,rfl,by kernel_rfl⟩,fun F ρ w vs m fr hgn hvs hr=>?_⟩;have h0:=hr 0 _ rfl;rw [d2u hvs];generalize hv:vs.getD 0 undef=v at h0;cases h0 with
 | optr hρ =>
  rename_i b;have he:b1P g p x∈H1++b1P g p x::H2:=by simp
  obtain ⟨cs,hc,q⟩:=m.at he hρ;have hlen:2≤cs.size:=q.len;have hr0:Rep ρ (Own F.X ρ (H1++b1P g p x::H2)) w p (cs.getD 0 undef):=q.rep 0 _ 0 p rfl rfl;have hr1:Rep ρ (Own F.X ρ (H1++b1P g p x::H2)) w x (cs.getD 1 undef):=q.rep 0 _ 1 x rfl rfl;have hcell:w.cell? ⟨b,0,none⟩=some (cs.getD 0 undef):=by
   simp [World.cell?,hc,Array.getD,show 0<cs.size by omega]
  rcases hp with rfl|rfl
  ·cases hr0':cs.getD 0 undef with
   | pointer a =>
    rw [hr0'] at hr0 hcell;cases hr0;refine (c4u b cs.size hlen w hcell (by simp [World.shape?,hc]) (by simp [World.frozen?,hc])).mono ?_;rintro e w' ⟨rfl,rfl⟩;have hset:w.setCell ⟨b,0,none⟩ (.pointer (some ⟨b,0,none⟩))=World.setBlk w b (cs.setIfInBounds 0 (.pointer (some ⟨b,0,none⟩))) 269:=by
     rw [setCell_eq_setRow w b 0 cs 269 (0,0) _ hc];exact a7w hc
    have hop:Rep ρ (Own F.X ρ (H1++b1P g (.prim (.pointer none)) x::H2)) w (.optr 1500 g 2 0 0) (.pointer (some ⟨b,0*2+0,none⟩)):=.optr hρ;have ho:a2d ρ (Own F.X ρ (H1++b1P g (.prim (.pointer none)) x::H2)) w (b1P g (.optr 1500 g 2 0 0) x) (cs.setIfInBounds 0 (.pointer (some ⟨b,0,none⟩))):=by
     refine ⟨by rw [Array.size_setIfInBounds];exact q.len,fun i d hd=>?_,fun i v hv=>?_,fun i d j c hd hj=>?_⟩
     ·rcases i with _|i
      ·cases hd;rfl
      ·simp at hd
     ·rw [Array.getElem?_setIfInBounds] at hv
      split at hv
      ·split at hv
       ·cases hv;rfl
       ·cases hv
      ·exact q.one i v hv
     ·rcases i with _|i
      ·cases hd
       rcases j with _|_|j
       ·cases hj
        have:(cs.setIfInBounds 0 (.pointer (some ⟨b,0,none⟩))).getD (0*2+0) undef=.pointer (some ⟨b,0*2+0,none⟩):=by
         simp [Array.getD_eq_getD_getElem?,show 0<cs.size by omega]
        rw [this];exact hop
       ·cases hj
        have:(cs.setIfInBounds 0 (.pointer (some ⟨b,0,none⟩))).getD (0*2+1) undef=cs.getD 1 undef:=by
         simp [Array.getD_eq_getD_getElem?]
        rw [this];exact hr1
       ·simp [D.cells] at hj
      ·simp at hd
    obtain ⟨m1,x1⟩:=m.write (e':=b1P g (.optr 1500 g 2 0 0) x) hρ hc rfl rfl rfl (Array.size_setIfInBounds ..) ho;rw [hset];exact ⟨_,_,_,n,ρ,rfl,⟨rfl,rfl,rfl⟩,m1,x1,fr,fun e' he'=>by
     rcases List.mem_append.1 he' with h|h
     ·exact hgn e' (by simp [h])
     ·rcases List.mem_cons.1 h with rfl|h
      ·exact hgn (b1P g (.prim (.pointer none)) x) he
      ·exact hgn e' (by simp [h]),.prim _⟩
   | _=>rw [hr0'] at hr0;cases hr0
  ·cases hr0':cs.getD 0 undef with
   | pointer a =>
    rw [hr0'] at hr0 hcell;cases hr0 with
    | optr hρ2 =>
     rw [hρ] at hρ2;cases hρ2;refine (c5Q b w hcell).mono ?_;rintro e w' ⟨rfl,rfl⟩;exact ⟨_,_,_,n,ρ,rfl,⟨rfl,rfl,rfl⟩,m,Ext.refl _ _ _,fr,hgn,.prim _⟩
   | _=>rw [hr0'] at hr0;cases hr0
theorem b1s (w:World)(g n:Nat)(hn:n≠0)(cur:Array Value)(T:Nat)(hg:w.heap[g]? = some (.cells cur T (0,0))) :
  (w.freeze ⟨g,0,none⟩ n).heap.size=w.heap.size∧(w.freeze ⟨g,0,none⟩ n).os=w.os∧(w.freeze ⟨g,0,none⟩ n).tape=w.tape∧(w.freeze ⟨g,0,none⟩ n).output=w.output ∧
  (∀ k,k≠g→(w.freeze ⟨g,0,none⟩ n).heap[k]? = w.heap[k]?)∧∃ (cs':Array Value) (fz':Nat × Nat),(w.freeze ⟨g,0,none⟩ n).heap[g]? = some (.cells cs' T fz')∧cs'.size=cur.size:=by
 unfold World.freeze;rw [if_neg hn];refine ⟨by simp,rfl,rfl,rfl,fun k hk=>?_,?_⟩
 ·dsimp only
  rw [Array.getElem?_modify,if_neg (fun h=>hk h.symm)]
 ·dsimp only
  rw [Array.getElem?_modify,if_pos rfl,hg];exact ⟨cur,_,rfl,rfl⟩
theorem d0M (g gb n:Nat)(l:List UInt8)(h0:l≠[])(p:D)(R:Hp) :
  a0C C0 189 [.optr 1500 g 2 0 0] (⟨206,gb,5,1,a4H l⟩::b1P g p (.osl 206 gb 1 0 l.length)::R) n (fun d H' n'=>d=str ⟨l.toArray⟩∧H'=b1P g p (.osl 206 gb 1 0 l.length)::R∧n'=n):=by
 refine ⟨⟨_,_,Tryz.func189,rfl,by kernel_rfl⟩,fun F ρ w vs m fr hgn hvs hr=>?_⟩;have hz:=hr 0 _ rfl;have h0':l.length≠0:=by simpa using h0
 rw [d2u hvs];generalize hv:vs.getD 0 undef=v at hz;cases hz with
 | optr hρ =>
  rename_i b;obtain ⟨cs,hc,q⟩:=m.at (e:=b1P g p (.osl 206 gb 1 0 l.length)) (by simp) hρ;have hlen:2≤cs.size:=q.len;have hr1:Rep ρ (Own F.X ρ (⟨206,gb,5,1,a4H l⟩::b1P g p (.osl 206 gb 1 0 l.length)::R)) w (.osl 206 gb 1 0 l.length) (cs.getD 1 undef):=q.rep 0 _ 1 (.osl 206 gb 1 0 l.length) rfl rfl;generalize hs1:cs.getD 1 undef=sv at hr1;generalize hL:l.length=L at hr1;cases hr1 with
   | onil=>exact absurd hL h0'
   | osl hρ2 hb2 hc2 hs2 hm2 =>
    rename_i cap gy T' cs2 fz2;obtain ⟨cur,hcur,qy⟩:=m.at (e:=⟨206,gb,5,1,a4H l⟩) (by simp) hρ2;rw [hb2] at hcur;cases hcur;have hcap:cap=cs2.size:=by omega
    subst hcap;have hcell:∀ (j:Nat) (x:UInt8),l[j]? = some x→cs2[j]? = some (.int .u8 x.toNat):=fun j x hx=>by
     have hr:=qy.rep j (.prim (.int .u8 (x.toNat:Int))) 0 (.prim (.int .u8 (x.toNat:Int))) (by unfold a4H;rw [List.getElem?_map,hx];rfl) rfl;have hlt:j<cs2.size:=by
      have:=(List.getElem?_eq_some_iff.1 hx).1
      omega
     generalize hvv:cs2.getD (j*1+0) undef=vv at hr;cases hr;rw [Array.getElem?_eq_getElem hlt]
     have:cs2.getD j undef=cs2[j]:=by simp [Array.getD,hlt]
     rw [Nat.mul_one,Nat.add_zero,this] at hvv;rw [hvv]
    have hb1:cs[1]? = some (.slice (some ⟨gy,0,none⟩) l.length cs2.size):=by
     have hlt:1<cs.size:=by omega
     rw [Array.getElem?_eq_getElem hlt]
     have:cs.getD 1 undef=cs[1]:=by simp [Array.getD,hlt]
     rw [this] at hs1;rw [hs1,hL,Nat.zero_mul]
    refine (d3U b gy cs2 cs l h0 w hc hb1 hb2 (by omega) (by omega) hcell).mono ?_;rintro e w' ⟨rfl,rfl⟩;have md:=m.drew;obtain ⟨f1,f2,f3,f4,f5,cs',fz',f6,f7⟩:=b1s w.drew gy l.length h0' cs2 5 hb2;obtain ⟨m1,x1⟩:=Mem.letGo (H1:=[]) (H2:=b1P g p (.osl 206 gb 1 0 l.length)::R) (w':=w.drew.freeze ⟨gy,0,none⟩ l.length) md hρ2 f1 f2 f3 f4 f5 (fun c hcc=>by
     have hb2':w.drew.heap[gy]? = some (.cells cs2 5 (0,0)):=hb2;have hcc':w.drew.heap[gy]? = some (.cells c 5 (0,0)):=hcc;rw [hb2'] at hcc';cases hcc';exact ⟨cs',fz',f6,f7⟩)
    rw [hL];rw [hL] at m1 x1;exact ⟨_,_,_,n,ρ,rfl,⟨rfl,rfl,rfl⟩,m1,(Ext.drew _ _ _).trans x1,fr,fun e' he'=>hgn e' (by rw [hL];exact List.mem_cons_of_mem _ he'),.prim _⟩
set_option maxRecDepth 20000
set_option maxHeartbeats 4000000
def bH (gb g:Nat)(p:D)(L:List UInt8)(R:Hp):Hp:=b1g 206 gb 5 1 (a4H L)++(b1P g p (b1V 206 gb 1 (a4H L))::R)
theorem b6z (s:List UInt8):a4i (sb s)=a4H s:=rfl
theorem a3Y (l:List UInt8):(a4H l).length=l.length:=List.length_map ..
theorem b6b (a b:List UInt8):a4H (a++b)=a4H a++a4H b:=List.map_append
theorem b3f {l:List UInt8}(h:l≠[]):∃ x r,a4H l=x::r:=by
 cases l with
 | nil=>exact absurd rfl h
 | cons a l=>exact ⟨_,_,rfl⟩
theorem d2o (g gb n:Nat)(p:D)(hp:p=.prim (.pointer none)∨p=.optr 1500 g 2 0 0)(L s:List UInt8)(hs:s≠[])(R:Hp)(hlen:L.length+s.length≤100000000) :
  a0C C0 188 [.optr 1500 g 2 0 0,str (sb s)] (bH gb g p L R) n (fun d H' n'=>(∃ g',H'=bH g' g (.optr 1500 g 2 0 0) (L++s) R)∧n≤n'):=by
 refine a0C.walk w1 c2p rfl fun F=>?_
 have hsz:=a0r s;have hb:=b6z s;obtain ⟨x,r,hx⟩:=b3f hs;have hr:s.length=r.length+1:=by rw [← a3Y,hx];rfl
 unfold bH;rw [b6b];cases hL:a4H L with
 | nil =>
  dsimp only [a6R,a7d,List.nil_append];refine goI dr0 kB trivial trivial trivial trivial trivial trivial ?_;refine a0m.own _ (d2t g _ a2u p [] R hp) ?_;rintro d H' n' ⟨rfl,rfl,rfl⟩;have hL0:L.length=0:=by rw [← a3Y,hL];rfl
  refine goI dr0 (ff2 hsz hb) trivial trivial trivial trivial trivial trivial ?_;refine ⟨?_,by omega⟩;apply Exists.intro;rw [hx,hr];rfl
 | cons y l =>
  dsimp only [a5h,a5n,List.cons_append,List.nil_append];have hL1:L.length=l.length+1:=by rw [← a3Y,hL];rfl
  have htk:List.take (l.length+1) (y::l)=y::l:=by simp
  refine goI dr0 kB trivial trivial trivial trivial trivial trivial ?_;refine a0m.own _ (d2t g _ (.osl 206 gb 1 0 (l.length+1)) p [⟨206,gb,5,1,y::l⟩] R hp) ?_;rintro d H' n' ⟨rfl,rfl,rfl⟩;refine goI dr0 (ff3 hsz hb htk) trivial trivial trivial trivial trivial trivial ?_;refine ⟨?_,by omega⟩;apply Exists.intro;have hap:y::l++a4H s=y::(l++a4H s):=rfl;have hl2:(l++a4H s).length+1=l.length+1+s.length:=by rw [List.length_append,a3Y];omega
  rw [hl2]
open Go.Sort Go.Shelf
section
open Go.Lib
set_option maxHeartbeats 6400000 in
set_option maxRecDepth 100000 in
theorem d2I (u:Nat) (hu64:u<18446744073709551616) (w:World) (htab:Lib.TabIs Tryz.prog w "internal/strconv.uint64pow10" .u64 Lib.pow10Tab) :
  Calls Tryz.prog 238 #[.int .u64 u,.int .i64 10] w fun e w'=>e=.returned (.string ⟨(Lib.decDigits u).toArray⟩)∧∃ k os,w'=grow (w.drewN k) os:=by
 have e283:∀ args w,(callFunc 259 args).run Tryz.prog w=.ok (.enter 259 args) w:=enters_of Tryz.func259 (by kernel_rfl) rfl;have e284:∀ args w,(callFunc 260 args).run Tryz.prog w=.ok (.enter 260 args) w:=enters_of Tryz.func260 (by kernel_rfl) rfl;have e285:∀ args w,(callFunc 261 args).run Tryz.prog w=.ok (.enter 261 args) w:=enters_of Tryz.func261 (by kernel_rfl) rfl
 by_cases hs:u<100
 ·go_enter Tryz.func238,Tryz.ntmps238
  go_wp2_with (go_at_fn 259;refine (Tryz.internal_strconv_small u hs _).mono ?_;rintro e w' ⟨rfl,rfl⟩)
  go_ret
  exact ⟨rfl,0,#[],by simp [World.drewN_zero]⟩
 ·have hu1:1≤u:=by omega
  have hnd20:Lib.nDigits u≤20:=by have:=Lib.numDigits_eq u hu1 hu64;split at this<;>omega
  have hb3:Lib.nDigits u≤24:=by omega
  have hal:Tryz.prog.arrayLen 327=24:=by kernel_rfl
  have hsl1:∀ W,(Instr.sliceAt 327 (.pointer (some ⟨w.heap.size,0,none⟩)) none (some (.int .i64 (Lib.nDigits u:Int))) none).run Tryz.prog W=.ok (.slice (some ⟨w.heap.size,0,none⟩) (Lib.nDigits u) 24) W:=fun W=>by
   rw [run_sliceAt_array_h W 327 ⟨w.heap.size,0,none⟩ (by kernel_rfl) .i64 (Lib.nDigits u:Int) (by omega) (by rw [hal];omega)]
   go_simp
  have hH0:=Lib.holds_zero0 w 327 (Lib.nDigits u) (by omega);have hfmt:=Tryz.internal_strconv_formatBase10 w.heap.size 0 24 u (Array.replicate (Lib.nDigits u) 0) (w.alloc (.cells Lib.zeros24 327)) hH0 (by rw [Array.size_replicate];exact Lib.lt_pow_nDigits u) hu64 (by rw [Array.size_replicate];omega);rw [Array.size_replicate] at hfmt;have HH0:=Lib.hid hH0;clear hH0 hal
  go_enter Tryz.func238,Tryz.ntmps238
  go_wp2_with (first
   | (go_at_fn 260;refine (Tryz.internal_strconv_numDigits u hu1 hu64 _ (Lib.tabIs_alloc htab _)).mono ?_;rintro e w' ⟨rfl,rfl⟩))
  go_at_fn 261
  refine hfmt.mono ?_;rintro e w' ⟨rfl,k,v',dk,rfl,hF⟩;have hcv:(convert 267 9 (.slice (some ⟨w.heap.size,0,none⟩) (Lib.nDigits u) 24)).run Tryz.prog ((putRow (fun (b:UInt8)=>Value.int .u8 (b.toNat:Int)) (w.alloc (.cells Lib.zeros24 327)) w.heap.size 0 dk).drewN k)=.ok (.string ⟨(Lib.decDigits u).toArray⟩) ((putRow (fun (b:UInt8)=>Value.int .u8 (b.toNat:Int)) (w.alloc (.cells Lib.zeros24 327)) w.heap.size 0 dk).drewN k):=by
   have h:=run_convert_bytes_back (P:=Tryz.prog) ((putRow (fun (b:UInt8)=>Value.int .u8 (b.toNat:Int)) (w.alloc (.cells Lib.zeros24 327)) w.heap.size 0 dk).drewN k) 267 9 5 ⟨w.heap.size,0,none⟩ 24 (Lib.decDigits u) (by kernel_rfl) (by kernel_rfl) (by kernel_rfl) (fun j hj=>by
    rw [Lib.row_is_numeral hF j hj,Lib.add_plain,World.cell?_drewN];exact cell?_putRow (fun (b:UInt8)=>Value.int .u8 (b.toNat:Int)) _ w.heap.size 0 _ dk HH0.out (by rw [hF.size,Array.size_replicate]) j (by rw [hF.size];rw [Lib.decDigits_length] at hj;exact hj))
   rw [Lib.decDigits_length] at h;exact h
  go_wp2
  go_ret
  obtain ⟨os,eo⟩:=Lib.fin_at w (.cells Lib.zeros24 327) dk k 0;exact ⟨rfl,k,os,eo⟩
end
theorem b4s {O:Nat→Prop}{w:World}{v u:Value}{vs:Array Value}(hn:vs.size=2)(h:∀ (i:Nat) (x:D),[D.prim v,.prim u][i]? = some x→Rep nol O w x (vs.getD i undef)):vs = #[v,u]:=by
 match vs,hn with
 | ⟨[a,b]⟩,_ =>
  have h0:=h 0 _ rfl;have h1:=h 1 _ rfl;simp at h0 h1;cases h0;cases h1;rfl
theorem c3I (u:Nat)(hu:u<18446744073709551616):a0b C0 238 [.prim (.int .u64 (u:Int)),i64 10] (str ⟨(Lib.decDigits u).toArray⟩):=by
 refine ⟨⟨_,_,Tryz.func238,rfl,by kernel_rfl⟩,fun Y w vs hG hnG hX hvs hr=>?_⟩
 have:=b4s hvs hr
 subst this;refine (d2I u hu w hG).mono ?_;rintro e w' ⟨rfl,k,os,rfl⟩;exact ⟨_,_,rfl,Lib.below_grow _ _ (Nat.le_refl _) _ _,rfl,.prim _⟩
theorem c8c (u:Nat)(hu:u<18446744073709551616):a0b C0 186 [.prim (.int .u64 (u:Int)),i64 10] (str ⟨(Lib.decDigits u).toArray⟩):=by
 refine a0c.walk w1 c2F rfl fun F=>?_
 refine goI dr0 kB (c3I u hu) trivial trivial trivial trivial trivial ?_;exact a0a rfl IsPure.out
theorem rp0:a0b C0 187 [str ⟨#[48]⟩,i64 0] (str ⟨#[]⟩):=a0b.ev a3M 400 20 (by kernel_rfl)
theorem rp1:a0b C0 187 [str ⟨#[48]⟩,i64 1] (str ⟨#[48]⟩):=a0b.ev a3M 400 20 (by kernel_rfl)
theorem rp2:a0b C0 187 [str ⟨#[48]⟩,i64 2] (str ⟨#[48,48]⟩):=a0b.ev a3M 400 20 (by kernel_rfl)
theorem rp3:a0b C0 187 [str ⟨#[48]⟩,i64 3] (str ⟨#[48,48,48]⟩):=a0b.ev a3M 400 20 (by kernel_rfl)
theorem rp4:a0b C0 187 [str ⟨#[48]⟩,i64 4] (str ⟨#[48,48,48,48]⟩):=a0b.ev a3M 400 20 (by kernel_rfl)
theorem rp5:a0b C0 187 [str ⟨#[48]⟩,i64 5] (str ⟨#[48,48,48,48,48]⟩):=a0b.ev a3M 400 20 (by kernel_rfl)
theorem rp6:a0b C0 187 [str ⟨#[48]⟩,i64 6] (str ⟨#[48,48,48,48,48,48]⟩):=a0b.ev a3M 400 20 (by kernel_rfl)
theorem rp7:a0b C0 187 [str ⟨#[48]⟩,i64 7] (str ⟨#[48,48,48,48,48,48,48]⟩):=a0b.ev a3M 400 20 (by kernel_rfl)
theorem rp8:a0b C0 187 [str ⟨#[48]⟩,i64 8] (str ⟨#[48,48,48,48,48,48,48,48]⟩):=a0b.ev a3M 400 20 (by kernel_rfl)
theorem rp9:a0b C0 187 [str ⟨#[48]⟩,i64 9] (str ⟨#[48,48,48,48,48,48,48,48,48]⟩):=a0b.ev a3M 400 20 (by kernel_rfl)
theorem d2E:a0b C0 187 [str ⟨#[48]⟩,i64 10] (str ⟨#[48,48,48,48,48,48,48,48,48,48]⟩):=a0b.ev a3M 400 20 (by kernel_rfl)
theorem d2S:a0b C0 187 [str ⟨#[48]⟩,i64 11] (str ⟨#[48,48,48,48,48,48,48,48,48,48,48]⟩):=a0b.ev a3M 400 20 (by kernel_rfl)
theorem d3g:a0b C0 187 [str ⟨#[48]⟩,i64 12] (str ⟨#[48,48,48,48,48,48,48,48,48,48,48,48]⟩):=a0b.ev a3M 400 20 (by kernel_rfl)
theorem d2W:a0b C0 187 [str ⟨#[48]⟩,i64 13] (str ⟨#[48,48,48,48,48,48,48,48,48,48,48,48,48]⟩):=a0b.ev a3M 400 20 (by kernel_rfl)
theorem d3R:a0b C0 187 [str ⟨#[48]⟩,i64 14] (str ⟨#[48,48,48,48,48,48,48,48,48,48,48,48,48,48]⟩):=a0b.ev a3M 400 20 (by kernel_rfl)
theorem d3k:a0b C0 187 [str ⟨#[48]⟩,i64 15] (str ⟨#[48,48,48,48,48,48,48,48,48,48,48,48,48,48,48]⟩):=a0b.ev a3M 400 20 (by kernel_rfl)
theorem d3C:a0b C0 187 [str ⟨#[48]⟩,i64 16] (str ⟨#[48,48,48,48,48,48,48,48,48,48,48,48,48,48,48,48]⟩):=a0b.ev a3M 400 20 (by kernel_rfl)
theorem d2R:a0b C0 187 [str ⟨#[48]⟩,i64 17] (str ⟨#[48,48,48,48,48,48,48,48,48,48,48,48,48,48,48,48,48]⟩):=a0b.ev a3M 400 20 (by kernel_rfl)
theorem c4r (n:Nat)(h:n≤17):a0b C0 187 [str ⟨#[48]⟩,i64 (n:Int)] (str ⟨(List.replicate n 48).toArray⟩):=by
 match n,h with
 | 0,_=>exact rp0
 | 1,_=>exact rp1
 | 2,_=>exact rp2
 | 3,_=>exact rp3
 | 4,_=>exact rp4
 | 5,_=>exact rp5
 | 6,_=>exact rp6
 | 7,_=>exact rp7
 | 8,_=>exact rp8
 | 9,_=>exact rp9
 | 10,_=>exact d2E
 | 11,_=>exact d2S
 | 12,_=>exact d3g
 | 13,_=>exact d2W
 | 14,_=>exact d3R
 | 15,_=>exact d3k
 | 16,_=>exact d3C
 | 17,_=>exact d2R
 | n+18,h=>omega
theorem ltT {i n:Nat}(h:i<n):decide ((i:Int)<(n:Int))=true:=decide_eq_true (by omega)
theorem ltF {i n:Nat}(h:n≤i):decide ((i:Int)<(n:Int))=false:=decide_eq_false (by omega)
theorem wiI {i:Nat}(h:i<9223372036854775807):IntKind.i64.wrap ((i:Int)+1)=((i+1:Nat):Int):=wI (by omega) (by omega)
theorem a5T {α:Type}{l:List α}{i:Nat}(h:i<l.length):∃ x,l[i]? = some x:=⟨l[i],List.getElem?_eq_getElem h⟩
theorem a7I {α:Type}{l:List α}{Q:α→Prop}{i:Nat}{x:α}(hx:l[i]? = some x)(ha:∀ (j:Nat) (y:α),j<i→l[j]? = some y→Q y)(h:Q x):∀ (j:Nat) (y:α),j<i+1→l[j]? = some y→Q y:=fun j y hj hy=>by
 rcases Nat.lt_or_ge j i with h1|h1
 ·exact ha j y h1 hy
 ·have:j=i:=by omega
  subst this;rw [hx] at hy;cases hy;exact h
abbrev txD (b:Bool)(v:List (List UInt8)):D:=.sl b 1 (v.map fun l=>str (sb l))
def frD (v:List (List UInt8)):D:=.sl false 4 (v.map fun l=>(a0v l).D)
instance  (l:List UInt8):CellsPure (a0v l).D:=by unfold GF.D;exact inferInstance
instance  (v:List (List UInt8)):CellsPure (frD v):=by unfold frD;exact inferInstance
instance  (v:List (List UInt8)):IsPure (frD v):=by unfold frD;exact inferInstance
theorem a4Z {v:List (List UInt8)}(h:a2L v=0):∀ l∈v,chk l=0:=by
 induction v with
 | nil=>intro l hl;cases hl
 | cons a r ih =>
  have h':(if chk a≠0 then chk a else a2L r)=0:=h
  by_cases g:chk a=0
  ·rw [if_neg (fun k=>k g)] at h'
   intro l hl;rcases List.mem_cons.1 hl with rfl|h2
   ·exact g
   ·exact ih h' l h2
  ·rw [if_pos g] at h';exact absurd h' g
theorem b4C (b:Bool)(v:List (List UInt8))(hl:v.length≤100000)(hf:∀ l∈v,l.length≤100000)(hc:a2L v=0):a0b C0 61 [txD b v] (frD v):=by
 refine a0c.walk w1 c7A rfl fun F=>?_
 have el:(((v.map fun l=>str (sb l)).length:Nat):Int)=(v.length:Int):=by rw [List.length_map]
 refine goI dr0 (ff2 el kN) trivial trivial trivial trivial trivial trivial ?_;refine OkS.loop (α:=Nat × List D × Nat) (fun p=>⟨[(3,.osl 102 3 4 0 v.length),(9,txD b v),(10,i64 (v.length:Int)),(11,i64 (p.1:Int))],[⟨102,3,114,4,p.2.1⟩],p.2.2⟩) (fun p=>v.length - p.1)
  (fun p=>p.1≤v.length∧p.2.1.length=v.length∧∀ (j:Nat) (l:List UInt8),j<p.1→v[j]? = some l→p.2.1[j]? = some (a0v l).D) (0,List.replicate v.length (.agg [i64 0,a2u,i64 0,a2u]),_) ⟨Nat.zero_le _,List.length_replicate,fun j r hj=>absurd hj (Nat.not_lt_zero j)⟩ wkI ?_
 rintro ⟨i,L,m⟩ F ⟨hi,hL,ha⟩;dsimp only at hi hL ha ⊢;rcases Nat.lt_or_ge i v.length with h2|h2
 ·have e0:=ltT h2
  have wi:=wiI (i:=i) (by omega);obtain ⟨l,hl2⟩:=a5T h2;have hm:(v.map fun l=>str (sb l))[i]? = some (str (sb l)):=by rw [List.getElem?_map,hl2];rfl
  have hmem:=List.mem_of_getElem? hl2;have c:=a4Q (hf l hmem) (a4Z hc l hmem);obtain ⟨z,hz⟩:∃ z,L[i]? = some z:=a5T (by omega);refine goI dr0 (ff5 e0 wi hz kN Nat.zero_add) hm c trivial trivial trivial trivial ?_;refine ⟨(i+1,L.set i (a0v l).D,_),⟨h2,by rw [List.length_set];exact hL,fun j y hj hy=>?_⟩,by dsimp only;omega,wkI⟩;dsimp only at hj ⊢;rcases Nat.decEq j i with hne|rfl
  ·rw [List.getElem?_set_ne (fun h=>hne h.symm)];exact ha j y (by omega) hy
  ·rw [List.getElem?_set_self (by omega)]
   rw [hl2] at hy;cases hy;rfl
 ·have e0:=ltF h2
  have:i=v.length:=by omega
  subst this;have hLe:L=v.map fun l=>(a0v l).D:=List.ext_getElem? fun j=>by
   rw [List.getElem?_map];rcases Nat.lt_or_ge j v.length with h|h
   ·obtain ⟨y,hy⟩:=a5T h
    rw [hy,ha j y h hy];rfl
   ·rw [List.getElem?_eq_none (by omega),List.getElem?_eq_none h];rfl
  refine goI dr0 e0 trivial trivial trivial trivial trivial trivial ?_;have hz:=a9b 102 3 114 4 L;rw [hL] at hz;exact ⟨_,hz,by rw [hLe];exact (inferInstance:IsPure (frD v)).out,by rw [hLe];rfl⟩
theorem b4k {a:Nat}(h:a≠0):(((a:Nat):Int) != 0)=true:=a9P (by omega)
theorem b4L {a:Nat}(h:a=0):(((a:Nat):Int) != 0)=false:=by subst h;rfl
theorem d2N {a:Nat}(h:a≠0):(((a:Nat):Int)==0)=false:=beq_eq_false_iff_ne.2 (by omega)
def Few (v:List (List UInt8)):Prop:=v.length≤100000∧∀ l∈v,l.length≤100000
theorem c3i {H Hf r r':Hp}{K g T sz:Nat}{l:List D}(h:FzH H Hf r r'):FzH H Hf (b1g K g T sz l++r) r':=by
 cases l with
 | nil=>exact h
 | cons x l=>exact .drop h
set_option maxHeartbeats 8000000
def a4L (q r:Nat):List UInt8:=if q=0 then Lib.decDigits r else List.replicate (18 - (Lib.decDigits r).length) 48++Lib.decDigits r
theorem b3h:Lib.decDigits 0=[48]:=by unfold Lib.decDigits;rfl
theorem b0E (n:Nat):Lib.decDigits n≠[]:=(a1k n).2.2
theorem b9i (q r:Nat):a4L q r≠[]:=by
 unfold a4L;split
 ·exact b0E r
 ·intro h;exact b0E r (List.append_eq_nil_iff.1 h).2
theorem b7t {q r:Nat}(hq:q≠0):a4L q r=a2b 18 r []:=by
 unfold a4L a2b c2P;rw [if_neg hq]
 by_cases h:r=0
 ·subst h;rw [b3h,if_pos rfl];rfl
 ·rw [if_neg h,List.append_nil]
theorem b9N (B q r:Nat)(hB:B=10^18)(hr:r<B):Lib.decDigits (q*B+r)=if q=0 then a4L q r else Lib.decDigits q++a4L q r:=by
 by_cases hq:q=0
 ·subst hq;rw [if_pos rfl];unfold a4L;rw [if_pos rfl,Nat.zero_mul,Nat.zero_add]
 ·rw [if_neg hq,b7t hq,hB]
  exact b2H 18 q r hq (by rw [← hB];exact hr)
def a2J (P:List (List UInt8)):List UInt8:=P.reverse.flatten
theorem a8M (P:List (List UInt8))(p:List UInt8):a2J (P++[p])=p++a2J P:=by unfold a2J;simp
theorem b5D (a b:List UInt8):sb a++sb b=sb (a++b):=by
 apply ByteArray.ext;simp [ByteArray.data_append]
theorem b5V {P:List (List UInt8)}(h:∀ p∈P,p≠[]):P.length≤(a2J P).length:=by
 unfold a2J;rw [List.length_flatten,← List.length_reverse];generalize hQ:P.reverse=Q;have h':∀ p∈Q,p≠[]:=fun p hp=>h p (by rw [← hQ] at hp;exact List.mem_reverse.1 hp)
 clear hQ h
 induction Q with
 | nil=>exact Nat.le_refl _
 | cons a r ih =>
  have h1:=ih fun p hp=>h' p (List.mem_cons_of_mem _ hp)
  have h2:a.length≠0:=fun q=>h' a List.mem_cons_self (List.eq_nil_of_length_eq_zero q)
  rw [List.map_cons,List.sum_cons,List.length_cons];omega
structure a8Q (n m:Nat)(P:List (List UInt8)):Prop where
 ne:m≠0→Lib.decDigits n=Lib.decDigits m++a2J P
 eq:m=0→Lib.decDigits n=a2J P
 all:∀ p∈P,p≠[]
 le:m≤n
theorem a8Q.len {n m:Nat}{P:List (List UInt8)}(h:a8Q n m P):P.length≤(Lib.decDigits n).length:=by
 have h1:=b5V h.all
 by_cases q:m=0
 ·rw [h.eq q];exact h1
 ·rw [h.ne q,List.length_append];omega
theorem a8Q.step {n m:Nat}{P:List (List UInt8)}{B:Nat}(h:a8Q n m P)(hm:m≠0)(hB:B=10^18):a8Q n (m / B) (P++[a4L (m / B) (m%B)]):=by
 have hB0:0<B:=by rw [hB];decide
 have hd:=b9N B (m / B) (m%B) hB (Nat.mod_lt _ hB0);rw [show m / B*B+m%B=m by rw [Nat.mul_comm];exact Nat.div_add_mod m B] at hd;have hn:=h.ne hm;rw [hd] at hn;refine ⟨fun q=>?_,fun q=>?_,fun p hp=>?_,Nat.le_trans (Nat.div_le_self _ _) h.le⟩
 ·rw [if_neg q] at hn;rw [hn,a8M,List.append_assoc]
 ·rw [if_pos q] at hn;rw [hn,a8M]
 ·rcases List.mem_append.1 hp with hp|hp
  ·exact h.all p hp
  ·rw [List.mem_singleton] at hp;subst hp;exact b9i _ _
abbrev a2e (P:List (List UInt8)):List D:=P.map fun p=>str (sb p)
theorem b0n (x : GI) (h : x.wf) (hf : x.few) : a0b C0 115 [x.D] (str (sb (Lib.itoa x.z))) := by
  refine a0c.walk w1 c2d rfl fun F => ?_
  obtain ⟨z, sm⟩ := x
  obtain ⟨h1, h2⟩ := h
  have hp := a2A ⟨z, sm⟩ ⟨h1, h2⟩
  dsimp only [GI.D, GI.few] at *
  cases sm with
  | true =>
    obtain ⟨h3, h4⟩ := h1 rfl
    have c : a0b C0 183 [i64 z] (str (sb (Lib.itoa z))) := b2v z h3 (by omega)
    unfold GI.s GI.w
    dsimp only
    refine goI dr0 kB c trivial trivial trivial trivial trivial ?_
    exact a0a rfl IsPure.out
  | false =>
    have hz := h2 rfl
    have hz0 : z.natAbs ≠ 0 := fun q => hz (by have : z = 0 := by omega
                                               subst this; exact a0H rfl)
    have hw : GI.w ⟨z, false⟩ = wD z.natAbs := rfl
    have hs : GI.s ⟨z, false⟩ = if z < 0 then -1 else 1 := rfl
    rw [hw] at hp ⊢
    obtain ⟨sg, hsg⟩ : ∃ s, GI.s ⟨z, false⟩ = s := ⟨_, rfl⟩
    rw [hsg] at hp ⊢
    obtain ⟨B, hB⟩ : ∃ B : Nat, B = 10 ^ 18 := ⟨_, rfl⟩
    have hB1 : B < BB := by rw [hB]; decide
    have hB0 : B ≠ 0 := by rw [hB]; decide
    have hB2 : 1 < B := by rw [hB]; decide
    have hBs : u64 1000000000000000000 = a0i B := by rw [hB]; rfl
    have hBl : a0f B = [B] := a3i hB0 hB1
    obtain ⟨n, hn⟩ : ∃ n, z.natAbs = n := ⟨_, rfl⟩
    obtain ⟨neg, hneg⟩ : ∃ b, decide (z < 0) = b := ⟨_, rfl⟩
    rw [hn] at hp hf hz0 ⊢
    rw [hneg] at hp
    have hit : Lib.itoa z = (if neg then [45] else []) ++ Lib.decDigits n := by
      unfold Lib.itoa
      by_cases q : z < 0
      · rw [if_pos q, ← hneg, decide_eq_true q, hn]; rfl
      · rw [if_neg q, ← hneg, decide_eq_false q, ← hn]
        have : z.toNat = z.natAbs := by omega
        rw [this]; rfl
    rw [hit]
    have hDL : (Lib.decDigits n).length ≤ 27 * 1000000 + 1 := a9q (k := 1000000) (by omega)
    have hmpos : ∀ m : Nat, m ≠ 0 → decide ((((a0f m).map a0i).length : Int) > 0) = true := fun m hm => decide_eq_true (by
      rw [a1d hm, List.map_cons, List.length_cons]; omega)
    have hm0 : decide ((((a0f 0).map a0i).length : Int) > 0) = false := decide_eq_false (by rw [a0M]; decide)
    obtain ⟨w0, ws, hws⟩ : ∃ a l, (a0f n).map a0i = a :: l := by
      cases hl : (a0f n).map a0i with
      | nil => exact absurd hl (a1M hz0)
      | cons a l => exact ⟨a, l, rfl⟩
    have hwD : wD n = .sl false 1 (w0 :: ws) := by unfold wD wL; rw [hws]
    have hbD : wD B = .sl false 1 [u64 1000000000000000000] := by unfold wD wL; rw [hBl, hBs]; rfl
    have pw : IsPure (.sl false 1 (w0 :: ws)) := by rw [← hwD]; exact inferInstance
    rw [hwD] at hp ⊢
    clear hit h1 h2 hz hs hsg
    have hne : (w0 :: ws ≠ []) = True := eq_true (List.cons_ne_nil _ _)
    refine goI dr0 hne hp trivial trivial trivial trivial trivial ?_
    rw [← hwD]
    refine OkS.loop (α := Nat × List (List UInt8) × Nat × Nat) (fun p => ⟨[(3, boo neg), (4, wD p.1), (5, wD B), (6, b1V 1303 p.2.2.1 1 (a2e p.2.1))], b1g 1303 p.2.2.1 9 1 (a2e p.2.1), p.2.2.2⟩) (fun p => p.1)
      (fun p => a8Q n p.1 p.2.1) (n, [], 0, _) ⟨fun _ => by unfold a2J; simp, fun q => absurd q hz0, fun p hp => absurd hp List.not_mem_nil, Nat.le_refl _⟩ (by refine ⟨.drop .nil, ⟨.refl _, .refl _, ?_, .refl _, trivial⟩, Nat.le_refl _⟩; dsimp only; rw [hbD]; exact .nn true 1 _) ?_
    rintro ⟨m, P, g, cnt⟩ F I
    dsimp only at I ⊢
    have hPl := I.len
    rcases Nat.decEq m 0 with hm | hm
    rotate_left
    · subst hm
      have hdn := I.eq rfl
      have hall := I.all
      have hLn : P.length ≤ 27000001 := by omega
      have hP0 : P ≠ [] := fun q => b0E n (by rw [hdn, q]; rfl)
      obtain ⟨N, hN⟩ : ∃ N, P.length = N := ⟨_, rfl⟩
      have hN0 : N ≠ 0 := fun q => hP0 (List.eq_nil_of_length_eq_zero (by omega))
      rw [hdn]
      clear hwD hbD pw hp hn hPl I
      have elP : (((a2e P).length : Nat) : Int) = (N : Int) := by rw [List.length_map, hN]
      have wN : IntKind.i64.wrap ((N : Int) - 1) = ((N : Int) - 1) := wI (by omega) (by omega)
      refine OkS.seq ?_
      refine sZ 600 ?_
      refine nwI hm0 ?_
      refine ifI ?_
      refine exI ?_
      refine OkS.weak ⟨[(3, boo neg), (6, .sl false 1 (a2e P))], [], _⟩ ⟨?_, ⟨.refl _, ?_, trivial⟩, Nat.le_refl _⟩ ?_
      · have := c3i (K := 1303) (g := g) (T := 9) (sz := 1) (l := a2e P) (r := []) (r' := []) (H := b1g 1303 g 9 1 (a2e P)) (Hf := []) .nil
        rwa [List.append_nil] at this
      · exact b6W _ _ _ _ _
      obtain ⟨c0, hc0⟩ : ∃ c, c = cnt + 1 + 1 + 1 := ⟨_, rfl⟩
      rw [← hc0]
      refine sR 1500 ?_
      obtain ⟨c1, hc1⟩ : ∃ c, c = c0 + 1 := ⟨_, rfl⟩
      refine OkS.seqX (α := D × Nat × Nat) (fun q => ⟨[(6, .sl false 1 (a2e P)), (10, .optr 1500 c0 2 0 0)], bH q.2.1 c0 q.1 (if neg then [45] else []) [], q.2.2⟩) (fun q => q.1 = .prim (.pointer none) ∨ q.1 = .optr 1500 c0 2 0 0) ?_ ?_
      · cases neg
        · refine goI dr0 kB trivial trivial trivial trivial trivial trivial ?_
          exact ⟨by trivial, (.prim (.pointer none), 0, _), .inl rfl, wkI⟩
        · refine goI dr0 kB trivial trivial trivial trivial trivial trivial ?_
          refine a0m.own _ (d2o c0 0 _ (.prim (.pointer none)) (.inl rfl) [] [45] (by decide) [] (by decide)) ?_
          rintro d H' n' ⟨⟨g', rfl⟩, hn'⟩
          refine stI ?_
          exact ⟨by trivial, (.optr 1500 c0 2 0 0, g', _), .inr rfl, wkI⟩
      rintro ⟨p0, gb0, c2⟩ hp0
      dsimp only at hp0 ⊢
      obtain ⟨pre, hpre⟩ : ∃ l, (if neg then [45] else [] : List UInt8) = l := ⟨_, rfl⟩
      have hpl : pre.length ≤ 1 := by rw [← hpre]; split <;> decide
      rw [hpre]
      refine goI dr0 (ff2 elP @wN) trivial trivial trivial trivial trivial trivial ?_
      refine OkS.loop (α := Nat × D × Nat × Nat) (fun q => ⟨[(6, .sl false 1 (a2e P)), (10, .optr 1500 c0 2 0 0), (11, i64 ((q.1 : Int) - 1))], bH q.2.2.1 c0 q.2.1 (pre ++ a2J (P.drop q.1)) [], q.2.2.2⟩) (fun q => q.1)
        (fun q => q.1 ≤ N ∧ (q.2.1 = .prim (.pointer none) ∨ q.2.1 = .optr 1500 c0 2 0 0)) (N, p0, gb0, _) ⟨Nat.le_refl _, hp0⟩ (by dsimp only; rw [← hN, List.drop_length]; unfold a2J; rw [List.reverse_nil, List.flatten_nil, List.append_nil]; exact wkI) ?_
      rintro ⟨k, p, gb, c3⟩ F ⟨hk, hp⟩
      dsimp only at hk hp ⊢
      have hjl : ∀ k, (a2J (P.drop k)).length ≤ (a2J P).length := fun k => by
        unfold a2J
        conv => rhs; rw [← List.take_append_drop k P]
        rw [List.reverse_append, List.flatten_append, List.length_append]; omega
      have hjP : (a2J P).length ≤ 27000001 := by rw [← hdn]; omega
      rcases Nat.eq_zero_or_pos k with hk0 | hk0
      · subst hk0
        have e1 : decide ((((0 : Nat) : Int) - 1) ≥ 0) = false := by decide
        rw [List.drop_zero]
        have hL : pre ++ a2J P ≠ [] := fun q => by
          have := (List.append_eq_nil_iff.1 q).2
          rw [← hdn] at this; exact b0E n this
        obtain ⟨L, hLL⟩ : ∃ L, pre ++ a2J P = L := ⟨_, rfl⟩
        rw [hLL] at hL ⊢
        obtain ⟨y, r, hy⟩ := b3f hL
        have hlr : L.length = r.length + 1 := by rw [← a3Y, hy]; rfl
        refine goI dr0 e1 trivial trivial trivial trivial trivial trivial ?_
        refine a0m.own _ (by
          have := fun n => d0M c0 gb n L hL p []
          unfold bH
          simp only [hy, hlr] at this ⊢
          exact this _) ?_
        rintro d H' n' ⟨rfl, rfl, rfl⟩
        refine goI dr0 kB trivial trivial trivial trivial trivial trivial ?_
        exact a0a rfl IsPure.out
      · obtain ⟨k', rfl⟩ : ∃ k', k = k' + 1 := ⟨k - 1, by omega⟩
        have e1 : decide ((((k' + 1 : Nat) : Int) - 1) ≥ 0) = true := decide_eq_true (by omega)
        have e2 : (((k' + 1 : Nat) : Int) - 1) = (k' : Int) := by omega
        have wk : IntKind.i64.wrap ((k' : Int) - 1) = ((k' : Int) - 1) := wI (by omega) (by omega)
        have e3 : decide ((k' : Int) ≥ 0) = true := decide_eq_true (by omega)
        obtain ⟨t, ht⟩ : ∃ t, P[k']? = some t := a5T (by omega)
        have hm : (a2e P)[k']? = some (str (sb t)) := by rw [List.getElem?_map, ht]; rfl
        have htn := hall t (List.mem_of_getElem? ht)
        have hdr : P.drop k' = t :: P.drop (k' + 1) := by
          rw [List.drop_eq_getElem_cons (List.getElem?_eq_some_iff.1 ht).1, (List.getElem?_eq_some_iff.1 ht).2]
        have hj : pre ++ a2J (P.drop k') = pre ++ a2J (P.drop (k' + 1)) ++ t := by
          rw [hdr, List.append_assoc]
          congr 1
          unfold a2J
          rw [List.reverse_cons, List.flatten_append]; simp
        have hlt : (pre ++ a2J (P.drop (k' + 1))).length + t.length ≤ 100000000 := by
          have h1 := hjl k'
          have h2 : (pre ++ a2J (P.drop k')).length = (pre ++ a2J (P.drop (k' + 1))).length + t.length := by rw [hj, List.length_append]
          rw [← h2, List.length_append]; omega
        rw [e2]
        refine goI dr0 (ff2 e3 kN) hm trivial trivial trivial trivial trivial ?_
        refine a0m.own _ (d2o c0 gb _ p hp (pre ++ a2J (P.drop (k' + 1))) t htn [] hlt) ?_
        rintro d H' n' ⟨⟨g', rfl⟩, hn'⟩
        refine stI ?_
        refine goI dr0 wk trivial trivial trivial trivial trivial trivial ?_
        exact ⟨(k', .optr 1500 c0 2 0 0, g', _), ⟨by dsimp only; omega, .inr rfl⟩, by dsimp only; omega, by (dsimp only; rw [hj]; exact wkI)⟩
    have e1 := hmpos m hm
    have c1 := d2m m B hB0 (Nat.lt_of_le_of_lt (a0A m n I.le) hf) (by rw [hBl]; show 1 < 1000000; decide)
    have I2 := I.step hm hB
    obtain ⟨q, hq⟩ : ∃ q, m / B = q := ⟨_, rfl⟩
    obtain ⟨r, hr⟩ : ∃ q, m % B = q := ⟨_, rfl⟩
    have hqm : q < m := by rw [← hq]; exact Nat.div_lt_self (Nat.pos_of_ne_zero hm) hB2
    have hrB : r < B := by rw [← hr]; exact Nat.mod_lt _ (Nat.pos_of_ne_zero hB0)
    rw [hq, hr] at c1 I2
    have hsz := a0r (Lib.decDigits r)
    have hdl : (Lib.decDigits r).length ≤ 18 := a1H 17 r (by rw [hB] at hrB; exact hrB)
    have hdl1 : (Lib.decDigits r).length ≠ 0 := fun h => b0E r (List.eq_nil_of_length_eq_zero h)
    refine goI dr0 e1 trivial trivial trivial trivial trivial trivial ?_
    refine cI c1 ?_
    refine sR 800 ?_
    refine OkS.seqX (α := Nat) (fun cnt => ⟨[(3, boo neg), (5, wD B), (6, b1V 1303 g 1 (a2e P)), (7, wD q), (9, str (sb (Lib.decDigits r)))], b1g 1303 g 9 1 (a2e P), cnt⟩) (fun _ => True) ?_ ?_
    · rcases Nat.decEq r 0 with h0 | h0
      · have e2 := hmpos r h0
        have hl1 : a0f r = [r] := a3i h0 (Nat.lt_trans hrB hB1)
        have hmm : ((a0f r).map a0i)[0]? = some (u64 (r : Int)) := by rw [hl1]; rfl
        have c2 := c8c r (Nat.lt_trans hrB hB1)
        refine goI dr0 e2 hmm c2 trivial trivial trivial trivial ?_
        exact ⟨by trivial, _, trivial, wkI⟩
      · subst h0
        rw [b3h]
        refine goI dr0 hm0 trivial trivial trivial trivial trivial trivial ?_
        exact ⟨by trivial, _, trivial, wkI⟩
    rintro cnt2 -
    refine OkS.seqX (α := Nat) (fun cnt => ⟨[(3, boo neg), (5, wD B), (6, b1V 1303 g 1 (a2e P)), (7, wD q), (9, str (sb (a4L q r)))], b1g 1303 g 9 1 (a2e P), cnt⟩) (fun _ => True) ?_ ?_
    · rcases Nat.decEq q 0 with h0 | h0
      · have e2 := hmpos q h0
        have c2 : a0b C0 187 [str ⟨#[48]⟩, i64 ((18 - (Lib.decDigits r).length : Nat) : Int)] (str (sb (List.replicate (18 - (Lib.decDigits r).length) 48))) := c4r (18 - (Lib.decDigits r).length) (by omega)
        have w18 : IntKind.i64.wrap (18 - ((Lib.decDigits r).length : Int)) = ((18 - (Lib.decDigits r).length : Nat) : Int) := by rw [wI (by omega) (by omega)]; omega
        have hap := b5D (List.replicate (18 - (Lib.decDigits r).length) 48) (Lib.decDigits r)
        have hsz2 := a0r (List.replicate (18 - (Lib.decDigits r).length) 48)
        have hpt : List.replicate (18 - (Lib.decDigits r).length) 48 ++ Lib.decDigits r = a4L q r := by unfold a4L; rw [if_neg h0]
        rw [hpt] at hap
        have hsize : (sb (List.replicate (18 - (Lib.decDigits r).length) 48)).size + (sb (Lib.decDigits r)).size ≤ 9223372036854775807 := by
          rw [hsz, hsz2, List.length_replicate]; omega
        refine goI dr0 (ff4 e2 hsz w18 hap) c2 trivial trivial trivial trivial trivial ?_
        exact ⟨by trivial, _, trivial, wkI⟩
      · subst h0
        have hpt : a4L 0 r = Lib.decDigits r := if_pos rfl
        rw [hpt]
        refine goI dr0 hm0 trivial trivial trivial trivial trivial trivial ?_
        exact ⟨by trivial, _, trivial, wkI⟩
    rintro cnt3 -
    have hsn : a2e (P ++ [a4L q r]) = a2e P ++ [str (sb (a4L q r))] := by unfold a2e; rw [List.map_append]; rfl
    have hPL : (a2e P).length = P.length := List.length_map ..
    rcases hPD : a2e P with _ | ⟨y, l⟩
    all_goals
      rw [hPD] at hsn hPL
      dsimp only [a6R, a7d, a5h, a5n, List.nil_append]
    · refine goI dr0 kB trivial trivial trivial trivial trivial trivial ?_
      exact ⟨(q, P ++ [a4L q r], _, _), I2, hqm, by (dsimp only; rw [hsn]; exact wkI)⟩
    · have htk : List.take (l.length + 1) (y :: l) = y :: l := by simp
      have hll : l.length + 1 ≤ 27000001 := by rw [List.length_cons] at hPL; omega
      refine goI dr0 htk trivial trivial trivial trivial trivial trivial ?_
      exact ⟨(q, P ++ [a4L q r], _, _), I2, hqm, by (dsimp only; rw [hsn, a8z]; exact wkI)⟩
abbrev b8L:Dr:=[(3,[0,1,2,3,4,5,6],[7,8])]
open Go.Proofs Go.RowKit
set_option maxRecDepth 20000
set_option maxHeartbeats 4000000
theorem c0K (x:Nat)(hx:x<BB):a0b C0 258 [a0i x] (i64 (Lib.bitLen x:Int)):=by
 refine ⟨⟨_,_,Tryz.func258,rfl,by kernel_rfl⟩,fun Y w vs hG hnG hX hvs hr=>?_⟩
 have:=a6O hvs hr
 subst this;refine (Tryz.bits_Len64 x w (by omega) (by unfold BB at hx;omega)).mono ?_;rintro e w' ⟨rfl,rfl⟩;exact ⟨_,_,rfl,.refl _ _,rfl,.prim _⟩
def b0i (n:Nat):Nat:=(a0f n).getD ((a0f n).length - 1) 0
def a8x (n:Nat):Nat:=if n=0 then 0 else 64*((a0f n).length - 1)+Lib.bitLen (b0i n)
theorem c3j (n:Nat):n<2^a8x n:=by
 unfold a8x
 by_cases h:n=0
 ·subst h;rw [if_pos rfl];decide
 ·rw [if_neg h]
  have hl:(a0f n).length≠0:=fun q=>by
   have:=a1d h
   rw [this] at q;simp at q
  obtain ⟨k,hk⟩:∃ k,(a0f n).length=k+1:=⟨(a0f n).length - 1,by omega⟩
  have hat:(a0f n)[k]? = some (b0i n):=by
   unfold b0i;rw [hk,Nat.add_sub_cancel,List.getD_eq_getElem?_getD,List.getElem?_eq_getElem (by omega)];rfl
  have hv:=a4j hat;rw [List.drop_of_length_le (by omega),a0J] at hv;have ht:b0i n<BB:=a1e n _ (List.mem_of_getElem? hat);have h1:a0j ((a0f n).take k)<BB^k:=by
   have:=a2s (l:=(a0f n).take k) fun a ha=>a1e n a (List.mem_of_mem_take ha)
   rwa [List.length_take,Nat.min_eq_left (by omega)] at this
  have h2:b0i n<2^Lib.bitLen (b0i n):=by
   by_cases t0:b0i n=0
   ·rw [t0];exact Nat.two_pow_pos _
   ·exact (Lib.bitLenAux_bounds 64 (b0i n) ht t0).2.2
  have h3:BB^k=2^(64*k):=by rw [Nat.pow_mul]
  rw [hk,Nat.add_sub_cancel,Nat.pow_add,← h3];have h4:n=a0j ((a0f n).take k)+BB^k*b0i n:=by simpa [a0j] using hv
  have h5:BB^k*(b0i n+1)≤BB^k*2^Lib.bitLen (b0i n):=Nat.mul_le_mul_left _ h2;rw [Nat.mul_add,Nat.mul_one] at h5;omega
def a9J (n:Nat):Bool:=decide (600<(Lib.decDigits n).length)
theorem b6O (n:Nat):a9J n=(decide (a8x n>1800)&&a9J n):=by
 by_cases h:a8x n>1800
 ·rw [decide_eq_true h,Bool.true_and]
 ·rw [decide_eq_false h,Bool.false_and]
  have key:∀ k,a8x n≤3*(k+1)→(Lib.decDigits n).length≤k+1:=fun k hk=>a1H k n (Nat.lt_of_lt_of_le (c3j n) (Nat.le_trans (Nat.pow_le_pow_right (by decide) hk) (by rw [Nat.pow_mul];exact Nat.pow_le_pow_left (by decide) (k+1))))
  have h4:=key 599 (by omega);exact decide_eq_false (by omega)
theorem c7E (x:GI)(h:x.wf)(hf:x.few):a0b C0 253 [x.D] (i64 (a8x x.z.natAbs:Nat)):=by
 refine a0c.walk w1 c1a rfl fun F=>?_
 have c1:=a2A x h;obtain ⟨n,hn⟩:∃ n,x.z.natAbs=n:=⟨_,rfl⟩
 unfold GI.few at hf;rw [hn] at c1 hf ⊢;have el:((((a0f n).map a0i).length:Nat):Int)=((a0f n).length:Int):=by rw [List.length_map]
 unfold wD wL at c1;dsimp only [GI.D] at c1 ⊢
 by_cases h0:n=0
 ·have e1:(((a0f n).length:Int)==0)=true:=by rw [h0,a0M];rfl
  have hb:a8x n=0:=if_pos h0;rw [hb];refine goI dr0 (ff2 e1 el) c1 trivial trivial trivial trivial trivial ?_;exact a0a rfl IsPure.out
 ·have hl:(a0f n).length≠0:=fun q=>by
   have:=a1d h0
   rw [this] at q;simp at q
  have e1:(((a0f n).length:Int)==0)=false:=d2N hl;have wl:IntKind.i64.wrap (((a0f n).length:Int) - 1)=(((a0f n).length - 1:Nat):Int):=by rw [wI (by omega) (by omega)];omega
  have wm:IntKind.i64.wrap (64*(((a0f n).length - 1:Nat):Int))=((64*((a0f n).length - 1):Nat):Int):=by rw [wI (by omega) (by omega)];omega
  have hat:(a0f n)[(a0f n).length - 1]? = some (b0i n):=by
   unfold b0i;rw [List.getD_eq_getElem?_getD,List.getElem?_eq_getElem (by omega)];rfl
  have hm:((a0f n).map a0i)[(a0f n).length - 1]? = some (u64 (b0i n:Int)):=by rw [List.getElem?_map,hat];rfl
  have ht:b0i n<BB:=a1e n _ (List.mem_of_getElem? hat);have c2:=c0K (b0i n) ht;have hbl:=Lib.bitLen_le (b0i n) 64 (Nat.le_refl _) ht;have wa:IntKind.i64.wrap (((64*((a0f n).length - 1):Nat):Int)+(Lib.bitLen (b0i n):Int))=((a8x n:Nat):Int):=by
   have hb:a8x n=64*((a0f n).length - 1)+Lib.bitLen (b0i n):=if_neg h0;rw [hb,wI (by omega) (by omega)];omega
  refine goI dr0 (ff6 e1 el wl wm wa kN) c1 hm c2 trivial trivial trivial ?_;exact a0a rfl IsPure.out
theorem c2g (x:GI)(h:x.wf)(hf:x.few):a0b C0 216 [x.D] (boo (a9J x.z.natAbs)):=by
 refine a0c.walk w1 c2r rfl fun F=>?_
 have c1:=c7E x h hf;have c2:=b0n x h hf;have hlen:(Lib.decDigits x.z.natAbs).length≤27*1000000+1:=a9q (k:=1000000) (by unfold GI.few at hf;omega);have hil:(Lib.itoa x.z).length≤27000002:=by
  unfold Lib.itoa;split
  ·rw [List.length_cons];omega
  ·rw [show x.z.toNat=x.z.natAbs by omega];omega
 have c3:=a3A (Lib.itoa x.z) (by omega);rw [(a4r x.z).2] at c3;have hsz:=a0r (Lib.decDigits x.z.natAbs);have hlb:=b6O x.z.natAbs;obtain ⟨b,hb⟩:∃ b,a9J x.z.natAbs=b:=⟨_,rfl⟩
 have e2:decide (((Lib.decDigits x.z.natAbs).length:Int)>600)=b:=by rw [← hb];exact decide_eq_decide.2 (by omega)
 obtain ⟨p,hp⟩:∃ b,decide (a8x x.z.natAbs>1800)=b:=⟨_,rfl⟩
 have e1:decide (((a8x x.z.natAbs:Nat):Int)>1800)=p:=by rw [← hp];exact decide_eq_decide.2 (by omega)
 rw [hb,hp] at hlb;rw [hb,hlb];dsimp only [GI.D] at c1 c2 ⊢;cases p
 ·refine goI dr0 e1 c1 trivial trivial trivial trivial trivial ?_
  exact a0a rfl IsPure.out
 ·refine goI dr0 (ff3 e1 e2 hsz) c1 c2 c3 trivial trivial trivial ?_
  exact a0a rfl IsPure.out
theorem c2t {r:Rat}{x:GF}{k:Nat}(h:FR r x k)(hk:k<100000):x.n.wf∧x.n.few∧(mkG (x.d:Int)).wf∧(mkG (x.d:Int)).few∧x.n.z=r.num∧x.d=r.den∧0<x.d :=
 ⟨h.is.1,h.fn (by omega),a0F _,by
  show (a0f ((x.d:Int)).natAbs).length<1000000;rw [Int.natAbs_natCast];have:=h.ld;omega,h.is.2.1,h.is.2.2,h.dpos⟩
theorem c4H {r:Rat}{x:GF}{k:Nat}(h:FR r x k)(hk:k<100000):a0b C0 158 [x.D] (boo (a6f r)):=by
 refine a0c.walk w1 c1V rfl fun F=>?_
 obtain ⟨h1,h2,h3,h4,h5,h6,_⟩:=c2t h hk;have c1:=c2g x.n h1 h2;have c2:=c2g (mkG (x.d:Int)) h3 h4;have hb:a6f r=(a9J x.n.z.natAbs||a9J (mkG (x.d:Int)).z.natAbs):=by
  unfold a6f a9J;rw [h5,← h6];rfl
 rw [hb];obtain ⟨p,hp⟩:∃ b,a9J x.n.z.natAbs=b:=⟨_,rfl⟩
 obtain ⟨q,hq⟩:∃ b,a9J (mkG (x.d:Int)).z.natAbs=b:=⟨_,rfl⟩
 rw [hp] at c1;rw [hq] at c2;rw [hp,hq];dsimp only [GI.D,GF.D] at c1 c2 ⊢;generalize mkG (x.d:Int)=y at c2 ⊢;cases p<;>cases q
 all_goals
  refine goI dr0 kB c1 c2 trivial trivial trivial trivial ?_;exact a0a rfl IsPure.out
theorem c1y {r:Rat}{x:GF}{k:Nat}(h:FR r x k)(hk:k<100000):a0b C0 50 [x.D] (str (sb (txt r))):=by
 refine a0c.walk w1 c7I rfl fun F=>?_
 obtain ⟨h1,h2,h3,h4,h5,h6,h7⟩:=c2t h hk;have c0:=a7S x h7;have c1:=b0n x.n h1 h2;have c2:=b0n (mkG (x.d:Int)) h3 h4;have hd:Lib.itoa (mkG (x.d:Int)).z=Lib.decDigits r.den:=by
  show Lib.itoa (x.d:Int)=_;unfold Lib.itoa;rw [if_neg (by omega),h6];rfl
 rw [hd] at c2;rw [h5] at c1;have l1:(Lib.itoa r.num).length≤27000002:=by
  have:(Lib.decDigits x.n.z.natAbs).length≤27*1000000+1:=a9q (k:=1000000) (by unfold GI.few at h2;omega)
  rw [h5] at this;unfold Lib.itoa;split
  ·rw [List.length_cons];omega
  ·rw [show r.num.toNat=r.num.natAbs by omega];omega
 have l2:(Lib.decDigits r.den).length≤27000001:=by
  have:(Lib.decDigits (mkG (x.d:Int)).z.natAbs).length≤27*1000000+1:=a9q (k:=1000000) (by unfold GI.few at h4;omega)
  rw [← h6];exact this
 have s1:=a0r (Lib.itoa r.num);have s2:=a0r (Lib.decDigits r.den);have s3:(sb [47]).size=1:=rfl;have s4:=a0r (Lib.itoa r.num++[47]);have z1:(sb (Lib.itoa r.num)).size+(sb [47]).size≤9223372036854775807:=by rw [s1,s3];omega
 have z2:(sb (Lib.itoa r.num++[47])).size+(sb (Lib.decDigits r.den)).size≤9223372036854775807:=by rw [s4,s2,List.length_append,List.length_singleton];omega
 have a1:sb (Lib.itoa r.num)++(⟨#[47]⟩:ByteArray)=sb (Lib.itoa r.num++[47]):=b5D _ [47];have a2:=b5D (Lib.itoa r.num++[47]) (Lib.decDigits r.den);rw [List.append_assoc] at a2;dsimp only [GI.D,GF.D] at c0 c1 c2 ⊢;generalize mkG (x.d:Int)=y at c0 c2 ⊢;unfold txt
 by_cases g:x.d=1
 ·rw [decide_eq_true g] at c0
  rw [if_pos (h6 ▸ g)];refine goI b8L kB c0 c1 trivial trivial trivial trivial ?_;exact a0a rfl IsPure.out
 ·rw [decide_eq_false g] at c0
  rw [if_neg (fun q=>g (h6.trans q))];refine goI b8L (ff2 a1 a2) c0 c1 c2 trivial trivial trivial ?_;exact a0a rfl IsPure.out
set_option maxHeartbeats 4000000
def b1U {α:Type}(f:α→Nat):List α→Nat
 | []=>0
 | a::r=>if f a≠0 then f a else b1U f r
theorem b0G {α:Type}{f:α→Nat}{l:List α}{i:Nat}(ha:∀ (j:Nat) (y:α),j<i→l[j]? = some y→f y=0):b1U f l=b1U f (l.drop i):=by
 induction l generalizing i with
 | nil=>simp
 | cons a r ih =>
  cases i with
  | zero=>rfl
  | succ i =>
   have h0:=ha 0 a (by omega) rfl;show (if f a≠0 then f a else b1U f r)=_;rw [if_neg (fun k=>k h0),List.drop_succ_cons];exact ih fun j y hj hy=>ha (j+1) y (by omega) hy
theorem b5Z {α:Type}{f:α→Nat}{v:List α}{i:Nat}{l:α}(ha:∀ (j:Nat) (y:α),j<i→v[j]? = some y→f y=0)(hl:v[i]? = some l)(h:f l≠0):b1U f v=f l:=by
 rw [b0G ha,List.drop_eq_getElem_cons (List.getElem?_eq_some_iff.1 hl).1,(List.getElem?_eq_some_iff.1 hl).2];exact if_pos h
theorem b4g {α:Type}{f:α→Nat}{v:List α}(ha:∀ (j:Nat) (y:α),j<v.length→v[j]? = some y→f y=0):b1U f v=0:=by
 rw [b0G (i:=v.length) ha,List.drop_length];rfl
theorem b7O {r:Rat}(h:0<a3s r):r≠0:=fun q=>by subst q;exact absurd h (by decide)
def a6F (r:Rat):List UInt8:=if a6f r=true then [] else txt r
def a8D (r:Rat):Nat:=if a6f r=true then 4 else 0
set_option maxHeartbeats 8000000
theorem a5u {l:List UInt8}(h:chk l=0):rR (a0d l)=str (sb l):=by unfold rR;rw [(a2n h).2.2.1]
theorem c6K {a b:Rat}{i j:Nat}(ha:rk a i)(hb:rk b j)(h0:b≠0):rk (a / b) (i+j):=by
 rw [Rat.div_def];exact b6M ha (b7s hb h0)
set_option maxHeartbeats 4000000
def upK (s:ByteArray)(h:Int)(o:Bool):Bool:=if a0E s ⟨#[100,111,119,110]⟩ then false else if a0E s ⟨#[117,112]⟩ then true else if a0E s ⟨#[104,97,108,102,45,117,112]⟩ then decide (h≥0) else (decide (h>0)||((h==0)&&o))
theorem d1G (h:Int)(o:Bool):a0b C0 207 [i64 h,boo o] (boo false):=by
 refine a0c.walk w1 c1o rfl fun F=>?_
 refine goI dr0 kB trivial trivial trivial trivial trivial trivial ?_;exact a0a rfl IsPure.out
theorem d1f (h:Int)(o:Bool):a0b C0 208 [i64 h,boo o] (boo true):=by
 refine a0c.walk w1 c1E rfl fun F=>?_
 refine goI dr0 kB trivial trivial trivial trivial trivial trivial ?_;exact a0a rfl IsPure.out
theorem d1j (h:Int)(o:Bool):a0b C0 209 [i64 h,boo o] (boo (decide (h≥0))):=by
 refine a0c.walk w1 c1q rfl fun F=>?_
 refine goI dr0 kB trivial trivial trivial trivial trivial trivial ?_;exact a0a rfl IsPure.out
theorem d2i (h:Int)(o:Bool):a0b C0 210 [i64 h,boo o] (boo (decide (h>0)||((h==0)&&o))):=by
 refine a0c.walk w1 c2y rfl fun F=>?_
 obtain ⟨p,hp⟩:∃ p,decide (h>0)=p:=⟨_,rfl⟩
 obtain ⟨q,hq⟩:∃ p,(h==0)=p:=⟨_,rfl⟩
 rw [hp,hq];cases p<;>cases q<;>cases o
 all_goals
  refine goI dr0 (ff2 hp hq) trivial trivial trivial trivial trivial trivial ?_;exact a0a rfl IsPure.out
theorem c3c (s:ByteArray)(hk:a2W s=true):∃ f,a4K s (mpK a2a) (mpV a2a)=some (some (.agg [.clo (.func f) [] []]))∧(∀ h o,a0b C0 f [i64 h,boo o] (boo (upK s h o)))∧(f=207∨f=208∨f=209∨f=210):=by
 unfold a2W at hk;unfold upK;simp only [a2a,mpK,mpV,a4K];cases h1:a0E s ⟨#[100,111,119,110]⟩
 ·cases h2:a0E s ⟨#[117,112]⟩
  ·cases h3:a0E s ⟨#[104,97,108,102,45,117,112]⟩
   ·cases h4:a0E s ⟨#[104,97,108,102,45,101,118,101,110]⟩
    ·rw [h1,h2,h3,h4] at hk;cases hk
    ·exact ⟨_,by simp,fun h o=>d2i h o,.inr (.inr (.inr rfl))⟩
   ·exact ⟨_,by simp,fun h o=>d1j h o,.inr (.inr (.inl rfl))⟩
  ·exact ⟨_,by simp,fun h o=>d1f h o,.inr (.inl rfl)⟩
 ·exact ⟨_,by simp,fun h o=>d1G h o,.inl rfl⟩
def a1V (x st:Rat):Rat:=x / st - ((x / st).floor:Int)
def a1W:Rat:=⟨1,2,by decide,by decide⟩
def a6u (s:ByteArray)(x st:Rat):Rat :=
 if a3s (a1V x st)=0 then x else (((if upK s (a2H (a1V x st) a1W) (decide ((x / st).floor%2≠0)) then (x / st).floor+1 else (x / st).floor):Int):Rat)*st
def c5y (x st:GF):GF:=c3r (a8C x st) ⟨a1r (a8C x st),1⟩
def c3T:GF:=b0p (mkG 1) (mkG 2)
def b1B (s:ByteArray)(x st:Rat)(y z:GF):GF :=
 if a3s (a1V x st)=0 then y else b7o ⟨if upK s (a2H (a1V x st) a1W) (decide ((x / st).floor%2≠0)) then a5a (a1r (a8C y z)) (mkG 1) else a1r (a8C y z),1⟩ z
theorem b7i {n:GI}{k:Nat}(h:n.wf)(hk:1≤k)(hl:(a0f n.z.natAbs).length≤k):FR (n.z:Rat) ⟨n,1⟩ k:=by
 refine ⟨⟨h,(Rat.num_intCast _).symm,(Rat.den_intCast _).symm⟩,?_⟩;unfold rk;rw [Rat.num_intCast,Rat.den_intCast];exact ⟨hl,Nat.le_trans (a0t (n:=1) (k:=1) (by decide)) hk⟩
theorem a6U {a:Rat}{x:GF}{k:Nat}(h:FR a x k)(hk:1≤k):FR ((a.floor:Int):Rat) ⟨a1r x,1⟩ k:=by
 obtain ⟨h1,h2⟩:=a8j h.is;rw [← h2];exact b7i h1 hk (by rw [h2];exact a3u h.rk)
theorem b0t:FR a1W c3T 1:=by
 refine ⟨?_,⟨a0t (k:=1) (by decide),a0t (k:=1) (by decide)⟩⟩
 have:=b3x (mkG 1) (mkG 2) (a0F _) (by rw [a1t];decide)
 rw [a1t,a1t] at this;have e:Rat.divInt 1 2=a1W:=by kernel_rfl
 rw [e] at this;exact this
theorem c3l {a b:Rat}{x y:GF}{i j:Nat}(hx:FR a x i)(hy:FR b y j)(h0:b≠0)(hk:1≤i+j):FR (a1V a b) (c5y x y) (2*(i+j)+1) :=
 (b1Z (a8f hx hy h0) (a6U (a8f hx hy h0) hk)).mono (by omega)
abbrev a4B:Dr:=[(3,[0,1,2,3,4,5,6],[7]),(6,[0,1,2,3],[4,5]),(7,[0,1,2,3,4,5,6,7,8],[9]),(8,[0,1,2,3,4,5,6,7,8],[9]),(9,[0,1],[2,3]),(10,[0,1,2],[3,4])]
open Go.Proofs Go.RowKit
set_option maxRecDepth 20000
set_option maxHeartbeats 4000000
section
attribute [local irreducible] wpQ
theorem c7K (s:ByteArray)(hk:a2W s=true)(x:Rat)(y:GF)(i:Nat)(hi:1≤i)(hi2:i≤3000)(hx:FR x y i)(l:List UInt8)(hl:l.length≤100000)(hc:chk l=0)(hs:0<a3s (a0d l)):a0b C0 131 [y.D,.agg [str s,str (sb l)]] (b1B s x (a0d l) y (a0v l)).D:=by
 refine a0c.walk w1 c2K rfl fun F=>?_
 have dk:a0b C0 145 [] (.mp (mpK a2a) (mpV a2a)):=a6X;have dp:IsPure (D.mp (mpK a2a) (mpV a2a)):=⟨a0P (n:=20) (by kernel_rfl)⟩
 obtain ⟨fn,hlk,hfn,h4f⟩:=c3c s hk;have h0:=b7O hs;have hz:=a1n hc;have d1:=a4Q hl hc;have d2:=c9y hx hz h0 (by omega);have hq:=a8f hx hz h0;have d3:=b9s hq (by omega);have hn:=a6U hq (by omega);have d4:=b0c (a1r (a8C y (a0v l)));have d5:=b8D hq hn (by omega);have hr:=c3l hx hz h0 (by omega);have d6:=a9U hr.is;have o1:a0b C0 156 [i64 1] (mkG 1).D:=b6p 1 (by decide);have o2:a0b C0 156 [i64 2] (mkG 2).D:=b6p 2 (by decide);have d7:a0b C0 179 [(mkG 1).D,(mkG 2).D] c3T.D:=b8A (mkG 1) (mkG 2) (a0F _) (a0F _) (by rw [a1t];decide) (a1J (n:=1) (Nat.lt_of_le_of_lt (a0t (k:=1) (by decide)) (by decide))) (a1J (n:=2) (Nat.lt_of_le_of_lt (a0t (k:=1) (by decide)) (by decide)));have d8:=b3P hr b0t (by omega);obtain ⟨wn,zn⟩:=a8j hq.is;have fn2:(a1r (a8C y (a0v l))).few:=by
  show (a0f (a1r (a8C y (a0v l))).z.natAbs).length<1000000;rw [zn];have:=a3u hq.rk;omega
 have d9:=a6V (a1r (a8C y (a0v l))) (mkG 2) wn (a0F _) (by rw [a1t];decide) fn2 (a1J (n:=2) (Nat.lt_of_le_of_lt (a0t (k:=1) (by decide)) (by decide)));have hdm:=a9V wn (a0F 2) (by rw [a1t];decide);have hdz:=(b3T (x:=a1r (a8C y (a0v l))) (y:=mkG 2) (by rw [a1t];decide)).2;have d10:=a8y (a5f (a1r (a8C y (a0v l))) (mkG 2)).2 hdm.2;have d11:=b4E (a1r (a8C y (a0v l))) (mkG 1) wn (a0F _) fn2 (a1J (n:=1) (Nat.lt_of_le_of_lt (a0t (k:=1) (by decide)) (by decide)));have d12:=b0c (a5a (a1r (a8C y (a0v l))) (mkG 1));have hrf:b1B s x (a0d l) y (a0v l)=if a3s (a1V x (a0d l))=0 then y else b7o ⟨if upK s (a2H (a1V x (a0d l)) a1W) (decide ((x / a0d l).floor%2≠0)) then a5a (a1r (a8C y (a0v l))) (mkG 1) else a1r (a8C y (a0v l)),1⟩ (a0v l):=rfl
 rw [hrf];unfold c5y at d6 d8;rw [hdz,a1t,zn] at d10;have dm1:=b6L hn hz (by omega);have hn1:FR (((a5a (a1r (a8C y (a0v l))) (mkG 1)).z:Int):Rat) ⟨a5a (a1r (a8C y (a0v l))) (mkG 1),1⟩ (i+601):=by
  refine b7i (a4e _ _) (by omega) ?_;rw [a6w,a1t,zn];have h1:=a4z (x / a0d l).floor 1;have h2:=a3u hq.rk;have h3:(a0f (1:Int).natAbs).length≤1:=a0t (n:=1) (k:=1) (by decide);omega
 have dm2:=b6L hn1 hz (by omega);generalize (x / a0d l).floor=fl at *;generalize a1V x (a0d l)=rq at *;generalize c3T=hF at *;generalize a0v l=z at *;generalize a8C y z=Q at *;generalize a5a (a1r Q) (mkG 1)=N1 at *;generalize a5f (a1r Q) (mkG 2)=DM at *;generalize mkG 1=G1 at *;generalize mkG 2=G2 at *;generalize a1r Q=N0 at *;generalize hW0:(⟨N0,1⟩:GF)=W0 at *;generalize hW1:(⟨N1,1⟩:GF)=W1 at *;generalize c3r Q W0=R at *;obtain ⟨M1,hM1⟩:∃ M,b7o W0 z=M:=⟨_,rfl⟩
 obtain ⟨M2,hM2⟩:∃ M,b7o W1 z=M:=⟨_,rfl⟩
 rw [hM1] at dm1;rw [hM2] at dm2;clear hrf hn1 hq hz hr hn wn zn fn2 hdm hdz hx
 by_cases g:a3s rq=0
 ·have e0:((a3s rq)==0)=true:=by rw [g];rfl
  rw [if_pos g];refine goI a4B e0 d1 d2 d3 d4 d5 d6 ?_;exact a0a rfl IsPure.out
 have e0:((a3s rq)==0)=false:=beq_eq_false_iff_ne.2 g;rw [if_neg g];refine goI a4B e0 d1 d2 d3 d4 d5 d6 ?_;refine a0n.same _ (o1) inferInstance ?_;refine nxI ?_;refine a0n.same _ (o2) inferInstance ?_;refine nxI ?_;refine a0n.same _ (d7) inferInstance ?_;refine nxI ?_;refine dI d8 ?_;refine OkS.seq ?_;refine OkS.regWa w1 700 [0,1,2,3,4,5,6,7,8] [9] 8 6 [7,3,1,0,2,4,6] (by kernel_rfl) (by kernel_rfl) ?_;refine nxI ?_;refine a0n.same _ (o2) inferInstance ?_;refine nxI ?_;refine a0n.same _ (d9) inferInstance ?_;refine nxI ?_;refine nxI ?_;refine OkS.seq ?_;refine OkS.seq ?_;refine OkS.regD w1 800 [0,1,2,3,4,5,6,7,8] [9] (by kernel_rfl) ?_;refine nxI ?_;refine a0n.same _ dk inferInstance ?_;refine b6o (b3K (s:=s) (a:=9) (b:=220) (z:=.agg #[.nilFunc]) (by kernel_rfl) rfl rfl hlk) ?_;dsimp only [okD];have e3:(max (-1) (min 1 (fl%2)) != 0)=decide (fl%2≠0):=by
  have h1:=Int.emod_nonneg fl (b:=2) (by decide);have h2:=Int.emod_lt_of_pos fl (b:=2) (by decide);rcases (by omega:fl%2=0∨fl%2=1) with h|h<;>rw [h]<;>rfl
 have ck:=hfn (a2H rq a1W) (decide (fl%2≠0));obtain ⟨u,hu⟩:∃ u,upK s (a2H rq a1W) (decide (fl%2≠0))=u:=⟨_,rfl⟩
 rw [hu] at ck ⊢;cases u
 ·rw [if_neg (by decide),hW0,hM1]
  refine stI ?_;refine goI a4B e3 d10 trivial trivial trivial trivial trivial ?_;rcases h4f with rfl|rfl|rfl|rfl
  all_goals
   refine goI a4B kB ck d4 dm1 trivial trivial trivial ?_;exact a0a rfl IsPure.out
 ·rw [if_pos rfl,hW1,hM2]
  refine stI ?_;refine goI a4B e3 d10 trivial trivial trivial trivial trivial ?_;rcases h4f with rfl|rfl|rfl|rfl
  all_goals
   refine goI a4B kB ck o1 d11 d12 dm2 trivial ?_;exact a0a rfl IsPure.out
end
abbrev b2m:Dr:=[(7,[0,1,2,3,4,5,6],[7,8])]
open Go.Proofs Go.RowKit
set_option maxRecDepth 20000
set_option maxHeartbeats 4000000
theorem b1O {s:ByteArray}{x st:Rat}{y z:GF}{i j:Nat}(hx:FR x y i)(hz:FR st z j)(h0:st≠0)(hi:1≤i):FR (a6u s x st) (b1B s x st y z) (i+j+1+j):=by
 unfold a6u b1B;split
 ·exact hx.mono (by omega)
 ·have hq:=a8f hx hz h0
  obtain ⟨wn,zn⟩:=a8j hq.is;cases upK s (a2H (a1V x st) a1W) (decide ((x / st).floor%2≠0))
  ·rw [if_neg (by decide),if_neg (by decide)]
   exact (b2L (a6U hq (by omega)) hz).mono (by omega)
  ·rw [if_pos rfl,if_pos rfl]
   refine b2L (i:=i+j+1) ?_ hz;have e:(a5a (a1r (a8C y z)) (mkG 1)).z=(x / st).floor+1:=by rw [a6w,a1t,zn]
   rw [← e];refine b7i (a4e _ _) (by omega) ?_;rw [e];have h1:=a4z (x / st).floor 1;have h2:=a3u hq.rk;have h3:(a0f (1:Int).natAbs).length≤1:=a0t (n:=1) (k:=1) (by decide);omega
theorem b1N {k st:List UInt8}(h:a1D k st=0):a2W (sb k)=true∧chk st=0∧0<a3s (a0d st):=by
 unfold a1D at h;split at h
 ·rename_i g
  split at h
  ·rename_i w;exact absurd h w
  ·split at h
   ·cases h
   ·exact ⟨g,by omega,by omega⟩
 ·cases h
def a7W (a k st:List UInt8):Nat:=if chk a≠0 then chk a else if a1D k st≠0 then a1D k st else a8D (a6u (sb k) (a0d a) (a0d st))
def a7E (a k st:List UInt8):List UInt8:=if chk a≠0 then [] else if a1D k st≠0 then [] else a6F (a6u (sb k) (a0d a) (a0d st))
theorem a9Q {r:Rat}{x:GF}{k:Nat}(h:FR r x k)(hk:k<100000):a0b C0 130 [x.D] (.tup [str (sb (a6F r)),i64 (a8D r:Nat)]):=by
 refine a0c.walk w1 c1I rfl fun F=>?_
 have c1:=c4H h hk;have c2:=c1y h hk;unfold a6F a8D;obtain ⟨b,hb⟩:∃ b,a6f r=b:=⟨_,rfl⟩
 rw [hb] at c1 ⊢;cases b
 all_goals
  refine goI dr0 kB c1 c2 trivial trivial trivial trivial ?_;exact a0a rfl IsPure.out
theorem c9z (a k st:List UInt8)(ha:a.length≤100000)(hs:st.length≤100000):a0b C0 56 [str (sb a),.agg [str (sb k),str (sb st)]] (.tup [str (sb (a7E a k st)),i64 (a7W a k st:Nat)]):=by
 refine a0c.walk w1 c6G rfl fun F=>?_
 have c1:=a4A a ha;have c2:=b6i k st hs;have d1:chk a=0→a0b C0 63 [str (sb a)] (a0v a).D:=fun h=>a4Q ha h
 have hz:=@b1N k st;have hx:=@a1n a;have hx2:=@a1n st;have d2:=fun h1 h2 h3 h4=>c7K (sb k) h1 (a0d a) (a0v a) 600 (by decide) (by decide) h2 st hs h3 h4
 unfold a7E a7W;obtain ⟨K1,hK1⟩:∃ K,chk a=K:=⟨_,rfl⟩
 obtain ⟨K2,hK2⟩:∃ K,a1D k st=K:=⟨_,rfl⟩
 rw [hK1] at c1 d1 hx ⊢;rw [hK2] at c2 hz ⊢;rcases Nat.decEq K1 0 with g1|g1
 ·have e1:=b4k g1
  rw [if_pos (g1:K1≠0),if_pos (g1:K1≠0)];refine goI b2m e1 c1 trivial trivial trivial trivial trivial ?_;exact a0a rfl IsPure.out
 have e1:=b4L g1;rw [if_neg (fun h:K1≠0=>h g1),if_neg (fun h:K1≠0=>h g1)];rcases Nat.decEq K2 0 with g2|g2
 ·have e2:=b4k g2
  rw [if_pos (g2:K2≠0),if_pos (g2:K2≠0)];refine goI b2m (ff2 e1 e2) c1 c2 trivial trivial trivial trivial ?_;exact a0a rfl IsPure.out
 have e2:=b4L g2;rw [if_neg (fun h:K2≠0=>h g2),if_neg (fun h:K2≠0=>h g2)];obtain ⟨z1,z2,z3⟩:=hz g2;have d1:=d1 g1;have d2:=d2 z1 (hx g1) z2 z3;have d3:=a9Q (b1O (s:=sb k) (hx g1) (hx2 z2) (b7O z3) (by decide)) (by decide);generalize b1B (sb k) (a0d a) (a0d st) (a0v a) (a0v st)=A at *;generalize a0v a=B at *;refine goI b2m (ff2 e1 e2) c1 c2 d1 d2 d3 trivial ?_;exact a0a rfl IsPure.out
theorem b0x (n:Nat):a0W (Lib.decDigits n)=true:=by
 obtain ⟨h1,h2,h3⟩:=a1k n;rcases Nat.eq_zero_or_pos n with h|h
 ·have e:Lib.decDigits n=[48]:=by
   have:=a9L 0
   rw [h];exact of_decide_eq_true (this.trans (decide_eq_true rfl))
  rw [e];rfl
 ·obtain ⟨c,l,e,hc⟩:=c0v (Nat.pos_iff_ne_zero.1 h)
  rw [e] at h1 ⊢;unfold a0W c1O;rw [h1];simp [hc]
theorem b6B {n:Nat}{l:List UInt8}(h:n≠dv l):decide (Lib.decDigits n=l)=false:=decide_eq_false fun e=>h (by rw [← e,(a1k n).2.1])
theorem c4t {r:Rat}(h:a6f r=false):chk (txt r)=0:=by
 have hs:a0R (txt r)=Lib.decDigits r.num.natAbs:=by unfold a0R;rw [a5N,(a4r _).2]
 have hd:=a4W r;have hh:=a5J r;unfold a6f at h;simp only [Bool.or_eq_false_iff,decide_eq_false_iff_not] at h;have hb:a3y (txt r)=false:=by
  rw [a4E,hs,b0k,hh,b0x];have e1:(decide (r.num<0)&&decide (Lib.decDigits r.num.natAbs=[48]))=false:=by
   by_cases g:r.num<0
   ·rw [b6B (show r.num.natAbs≠dv [48] by show r.num.natAbs≠0;omega),Bool.and_false]
   ·rw [decide_eq_false g,Bool.false_and]
  rw [e1]
  by_cases g:r.den=1
  ·rw [decide_eq_true g];rfl
  ·rw [hd,if_neg g,b0x,b6B (show r.den≠dv [48] from r.den_nz),b6B (show r.den≠dv [49] from g),decide_eq_false g];rfl
 unfold chk;rw [hb,if_neg (by decide),hs]
 by_cases g:r.den=1
 ·rw [hd,if_pos g,hh,decide_eq_true g,if_neg (by simp;omega),if_neg (fun k=>absurd k.1 (by decide))]
 ·rw [hd,if_neg g,(a1k _).2.1,(a1k _).2.1,if_neg (by omega),if_neg (fun k=>k.2 r.reduced)]
theorem b0y (r:Rat):a0d (txt r)=r:=by
 unfold a0d b4K;rw [a5N,b6D,a5J,a4W]
 by_cases g:r.den=1
 ·rw [decide_eq_true g]
  show mkRat r.num 1=r;rw [← g];exact Rat.mkRat_self r
 ·rw [decide_eq_false g,if_neg g,(a1k _).2.1]
  exact Rat.mkRat_self r
theorem a9E:a0d [49,47,50]=a1W:=by kernel_rfl
theorem b7j:rR a1W=str ⟨#[49,47,50]⟩:=by
 rw [← a9E,a5u (by kernel_rfl)];all_goals rfl
theorem c5P:rR 1=str ⟨#[49]⟩:=by
 have h:a0d [49]=1:=by kernel_rfl
 rw [← h,a5u (by kernel_rfl)];all_goals rfl
def upR (s:ByteArray)(x st:Rat):Bool:=if a0E s ⟨#[117,112]⟩ then !decide (a1V x st=0) else if a0E s ⟨#[104,97,108,102,45,117,112]⟩ then decide (a2H (a1V x st) a1W≥0) else if a0E s ⟨#[104,97,108,102,45,101,118,101,110]⟩ then (decide (a2H (a1V x st) a1W>0)||(decide (a1V x st=a1W)&&decide ((x / st).floor%2≠0))) else false
theorem c4C (a b:Rat):(a2H a b==0)=decide (a=b):=by
 rw [Bool.eq_iff_iff];simp only [beq_iff_eq,decide_eq_true_eq];unfold a2H;split
 ·rename_i h
  exact ⟨fun k=>absurd k (by decide),fun k=>absurd h (by rw [k];grind)⟩
 ·split
  ·rename_i h
   exact ⟨fun k=>absurd k (by decide),fun k=>absurd h (by rw [k];grind)⟩
  ·exact ⟨fun _=>by grind,fun _=>rfl⟩
theorem b5A {s:ByteArray}{x st:Rat}(hk:a2W s=true)(h0:st≠0):a6u s x st=(((if upR s x st then (x / st).floor+1 else (x / st).floor):Int):Rat)*st:=by
 have hsz:a3s (a1V x st)=0↔a1V x st=0:=by
  unfold a3s;constructor
  ·intro h
   exact Rat.num_eq_zero.1 (by omega)
  ·intro h;rw [h];rfl
 unfold a6u
 by_cases g:a1V x st=0
 ·rw [if_pos (hsz.2 g)]
  have hu:upR s x st=false:=by
   unfold upR;rw [g];have e1:decide ((0:Rat)=0)=true:=by decide
   have e2:decide (a2H 0 a1W≥0)=false:=by kernel_rfl
   have e3:decide (a2H 0 a1W>0)=false:=by kernel_rfl
   have e4:decide ((0:Rat)=a1W)=false:=by kernel_rfl
   rw [e1,e2,e3,e4];cases a0E s ⟨#[117,112]⟩<;>cases a0E s ⟨#[104,97,108,102,45,117,112]⟩<;>cases a0E s ⟨#[104,97,108,102,45,101,118,101,110]⟩<;>rfl
  rw [hu,if_neg (by decide)];unfold a1V at g
  have:x / st=((x / st).floor:Int):=by grind
  rw [← this];grind
 ·rw [if_neg (fun h=>g (hsz.1 h))]
  have hu:upR s x st=upK s (a2H (a1V x st) a1W) (decide ((x / st).floor%2≠0)):=by
   unfold upR upK;rw [decide_eq_false g,c4C];unfold a2W at hk
   by_cases a1:a0E s ⟨#[100,111,119,110]⟩=true
   ·have hs:s.toList=(⟨#[100,111,119,110]⟩:ByteArray).toList:=eq_of_beq a1
    have n2:a0E s ⟨#[117,112]⟩=false:=by unfold a0E;rw [hs];kernel_rfl
    have n3:a0E s ⟨#[104,97,108,102,45,117,112]⟩=false:=by unfold a0E;rw [hs];kernel_rfl
    have n4:a0E s ⟨#[104,97,108,102,45,101,118,101,110]⟩=false:=by unfold a0E;rw [hs];kernel_rfl
    rw [a1,n2,n3,n4];rfl
   ·simp only [Bool.not_eq_true] at a1
    rw [a1] at hk ⊢;cases a2:a0E s ⟨#[117,112]⟩
    ·cases a3:a0E s ⟨#[104,97,108,102,45,117,112]⟩
     ·rw [a2,a3] at hk
      cases a4:a0E s ⟨#[104,97,108,102,45,101,118,101,110]⟩
      ·rw [a4] at hk;cases hk
      ·rfl
     ·rfl
    ·rfl
  rw [hu]
theorem b9c (z:Int):decide (((z:Rat)*a1W).den=1) = !decide (z%2≠0):=by
 have e:(z:Rat)*a1W=mkRat z 2:=by
  have:a1W=mkRat 1 2:=by kernel_rfl
  rw [this,Rat.mkRat_eq_div,Rat.mkRat_eq_div]
  grind
 rw [e,Bool.eq_iff_iff];simp only [decide_eq_true_eq,Bool.not_eq_true',decide_eq_false_iff_not,ne_eq,Decidable.not_not];rw [(a6J (x:=z) (d:=2) (by decide)).2];have h1:Nat.gcd z.natAbs 2=if z%2=0 then 2 else 1:=by
  rw [Nat.gcd_comm,Nat.gcd_rec];rcases Nat.mod_two_eq_zero_or_one z.natAbs with h|h
  ·rw [h,if_pos (by omega)];rfl
  ·rw [h,if_neg (by omega)];rfl
 rw [h1];split<;>omega
theorem d1n (r:Rat):a0b C0 136 [rR r] (boo (decide (r=0))):=by
 refine a0c.walk w1 c9m rfl fun F=>?_
 have e1:a0E (sb (txt r)) ⟨#[48]⟩=decide (r=0):=by
  have:=b3U (txt r) [48]
  rw [show sb [48]=⟨#[48]⟩ from rfl,a9L] at this;rw [this];exact decide_eq_decide.2 Rat.num_eq_zero
 generalize decide (r=0)=p at *;refine goI dr0 e1 trivial trivial trivial trivial trivial trivial ?_;exact a0a rfl IsPure.out
theorem d0H (r:Rat)(k:Nat)(h:rk r k)(hk:k<10000):a0b C0 138 [rR r] (rR (r*a1W)):=by
 refine a0c.walk w1 c8A rfl fun F=>?_
 have c:=d0a r a1W k 1 h b0t.rk (by omega);rw [b7j] at c;refine goI dr0 kB c trivial trivial trivial trivial trivial ?_;exact a0a rfl IsPure.out
theorem c9C (k st a:List UInt8)(hk:a2W (sb k)=true)(ha:chk a=0)(hs:chk st=0)(hp:0<a3s (a0d st)):a0b C0 59 [str (sb a),.agg [str (sb k),str (sb st)]] (rR (a6u (sb k) (a0d a) (a0d st))):=by
 refine a0c.walk w1 d1A rfl fun F=>?_
 have h0:a0d st≠0:=fun h=>by rw [h] at hp;exact absurd hp (by decide)
 rw [b5A hk h0];have r1:=a3I ha;have r2:=a3I hs;have r3:=c6K r1 r2 h0;have r4:=(a6U (a8f (a1n ha) (a1n hs) h0) (by decide)).rk;have c1:=c3K _ _ _ _ r1 r2 (by decide) h0;have c2:=c7P _ _ r3 (by decide);rw [← Rat.floor_def] at c2;have r5:=b2Y r3 r4;have c3:=c9W _ _ _ _ r3 r4 (by decide);rw [show a0d a / a0d st - (((a0d a / a0d st).floor:Int):Rat)=a1V (a0d a) (a0d st) from rfl] at c3 r5;have c4:=d1n (a1V (a0d a) (a0d st));have c5:=d1t _ _ _ _ r5 b0t.rk (by decide);have c6:=d0H _ _ r4 (by decide);have c7:=b5v _ (a2t (b6M r4 b0t.rk) (by decide));rw [b9c] at c7;have r6:rk 1 1:=⟨a0t (n:=1) (k:=1) (by decide),a0t (n:=1) (k:=1) (by decide)⟩
 have c8:=d1q _ _ _ _ r4 r6 (by decide);have c9:=d0a _ _ _ _ r4 r2 (by decide);have c10:=d0a _ _ _ _ (b4d r4 r6) r2 (by decide);have e12:=b3U (txt (a1V (a0d a) (a0d st))) [49,47,50];have e13:decide (txt (a1V (a0d a) (a0d st))=[49,47,50])=decide (a1V (a0d a) (a0d st)=a1W):=decide_eq_decide.2 ⟨fun h=>by rw [← b0y (a1V _ _),h];exact a9E,fun h=>by rw [h,← a9E];exact (a2n (by kernel_rfl)).2.2.1⟩;rw [e13,show sb [49,47,50]=⟨#[49,47,50]⟩ from rfl] at e12;rw [a5u ha,a5u hs] at c1;rw [b7j] at c5;rw [c5P] at c8;rw [a5u hs] at c9 c10;have hu:upR (sb k) (a0d a) (a0d st)=if a0E (sb k) ⟨#[117,112]⟩ then !decide (a1V (a0d a) (a0d st)=0) else if a0E (sb k) ⟨#[104,97,108,102,45,117,112]⟩ then decide (a2H (a1V (a0d a) (a0d st)) a1W≥0) else if a0E (sb k) ⟨#[104,97,108,102,45,101,118,101,110]⟩ then (decide (a2H (a1V (a0d a) (a0d st)) a1W>0)||(decide (a1V (a0d a) (a0d st)=a1W)&&decide ((a0d a / a0d st).floor%2≠0))) else false:=rfl
 generalize hUU:upR (sb k) (a0d a) (a0d st)=U at *;have hL:(((if U then (a0d a / a0d st).floor+1 else (a0d a / a0d st).floor:Int)):Rat)=if U then (((a0d a / a0d st).floor:Int):Rat)+1 else (((a0d a / a0d st).floor:Int):Rat):=by
  cases U
  ·rfl
  ·rw [if_pos rfl,if_pos rfl,Rat.intCast_add];rfl
 rw [hL];clear hL r1 r2 r3 r4 r5 r6 ha hs hp hk e13 hUU;generalize (((a0d a / a0d st).floor:Int):Rat)=LO at *;generalize (a0d a / a0d st).floor=LI at *;generalize a0d a / a0d st=Q at *;generalize a1V (a0d a) (a0d st)=R at *;obtain ⟨b2,e2⟩:∃ b,a0E (sb k) ⟨#[117,112]⟩=b:=⟨_,rfl⟩
 obtain ⟨b3,e3⟩:∃ b,a0E (sb k) ⟨#[104,97,108,102,45,117,112]⟩=b:=⟨_,rfl⟩
 obtain ⟨b4,e4⟩:∃ b,a0E (sb k) ⟨#[104,97,108,102,45,101,118,101,110]⟩=b:=⟨_,rfl⟩
 rw [e2,e3,e4] at hu;have hbase:∀ P:Bool→Prop,P U=P U:=fun _=>rfl
 cases b2
 ·cases b3
  ·cases b4
   ·rw [if_neg (by decide),if_neg (by decide),if_neg (by decide)] at hu
    subst hu;refine goI dr0 (ff3 e2 e3 e4) c1 c2 c3 c9 trivial trivial ?_;exact a0a rfl IsPure.out
   ·rw [if_neg (by decide),if_neg (by decide),if_pos rfl] at hu
    obtain ⟨p,hp⟩:∃ p,decide (a2H R a1W>0)=p:=⟨_,rfl⟩
    obtain ⟨q,hq⟩:∃ p,decide (R=a1W)=p:=⟨_,rfl⟩
    obtain ⟨o,ho⟩:∃ p,decide (LI%2≠0)=p:=⟨_,rfl⟩
    rw [hp,hq,ho] at hu;rw [hq] at e12;rw [ho] at c7;subst hu;cases p
    ·cases q
     ·refine goI dr0 (ff5 e2 e3 e4 hp e12) c1 c2 c3 c5 c6 c7 ?_
      refine goI dr0 kB c9 trivial trivial trivial trivial trivial ?_;exact a0a rfl IsPure.out
     ·cases o
      ·refine goI dr0 (ff5 e2 e3 e4 hp e12) c1 c2 c3 c5 c6 c7 ?_
       refine goI dr0 kB c9 trivial trivial trivial trivial trivial ?_;exact a0a rfl IsPure.out
      ·refine goI dr0 (ff5 e2 e3 e4 hp e12) c1 c2 c3 c5 c6 c7 ?_
       refine goI dr0 kB c8 c10 trivial trivial trivial trivial ?_;exact a0a rfl IsPure.out
    ·refine goI dr0 (ff5 e2 e3 e4 hp e12) c1 c2 c3 c5 c6 c7 ?_
     refine goI dr0 kB c8 c10 trivial trivial trivial trivial ?_;exact a0a rfl IsPure.out
  ·rw [if_neg (by decide),if_pos rfl] at hu
   obtain ⟨p,hp⟩:∃ p,decide (a2H R a1W≥0)=p:=⟨_,rfl⟩
   rw [hp] at hu;subst hu;cases U
   ·refine goI dr0 (ff3 e2 e3 hp) c1 c2 c3 c5 c9 trivial ?_
    exact a0a rfl IsPure.out
   ·refine goI dr0 (ff3 e2 e3 hp) c1 c2 c3 c5 c8 c10 ?_
    exact a0a rfl IsPure.out
 ·rw [if_pos rfl] at hu
  obtain ⟨p,hp⟩:∃ p,decide (R=0)=p:=⟨_,rfl⟩
  rw [hp] at hu c4;subst hu;cases p
  ·refine goI dr0 e2 c1 c2 c3 c4 c8 c10 ?_
   exact a0a rfl IsPure.out
  ·refine goI dr0 e2 c1 c2 c3 c4 c9 trivial ?_
   exact a0a rfl IsPure.out
end Go.Ide
