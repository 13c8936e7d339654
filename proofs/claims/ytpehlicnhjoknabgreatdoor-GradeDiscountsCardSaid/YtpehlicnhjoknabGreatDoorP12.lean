/- The layer of own lemmas and contracts, part 12. -/
import Derived.Test.YtpehlicnhjoknabGreatDoorP11
import Derived.Test.YtpehlicnhjoknabGreatDoorP6
import Derived.Test.YtpehlicnhjoknabGreatDoorP10
set_option linter.unusedVariables false
set_option linter.unusedSimpArgs false
namespace Go.Ide
open Go.Proofs Go.RowKit
set_option maxRecDepth 20000
set_option maxHeartbeats 4000000
theorem b4J {H Hf:Hp}{K g T:Nat}{l:List Nat}{N:Nat}(hl:l.length=N)(he:Hp.get H K=some ⟨K,g,T,1,l.map a0q⟩:=by exact rfl)(hn:Hp.get Hf K=none:=by exact rfl):Fz H Hf (.osl K g 1 0 N) (.sl false 1 (l.map a0q)):=by
 subst hl;have key:∀ (j:Nat) (d d':D),(l.map a0q)[0+j]? = some d→(l.map a0q)[j]? = some d'→d=d':=fun j d d' h1 h2=>by
  rw [Nat.zero_add] at h1;rw [h1] at h2;exact Option.some.inj h2
 refine .osl (e:=⟨K,g,T,1,l.map a0q⟩) he hn rfl rfl (by simp) (by simp) (fun j d d' h1 h2=>by rw [key j d d' h1 h2]) fun j d d' q c c' h1 h2 h3 h4=>?_
 rw [key j d d' h1 h2] at h3;rw [h3] at h4;cases h4;exact Fz.refl _
theorem a7I (c : UInt8) (l : List UInt8) : (((c.toNat : Nat) : Int) == 45) = a1T (c :: l) := by
  show _ = (c == 45)
  rw [Bool.eq_iff_iff, beq_iff_eq, beq_iff_eq, ← UInt8.toNat_inj]
  exact ⟨fun h => by have : c.toNat = 45 := by omega
                     exact this, fun h => by rw [h]; rfl⟩
abbrev b5R:Ent:=⟨0,0,154,2,[.agg [boo false,a2h]]⟩
theorem d0D {x:List UInt8}(h:9<x.length):dv x=dv (x.take (x.length - 9))*RB+dv (x.drop (x.length - 9)):=by
 conv=>lhs;rw [← List.take_append_drop (x.length - 9) x,a4v,List.length_drop,show x.length - (x.length - 9)=9 by omega]
theorem c8s (A B t n v:Nat):(A*B+t)*B^n+v=A*B^(n+1)+(v+B^n*t):=by
 rw [Nat.add_mul,Nat.mul_assoc,Nat.pow_succ,Nat.mul_comm B,Nat.mul_comm t];omega
theorem b0q {x x0:List UInt8}{w:List Nat}(h9:9<x.length)(g1:x.all a0A=true)(g2:x.length+w.length*9=x0.length)(g3:Rd w)(g4:dv x0=dv x*RB^w.length+a0h w) :
  (x.take (x.length - 9)).all a0A=true∧(x.take (x.length - 9)).length+(w++[dv (x.drop (x.length - 9))]).length*9=x0.length∧Rd (w++[dv (x.drop (x.length - 9))]) ∧
  dv x0=dv (x.take (x.length - 9))*RB^(w++[dv (x.drop (x.length - 9))]).length+a0h (w++[dv (x.drop (x.length - 9))]):=by
 refine ⟨List.all_eq_true.2 fun a ha=>List.all_eq_true.1 g1 a (List.mem_of_mem_take ha),?_,Rd.append g3 fun a ha=>?_,?_⟩
 ·rw [List.length_take,List.length_append,List.length_singleton];omega
 ·simp only [List.mem_cons,List.not_mem_nil,or_false] at ha
  subst ha
  have:=a5B (x.drop (x.length - 9)) (List.all_eq_true.2 fun a ha=>List.all_eq_true.1 g1 a (List.mem_of_mem_drop ha))
  rwa [List.length_drop,show x.length - (x.length - 9)=9 by omega] at this
 ·rw [g4,d0D h9,a0R rfl,List.length_append,List.length_singleton]
  exact c8s _ _ _ _ _
theorem b9u {x x0:List UInt8}{w:List Nat}(h9:x.length≤9)(g1:x.all a0A=true)(g3:Rd w)(g4:dv x0=dv x*RB^w.length+a0h w):Rd (w++[dv x])∧a0h (w++[dv x])=dv x0:=by
 refine ⟨Rd.append g3 fun a ha=>?_,?_⟩
 ·simp only [List.mem_cons,List.not_mem_nil,or_false] at ha
  subst ha;exact Nat.lt_of_lt_of_le (a5B x g1) (Nat.pow_le_pow_right (by decide) h9)
 ·rw [g4,a0R rfl,Nat.mul_comm,Nat.add_comm]
theorem b7N {w:List Nat}{a:Nat}:List.take w.length (w.map a0q)++[i64 (a:Int)]=(w++[a]).map a0q:=by
 rw [List.take_of_length_le (by rw [List.length_map];exact Nat.le_refl _),List.map_append];rfl
theorem b9F (l:List UInt8)(hd:(a0l l).all a0A=true)(hl:l.length≤1000000):a0b C0 153 [str (sb l)] (rZ (rv l)):=by
 have er:rv l=sg (a1T l) (dv (a0l l)):=rfl;rw [er];refine a0c.walk w1 d1R rfl fun F=>?_
 have hsz:=a0t l;have hdl:(a0l l).length≤l.length:=by
  unfold a0l;split
  ·rw [List.length_drop];omega
  ·exact Nat.le_refl _
 refine sR 0 ?_;refine OkS.seqX (α:=Nat) (fun n=>⟨[(0,str (sb l)),(2,.optr 0 0 2 0 0),(3,boo (a1T l))],[b5R],n⟩) (fun _=>True) ?_ ?_
 ·cases l with
  | nil =>
   have e0:(sb []).size=0:=rfl;have e1:decide (((0:Nat):Int)>0)=false:=rfl;refine OkS.reg w1 100 (by kernel_rfl) ?_;refine gwI (ff2 e0 e1) ?_;refine gwI (ff2 kF e1) ?_;exact ⟨trivial,_,trivial,wkI⟩
  | cons c l =>
   have hpos:(sb (c::l)).size=l.length+1:=hsz;have e0:decide (((sb (c::l)).size:Int)>0)=true:=decide_eq_true (by omega);have e1:((((c::l).getD (Int.toNat 0) 0).toNat:Int)==45)=a1T (c::l):=a7I c l;refine OkS.reg w1 100 (by kernel_rfl) ?_;refine gwI e0 ?_;refine gwI (ff3 kT e0 e1) ?_;exact ⟨trivial,_,trivial,wkI⟩
 rintro n0 -;refine OkS.seqX (α:=Nat) (fun n=>⟨[(0,str (sb (a0l l))),(2,.optr 0 0 2 0 0),(3,boo (a1T l))],[b5R],n⟩) (fun _=>True) ?_ ?_
 ·refine sR 200 ?_
  cases hb:a1T l
  ·have ed:a0l l=l:=by unfold a0l;rw [hb];rfl
   rw [ed];refine ifI ?_;refine skI ?_;exact ⟨rfl,_,trivial,wkI⟩
  ·have ed:a0l l=l.drop 1:=by unfold a0l;rw [hb];rfl
   have hl0:1≤l.length:=by
    cases l with
    | nil=>cases hb
    | cons c l=>rw [List.length_cons];omega
   have ee:(sb l).extract (Int.toNat 1) l.length=sb (a0l l):=by
    rw [a2e,List.take_of_length_le (Nat.le_refl _),ed];rfl
   refine ifI ?_;refine OkS.reg w1 300 (by kernel_rfl) ?_;refine gwI (ff2 hsz kN) ?_;rw [ee];exact ⟨trivial,_,trivial,wkI⟩
 rintro n1 -;generalize a1T l=neg at *;generalize a0l l=x0 at *;clear er hsz;have hx0:x0.length≤1000000:=Nat.le_trans hdl hl;clear hdl hl l;refine sR 400 ?_;refine OkS.seq ?_;refine OkS.block ?_;refine OkS.loop (α:=Bool × List UInt8 × List Nat × Nat × Nat) (fun p=>match p with
  | (false,x,_,_,n)=>⟨[(0,str (sb x)),(2,.optr 0 0 2 0 0),(3,boo neg),(4,a2h)],[b5R],n⟩
  | (true,x,w,g,n)=>⟨[(0,str (sb x)),(2,.optr 0 0 2 0 0),(3,boo neg),(4,.osl 608 g 1 0 w.length)],[⟨608,g,3,1,w.map a0q⟩,b5R],n⟩) (fun p=>p.2.1.length)
  (fun p=>p.2.1.all a0A=true∧p.2.1.length+p.2.2.1.length*9=x0.length∧Rd p.2.2.1∧dv x0=dv p.2.1*RB^p.2.2.1.length+a0h p.2.2.1∧(p.1=false→p.2.2.1=[]))
  (false,x0,[],0,_) ⟨hd,rfl,(fun a ha=>by cases ha),by simp [a0h],fun _=>rfl⟩ wkI ?_
 rintro ⟨t,x,w,g,n2⟩ F ⟨g1,g2,g3,g4,g5⟩;dsimp only at g1 g2 g3 g4 g5;have hsz:=a0t x
 by_cases h9:9<x.length
 ·have ht:decide ((x.length:Int)>9)=true:=decide_eq_true (by omega)
  have cv:=b0U (x.drop (x.length - 9)) (List.all_eq_true.2 fun a ha=>List.all_eq_true.1 g1 a (List.mem_of_mem_drop ha)) (by rw [List.length_drop];omega);have wk:IntKind.i64.wrap ((x.length:Int) - 9)=((x.length - 9:Nat):Int):=by rw [wI (by omega) (by omega)];omega
  have wr:IntKind.i64.wrap (((sb x).size:Int) - 9)=((x.length - 9:Nat):Int):=by rw [hsz,wk]
  have e1:(sb x).extract (x.length - 9) x.length=sb (x.drop (x.length - 9)):=by rw [a2e,List.take_of_length_le (Nat.le_refl _)]
  have e2:(sb x).extract 0 (x.length - 9)=sb (x.take (x.length - 9)):=by rw [a2e,List.drop_zero]
  cases t
  ·dsimp only
   obtain rfl:=g5 rfl;refine OkS.seq ?_;refine sZ 500 ?_;refine nwI (ff2 hsz ht) ?_;refine ifI ?_;refine skI ?_;refine OkS.block ?_;refine sZ 600 ?_;refine gwI (ff5 hsz wk wr kN e1) ?_;refine a0j.same _ cv inferInstance ?_;refine stI ?_;have J:=b0q h9 g1 g2 g3 g4;rw [List.nil_append] at J;refine OkS.reg w1 700 (by kernel_rfl) ?_;refine gwI (ff4 hsz wk wr kN) ?_;refine gwI e2 ?_;exact ⟨(true,x.take (x.length - 9),[dv (x.drop (x.length - 9))],n2+11,_),⟨J.1,J.2.1,J.2.2.1,J.2.2.2,fun h=>by cases h⟩,by dsimp only;rw [List.length_take];omega,wkI⟩
  ·dsimp only
   clear g5;have J:=b0q h9 g1 g2 g3 g4;have ew:(w.map a0q).length=w.length:=List.length_map _;have el:w.length+1=(w++[dv (x.drop (x.length - 9))]).length:=by rw [List.length_append];rfl
   refine OkS.seq ?_;refine sZ 500 ?_;refine nwI (ff2 hsz ht) ?_;refine ifI ?_;refine skI ?_;refine OkS.block ?_;refine sZ 600 ?_;refine gwI (ff5 hsz wk wr kN e1) ?_;refine a0j.same _ cv inferInstance ?_;refine stI ?_;rw [b7N,el];refine OkS.reg w1 700 (by kernel_rfl) ?_;refine gwI (ff4 hsz wk wr kN) ?_;refine gwI e2 ?_;exact ⟨(true,x.take (x.length - 9),w++[dv (x.drop (x.length - 9))],n2+11,_),⟨J.1,J.2.1,J.2.2.1,J.2.2.2,fun h=>by cases h⟩,by dsimp only;rw [List.length_take];omega,wkI⟩
 ·have ht:decide ((x.length:Int)>9)=false:=decide_eq_false (by omega)
  have cv:=b0U x g1 (by omega);obtain ⟨r1,r2⟩:=b9u (by omega) g1 g3 g4;have cs:=b4G neg (w++[dv x]) r1 (by rw [List.length_append,List.length_singleton];omega);rw [r2] at cs;cases t
  ·dsimp only
   obtain rfl:=g5 rfl;refine OkS.seq ?_;refine sZ 500 ?_;refine nwI (ff2 hsz ht) ?_;refine ifI ?_;refine exI ?_;refine sR 800 ?_;refine a0j.same _ cv inferInstance ?_;refine stI ?_;refine a0j.own _ (a0z.give [b5R] cs (.drop (.keep .nil)) ⟨.refl _,b4J rfl,trivial⟩ inferInstance) ?_;rintro d H' n' ⟨rfl,rfl,rfl⟩;refine stI ?_;refine rtI ?_;exact a0a rfl IsPure.out
  ·dsimp only
   clear g5;have ew:(w.map a0q).length=w.length:=List.length_map _;have el:w.length+1=(w++[dv x]).length:=by rw [List.length_append];rfl
   refine OkS.seq ?_;refine sZ 500 ?_;refine nwI (ff2 hsz ht) ?_;refine ifI ?_;refine exI ?_;refine sR 800 ?_;refine a0j.same _ cv inferInstance ?_;refine stI ?_;rw [b7N,el];refine a0j.own _ (a0z.give [b5R] cs (.drop (.keep .nil)) ⟨.refl _,b4J rfl,trivial⟩ inferInstance) ?_;rintro d H' n' ⟨rfl,rfl,rfl⟩;refine stI ?_;refine rtI ?_;exact a0a rfl IsPure.out
def isO (o:Option D):Bool:=match o with
 | some (.agg [.prim (.bool false),.sl false 1 [.prim (.int .i64 1)]])=>true
 | _=>false
theorem c1e {o:Option D}(h:isO o=true):o=some (rZ 1):=by
 have h1:a0o 1=[1]:=a3g (by decide) (by decide);unfold isO at h;split at h
 ·show _=some (D.agg [boo (decide ((1:Int)<0)),rL (a0o 1)])
  rw [h1];rfl
 ·cases h
theorem b6u:isO ((evF X1 1000 60).1 150 [i64 1])=true:=by kernel_rfl
theorem c0C:a0b C0 150 [i64 1] (rZ 1):=a0b.ev a4n 1000 60 (c1e b6u)
def d0o (l:List UInt8):Int:=rv (a2l l)
def d0u (l:List UInt8):Int:=if a4k l then rv (a1z l) else 1
instance  (x y:Int):IsPure (.tup [rZ x,rZ y]):=⟨.tup fun d hd=>by
 simp only [List.mem_cons,List.not_mem_nil,or_false] at hd;rcases hd with rfl|rfl
 ·exact IsPure.out
 ·exact IsPure.out⟩
theorem a5E (l:List UInt8)(hn:(a0l (a2l l)).all a0A=true)(hd:(a0l (a1z l)).all a0A=true)(hl:l.length≤1000000):a0b C0 85 [str (sb l)] (.tup [rZ (d0o l),rZ (d0u l)]):=by
 refine a0c.walk w1 d3r rfl fun F=>?_
 have hsz:=a0t l;have cs:=b0B l (by omega);have hsl:=a2b l;have c1:=b9F (a2l l) hn (by unfold a2l;rw [List.length_take];omega);have c2:=b9F (a1z l) hd (by unfold a1z;rw [List.length_drop];omega);have cw:=c0C;unfold d0o d0u;refine sR 0 ?_;refine sR 100 ?_;refine sR 200 ?_;refine cI cs ?_;cases hh:a4k l
 ·have he:a0d l=l.length:=by
   unfold a4k at hh
   have:=of_decide_eq_false hh
   omega
  have e0:(((a0d l:Nat):Int)==(l.length:Int))=true:=beq_iff_eq.2 (by omega);have en:a2l l=l:=by unfold a2l;rw [he,List.take_of_length_le (Nat.le_refl _)]
  rw [en] at c1 ⊢;refine OkS.seq ?_;refine sZ 300 ?_;refine nwI (ff2 hsz e0) ?_;refine ifI ?_;refine sR 400 ?_;refine cI c1 ?_;refine a0j.same _ cw inferInstance ?_;refine stI ?_;refine rtI ?_;exact a0a rfl IsPure.out
 ·have he:a0d l<l.length:=of_decide_eq_true hh
  have e0:(((a0d l:Nat):Int)==(l.length:Int))=false:=beq_eq_false_iff_ne.2 (by omega);have x1:(sb l).extract 0 (a0d l)=sb (a2l l):=by rw [a2e,List.drop_zero];rfl
  have x2:(sb l).extract (a0d l+1) l.length=sb (a1z l):=by rw [a2e,List.take_of_length_le (Nat.le_refl _)];rfl
  have wk:IntKind.i64.wrap (((a0d l:Nat):Int)+1)=((a0d l+1:Nat):Int):=wI (by omega) (by omega);refine OkS.seq ?_;refine sZ 300 ?_;refine nwI (ff2 hsz e0) ?_;refine ifI ?_;refine skI ?_;refine OkS.seq ?_;refine OkS.regD w1 500 [0,1,2,3,4,5,6,7] [8,9,10] (by kernel_rfl) ?_;refine gwI (ff5 hsz wk kN x1 x2) ?_;refine a0n.same _ c1 inferInstance ?_;refine gwI (ff5 hsz wk kN x1 x2) ?_;refine a0j.same _ c2 inferInstance ?_;refine stI ?_;refine rtI ?_;exact a0a rfl IsPure.out
def txt (r:Rat):List UInt8:=if r.den=1 then Lib.itoa r.num else Lib.itoa r.num++47::Lib.decDigits r.den
def qZ (x y:Int):Rat:=mkRat (if y<0 then -x else x) y.natAbs
theorem b1h {x:Int}{d:Nat}(hd:d≠0):(mkRat x d).num=sg (decide (x<0)) (x.natAbs / Nat.gcd x.natAbs d)∧(mkRat x d).den=d / Nat.gcd x.natAbs d:=by
 rw [mkRat,dif_neg hd,Rat.normalize_eq];refine ⟨?_,rfl⟩;dsimp only;have hg:0<Nat.gcd x.natAbs d:=Nat.gcd_pos_of_pos_right _ (Nat.pos_of_ne_zero hd);obtain ⟨p,hp⟩:=Nat.gcd_dvd_left x.natAbs d;have e1:x.natAbs / Nat.gcd x.natAbs d=p:=by
  refine Nat.div_eq_of_eq_mul_right hg hp
 have e2:x=(Nat.gcd x.natAbs d:Int)*sg (decide (x<0)) p:=by
  have h0:(x.natAbs:Int)=(Nat.gcd x.natAbs d:Int)*(p:Int):=by rw [← Int.natCast_mul,← hp]
  unfold sg
  by_cases hx:x<0
  ·rw [decide_eq_true hx,if_pos rfl,Int.mul_neg,← h0];omega
  ·rw [decide_eq_false hx,if_neg (by decide),← h0];omega
 rw [e1]
 conv=>lhs;arg 1;rw [e2]
 rw [Int.mul_ediv_cancel_left _ (by omega)]
theorem b5v (q:Nat):((((((a0o q).map a0q).length:Nat):Int)==1)=true∧∃ a,(a0o q)[0]? = some a∧(((a:Nat):Int)==1)=decide (q=1))∨((((((a0o q).map a0q).length:Nat):Int)==1)=false∧q≠1):=by
 rw [List.length_map]
 by_cases h:(a0o q).length=1
 ·refine .inl ⟨beq_iff_eq.2 (by omega),?_⟩
  obtain ⟨a,ha⟩:=a3l (l:=a0o q) (i:=0) (by omega);refine ⟨a,ha,?_⟩;have e:a0o q=[a]:=by
   obtain ⟨b,hb⟩:=List.length_eq_one_iff.1 h;rw [hb] at ha ⊢;cases ha;rfl
  have e2:q=a:=by rw [← a0r q,e];simp [a0h]
  rw [e2];rw [Bool.eq_iff_iff,beq_iff_eq,decide_eq_true_iff];omega
 ·refine .inr ⟨beq_eq_false_iff_ne.2 (by omega),fun hq=>h ?_⟩
  rw [hq,a3g (by decide) (by decide)];rfl
theorem a6I (x y:Int)(hy0:y≠0)(hx:b2g x)(hy:b2g y):a0b C0 86 [rZ x,rZ y] (str (sb (txt (qZ x y)))):=by
 refine a0c.walk w1 d3j rfl fun F=>?_
 unfold qZ;refine sR 0 ?_;refine OkS.seqX (α:=Nat) (fun n=>⟨[(2,.optr 0 0 2 0 0),(3,.optr 1 1 2 0 0)],[⟨1,1,154,2,[.agg [boo false,rD y.natAbs]]⟩,⟨0,0,154,2,[rZ (if y<0 then -x else x)]⟩],n⟩) (fun _=>True) ?_ ?_
 ·by_cases h:y<0
  ·have cx:=b9l x hx
   have cy:=b9l y hy;have e1:rZ (-y)=.agg [boo false,rD y.natAbs]:=by
    show D.agg [boo (decide (-y<0)),rD (-y).natAbs]=_;rw [decide_eq_false (by omega),Int.natAbs_neg]
   rw [e1] at cy;rw [if_pos h];refine sZ 100 ?_;refine nwI (decide_eq_true h) ?_;refine ifI ?_;refine OkS.regD w1 200 [0,1,2] [3,4,5] (by kernel_rfl) ?_;refine gwI kN ?_;refine a0n.same _ cx inferInstance ?_;refine gwI kN ?_;refine a0j.same _ cy inferInstance ?_;refine stI ?_;exact ⟨trivial,_,trivial,wkI⟩
  ·have e1:rZ y=.agg [boo false,rD y.natAbs]:=by
    show D.agg [boo (decide (y<0)),rD y.natAbs]=_;rw [decide_eq_false h]
   rw [if_neg h];refine sZ 100 ?_;refine nwI (decide_eq_false h) ?_;refine ifI ?_;refine skI ?_;refine ⟨rfl,5,trivial,?_⟩;rw [← e1];exact wkI
 rintro n0 -;obtain ⟨z,hz⟩:∃ z,z=(if y<0 then -x else x):=⟨_,rfl⟩
 have hza:z.natAbs=x.natAbs:=by rw [hz];split<;>omega
 obtain ⟨d,hd⟩:∃ d,d=y.natAbs:=⟨_,rfl⟩
 have hd0:d≠0:=by omega
 unfold b2g at hx hy;rw [← hza] at hx;rw [← hd] at hy;rw [← hz,← hd];clear hz hza hd hy0;clear x y;have cg:=b5g z.natAbs d hx hy;obtain ⟨qn,qd⟩:=b1h (x:=z) hd0;have hg:0<Nat.gcd z.natAbs d:=Nat.gcd_pos_of_pos_right _ (Nat.pos_of_ne_zero hd0);have hgl:(a0o (Nat.gcd z.natAbs d)).length<1000000:=Nat.lt_of_le_of_lt (a0u _ _ (Nat.gcd_le_right _ (Nat.pos_of_ne_zero hd0))) hy;have c4:=d2u z.natAbs (Nat.gcd z.natAbs d) (by omega) hx hgl;have c5:a0b C0 155 [rD d,rD (Nat.gcd z.natAbs d)] (.tup [.sl false 1 ((a0o (d / Nat.gcd z.natAbs d)).map a0q),rD (d%Nat.gcd z.natAbs d)]):=d2u d (Nat.gcd z.natAbs d) (by omega) hy hgl;have hpl:(a0o (z.natAbs / Nat.gcd z.natAbs d)).length<1000000:=Nat.lt_of_le_of_lt (a0u _ _ (Nat.div_le_self _ _)) hx;have hql:(a0o (d / Nat.gcd z.natAbs d)).length<1000000:=Nat.lt_of_le_of_lt (a0u _ _ (Nat.div_le_self _ _)) hy;have etx:txt (mkRat z d)=if d / Nat.gcd z.natAbs d=1 then Lib.itoa (sg (decide (z<0)) (z.natAbs / Nat.gcd z.natAbs d)) else Lib.itoa (sg (decide (z<0)) (z.natAbs / Nat.gcd z.natAbs d))++47::Lib.decDigits (d / Nat.gcd z.natAbs d):=by
  unfold txt;rw [qn,qd]
 rw [etx];clear etx qn qd hg hgl;generalize z.natAbs / Nat.gcd z.natAbs d=p at *;generalize d / Nat.gcd z.natAbs d=q at *;generalize z.natAbs%Nat.gcd z.natAbs d=r1 at *;generalize d%Nat.gcd z.natAbs d=r2 at *;generalize Nat.gcd z.natAbs d=gg at *;have c6:=a3t (decide (z<0)) p (by omega);have hab:(sg (decide (z<0)) p).natAbs=p:=by unfold sg;split<;>omega
 have c7:=b7Q (sg (decide (z<0)) p) (by unfold b2g;rw [hab];exact hpl);have c8:=a3t false q (by omega);have c9:=b7Q (sg false q) (by unfold b2g;show (a0o q).length<1000000;exact hql);have e9:Lib.itoa (sg false q)=Lib.decDigits q:=by rw [b9t false q (by simp)];rfl
 rw [e9] at c9;have l1:=a8J (a0B p);rw [a0r] at l1;have l2:=a8J (a0B q);rw [a0r] at l2;have l3:(Lib.itoa (sg (decide (z<0)) p)).length≤(Lib.decDigits p).length+1:=by
  unfold Lib.itoa;split
  ·rw [hab,List.length_cons];exact Nat.le_refl _
  ·rw [show (sg (decide (z<0)) p).toNat=p by omega];omega
 generalize sg (decide (z<0)) p=pz at *;have s1:=a0t (Lib.itoa pz);have s2:=a0t (Lib.decDigits q);have s3:(⟨#[47]⟩:ByteArray).size=1:=rfl;have s4:(sb (Lib.itoa pz)++(⟨#[47]⟩:ByteArray)).size=(sb (Lib.itoa pz)).size+(⟨#[47]⟩:ByteArray).size:=ByteArray.size_append;generalize Lib.itoa pz=t1 at *;generalize Lib.decDigits q=t2 at *;refine sR 300 ?_;refine cI cg ?_;refine sR 400 ?_;refine cI c4 ?_;refine sR 500 ?_;refine cI c5 ?_;refine sR 600 ?_;refine cI c6 ?_;refine cI c7 ?_;have ht:=b5v q;rcases ht with ⟨h1,a,ha,h2⟩|⟨h1,h2⟩
 ·have ha':=a6Y ha
  refine OkS.seq ?_;refine sZ 700 ?_;refine gwI h1 ?_;refine ixI kT ha' ?_;refine gwI (ff2 h1 h2) ?_
  by_cases hq:q=1
  ·rw [decide_eq_true hq,if_pos hq]
   refine ifI ?_;refine sR 800 ?_;refine rtI ?_;exact a0a rfl IsPure.out
  ·rw [decide_eq_false hq,if_neg hq]
   refine ifI ?_;refine skI ?_;refine sR 900 ?_;refine a0j.same _ c8 inferInstance ?_;refine stI ?_;refine a0j.same _ c9 inferInstance ?_;refine stI ?_;refine rtI ?_;refine a0a ?_ IsPure.out;show str ((⟨t1.toArray⟩++⟨([47]:List UInt8).toArray⟩:ByteArray)++⟨t2.toArray⟩)=_;rw [a4s,a4s,List.append_assoc];rfl
 ·rw [if_neg h2]
  refine OkS.seq ?_;refine sZ 700 ?_;refine nwI h1 ?_;refine gwI kF ?_;refine ifI ?_;refine skI ?_;refine sR 900 ?_;refine a0j.same _ c8 inferInstance ?_;refine stI ?_;refine a0j.same _ c9 inferInstance ?_;refine stI ?_;refine rtI ?_;refine a0a ?_ IsPure.out;show str ((⟨t1.toArray⟩++⟨([47]:List UInt8).toArray⟩:ByteArray)++⟨t2.toArray⟩)=_;rw [a4s,a4s,List.append_assoc];rfl
set_option maxHeartbeats 2000000
theorem b0w (k:Nat)(h:k<10):(UInt8.ofNat (48+k)).toNat=48+k:=by
 rw [UInt8.toNat_ofNat'];omega
theorem a1P:∀ n:Nat,(Lib.decDigits n).all a0A=true∧dv (Lib.decDigits n)=n∧(Lib.decDigits n)≠[]:=fun n=>by
 induction n using Nat.strongRecOn with
 | _ n ih =>
  have one:∀ k,k<10→a0A (UInt8.ofNat (48+k))=true:=fun k hk=>by
   unfold a0A;rw [b0w k hk,Bool.and_eq_true];exact ⟨Nat.ble_eq_true_of_le (by omega),Nat.ble_eq_true_of_le (by omega)⟩
  have vone:∀ k,k<10→dv [UInt8.ofNat (48+k)]=k:=fun k hk=>by
   show 0*10+((UInt8.ofNat (48+k)).toNat - 48)=k;rw [b0w k hk];omega
  rw [Lib.decDigits];split
  ·rename_i h
   exact ⟨by rw [List.all_cons,one n h];rfl,vone n h,by simp⟩
  ·rename_i h
   obtain ⟨h1,h2,h3⟩:=ih (n / 10) (by omega);refine ⟨by rw [List.all_append,h1,List.all_cons,one _ (Nat.mod_lt _ (by decide))];rfl,?_,by simp⟩;rw [a4v,h2,vone _ (Nat.mod_lt _ (by decide)),List.length_singleton];omega
theorem d1v {c:UInt8}(h:a0A c=true):c≠47∧c≠45:=by
 obtain ⟨h1,h2⟩:=a2v h;exact ⟨fun hh=>by subst hh;simp at h1,fun hh=>by subst hh;simp at h1⟩
theorem a6a (z:Int):a1T (Lib.itoa z)=decide (z<0)∧a0l (Lib.itoa z)=Lib.decDigits z.natAbs:=by
 unfold Lib.itoa
 by_cases h:z<0
 ·rw [if_pos h,decide_eq_true h]
  exact ⟨rfl,rfl⟩
 ·rw [if_neg h,decide_eq_false h,show z.toNat=z.natAbs by omega]
  have h1:=a6B (a1P z.natAbs).1;exact ⟨h1,a1F (a1P z.natAbs).1⟩
theorem c6u (z:Int):rv (Lib.itoa z)=z:=by
 unfold rv;rw [(a6a z).1,(a6a z).2,(a1P z.natAbs).2.1]
 by_cases h:z<0
 ·rw [decide_eq_true h,if_pos rfl];omega
 ·rw [decide_eq_false h,if_neg (by decide)];omega
theorem a7l (z:Int):∀ c∈Lib.itoa z,(c != 47)=true:=fun c hc=>by
 have hd:∀ n,∀ c∈Lib.decDigits n,(c != 47)=true:=fun n c h=>by
  have:=(d1v (List.all_eq_true.1 (a1P n).1 c h)).1
  simpa using this
 unfold Lib.itoa at hc;split at hc
 ·rcases List.mem_cons.1 hc with rfl|h
  ·rfl
  ·exact hd _ c h
 ·exact hd _ c hc
theorem a3W {p:UInt8→Bool}:∀ {l:List UInt8} (m:List UInt8),(∀ c∈l,p c=true)→(l++m).takeWhile p=l++m.takeWhile p
 | [],_,_=>rfl
 | a::l,m,h=>by
  rw [List.cons_append,List.takeWhile_cons,if_pos (h a List.mem_cons_self),a3W m fun c hc=>h c (List.mem_cons_of_mem _ hc)];rfl
theorem a4q (r:Rat):a0d (txt r)=(Lib.itoa r.num).length:=by
 unfold a0d txt;split
 ·have:=a3W (p:=(· != 47)) [] (a7l r.num)
  rw [List.append_nil] at this;rw [this];simp
 ·rw [a3W (p:=(· != 47)) _ (a7l r.num)]
  simp
theorem b3X (r:Rat):a2l (txt r)=Lib.itoa r.num:=by
 unfold a2l;rw [a4q];unfold txt;split
 ·exact List.take_of_length_le (Nat.le_refl _)
 ·exact List.take_left' rfl
theorem b1f (r:Rat):a1z (txt r)=if r.den=1 then [] else Lib.decDigits r.den:=by
 unfold a1z;rw [a4q];unfold txt;split
 ·exact List.drop_of_length_le (Nat.le_succ _)
 ·rw [List.drop_append]
  rw [List.drop_of_length_le (Nat.le_succ _),Nat.add_sub_cancel_left];rfl
theorem b3L (r:Rat):a4k (txt r) = !decide (r.den=1):=by
 unfold a4k;rw [a4q];unfold txt
 by_cases h:r.den=1
 ·rw [if_pos h,decide_eq_true h,decide_eq_false (by omega)];rfl
 ·rw [if_neg h,decide_eq_false h,List.length_append,List.length_cons,decide_eq_true (by omega)];rfl
theorem a6f (r:Rat):d0o (txt r)=r.num:=by unfold d0o;rw [b3X,c6u]
theorem a7E (r:Rat):d0u (txt r)=r.den:=by
 unfold d0u;rw [b3L,b1f]
 by_cases h:r.den=1
 ·rw [decide_eq_true h,h];rfl
 ·rw [decide_eq_false h,if_neg h,if_pos (show (!false)=true from rfl),a9K (a1P _).1,(a1P _).2.1]
theorem a4T (r:Rat):(a0l (a2l (txt r))).all a0A=true:=by rw [b3X,(a6a _).2];exact (a1P _).1
theorem a5h (r:Rat):(a0l (a1z (txt r))).all a0A=true:=by
 rw [b1f];split
 ·rfl
 ·rw [a1F (a1P _).1];exact (a1P _).1
theorem b8S (z:Int):Lib.itoa z≠[]:=by
 unfold Lib.itoa;split
 ·simp
 ·exact (a1P _).2.2
theorem c3g (r:Rat):txt r≠[]:=by
 unfold txt;split
 ·exact b8S _
 ·simp
theorem b3z (r:Rat):a1T (txt r)=decide (r.num<0):=by
 rw [← (a6a r.num).1];unfold txt;split
 ·rfl
 ·have:=b8S r.num
  cases h:Lib.itoa r.num with
  | nil=>exact absurd h this
  | cons c l=>rfl
theorem b1c (r:Rat):decide (txt r=[48])=decide (r.num=0):=by
 refine decide_eq_decide.2 ⟨fun h=>?_,fun h=>?_⟩
 ·have h1:=a6f r
  rw [h] at h1;rw [← h1];decide
 ·have:r.den=1:=by
   have:=r.reduced
   rw [h] at this;simpa using this
  unfold txt;rw [if_pos this,h];show Lib.decDigits 0=[48];rw [Lib.decDigits,dif_pos (by decide)];rfl
abbrev rR (r:Rat):D:=str (sb (txt r))
def b8x (r:Rat):Prop:=(txt r).length≤1000000
theorem b8P (r:Rat)(hl:b8x r):a0b C0 78 [rR r] (i64 (a3S r)):=by
 refine a0c.walk w1 d2K rfl fun F=>?_
 have hsz:=a0t (txt r);unfold b8x at hl;have ez:=a4O (txt r) [48];rw [b1c] at ez;have en:=b3z r;refine sR 0 ?_;refine OkS.seq ?_;refine OkS.seq ?_;have ez2:a1p (sb (txt r)) ⟨#[48]⟩=decide (r.num=0):=ez;have hne:=c3g r;refine OkS.reg w1 100 (by kernel_rfl) ?_;refine nwI ez2 ?_
 by_cases h0:r.num=0
 ·rw [decide_eq_true h0]
  refine ifI ?_;refine sR 200 ?_;refine rtI ?_;exact a0a (by unfold a3S;rw [h0];rfl) IsPure.out
 ·rw [decide_eq_false h0]
  have hpos:0<(txt r).length:=List.length_pos_iff.2 hne;have e0:decide (((sb (txt r)).size:Int)>0)=true:=decide_eq_true (by omega);have e1:((((txt r).getD (Int.toNat 0) 0).toNat:Int)==45)=decide (r.num<0):=by
   rw [← en];cases ht:txt r with
   | nil=>exact absurd ht hne
   | cons c l=>exact a7I c l
  refine ifI ?_;refine skI ?_;refine OkS.seq ?_;refine sZ 300 ?_;refine gwI e0 ?_;refine gwI (ff3 kT e0 e1) ?_
  by_cases hn:r.num<0
  ·rw [decide_eq_true hn]
   refine ifI ?_;refine sR 400 ?_;refine rtI ?_;exact a0a (by unfold a3S;congr 3;omega) IsPure.out
  ·rw [decide_eq_false hn]
   refine ifI ?_;refine skI ?_;refine sR 500 ?_;refine rtI ?_;exact a0a (by unfold a3S;congr 3;omega) IsPure.out
theorem c6X (r:Rat)(hl:b8x r):a0b C0 145 [rR r] (boo (decide (r.den=1))):=by
 refine a0c.walk w1 d0M rfl fun F=>?_
 have hsz:=a0t (txt r);unfold b8x at hl;have cs:=b0B (txt r) (by omega);have hh:=b3L r;have hle:=a2b (txt r);unfold a4k at hh;have et:(((a0d (txt r):Nat):Int)==((txt r).length:Int))=decide (r.den=1):=by
  have:decide (r.den=1) = !decide (a0d (txt r)<(txt r).length):=by rw [hh];simp
  rw [this];rw [Bool.eq_iff_iff,beq_iff_eq,Bool.not_eq_true',decide_eq_false_iff_not];omega
 refine sR 0 ?_;refine sR 100 ?_;refine cI cs ?_;rw [hsz,et];refine rtI ?_;exact a0a rfl IsPure.out
theorem c4W (z:Int):txt (z:Rat)=Lib.itoa z:=by
 unfold txt;rw [if_pos (Rat.den_intCast z),Rat.num_intCast]
theorem b0z {r:Rat}(h:r.num<0):(txt r).drop 1=txt (-r)∧(txt (-r)).length+1=(txt r).length:=by
 have e:Lib.itoa r.num=45::Lib.itoa (-r.num):=by
  unfold Lib.itoa;rw [if_pos h,if_neg (by omega),show (-r.num).toNat=r.num.natAbs by omega]
 have e2:txt r=45::txt (-r):=by
  unfold txt;rw [Rat.neg_den,Rat.neg_num,e];split<;>rfl
 rw [e2];exact ⟨rfl,rfl⟩
theorem c1w {r:Rat}(h:0<r.num):txt (-r)=45::txt r:=by
 obtain ⟨h1,h2⟩:=b0z (r:=-r) (by rw [Rat.neg_num];omega);rw [Rat.neg_neg] at h1;have h3:=b3z (-r);rw [decide_eq_true (by rw [Rat.neg_num];omega)] at h3;cases ht:txt (-r) with
 | nil=>rw [ht] at h3;cases h3
 | cons c l =>
  rw [ht] at h1 h3
  have:c=45:=by simpa [a1T] using h3
  rw [this,← h1];rfl
theorem c5F (r:Rat):decide (a3S r<0)=decide (r.num<0):=decide_eq_decide.2 (by unfold a3S;omega)
theorem c6J (r:Rat):(a3S r==0)=decide (r.num=0):=by
 rw [Bool.eq_iff_iff,beq_iff_eq,decide_eq_true_iff];unfold a3S;omega
theorem c5s (r:Rat)(hl:b8x r):a0b C0 79 [rR r] (rR (-r)):=by
 refine a0c.walk w1 d4q rfl fun F=>?_
 have hsz:=a0t (txt r);have cs:=b8P r hl;unfold b8x at hl;have e1:=c5F r;have e2:=c6J r;refine sR 0 ?_;refine OkS.seq ?_;refine sR 100 ?_;refine cI cs ?_;rw [e1]
 by_cases h:r.num<0
 ·obtain ⟨t1,t2⟩:=b0z h
  have ee:(sb (txt r)).extract (Int.toNat 1) (txt r).length=sb (txt (-r)):=by
   rw [a2e,List.take_of_length_le (Nat.le_refl _),← t1];rfl
  rw [decide_eq_true h];refine ifI ?_;refine sZ 200 ?_;refine gwI (ff2 hsz kN) ?_;rw [ee];refine rtI ?_;exact a0a rfl IsPure.out
 ·rw [decide_eq_false h]
  refine ifI ?_;refine skI ?_;refine OkS.seq ?_;refine sR 300 ?_;refine cI cs ?_;rw [e2]
  by_cases h0:r.num=0
  ·rw [decide_eq_true h0]
   refine ifI ?_;refine sR 400 ?_;refine rtI ?_;refine a0a ?_ IsPure.out
   have:r=0:=Rat.num_eq_zero.1 h0
   rw [this];rfl
  ·have tp:=c1w (r:=r) (by omega)
   have z3:(⟨#[45]⟩:ByteArray).size=1:=rfl;rw [decide_eq_false h0];refine ifI ?_;refine skI ?_;refine sR 500 ?_;refine rtI ?_;refine a0a ?_ IsPure.out;show str ((⟨([45]:List UInt8).toArray⟩:ByteArray)++⟨(txt r).toArray⟩)=str (sb (txt (-r)));rw [a4s,tp];rfl
def a5t (r:Rat):Rat:=if r.num<0 then -r else r
theorem a7C (r:Rat):(a5t r).num=r.num.natAbs∧(a5t r).den=r.den:=by
 unfold a5t;split
 ·rw [Rat.neg_num,Rat.neg_den];exact ⟨by omega,rfl⟩
 ·exact ⟨by omega,rfl⟩
def qk (r:Rat):Bool:=!decide (20<(txt r).length) && !(decide (9<a0d (txt (a5t r)))||decide (10<(txt (a5t r)).length - a0d (txt (a5t r))))
theorem c1P (r:Rat):(txt (a5t r)).length≤(txt r).length:=by
 unfold a5t;split
 ·rename_i h
  have:=(b0z h).2
  omega
 ·exact Nat.le_refl _
theorem a9b (r:Rat):Lib.itoa (a5t r).num=Lib.decDigits r.num.natAbs:=by
 rw [(a7C r).1];unfold Lib.itoa;rw [if_neg (by omega)];rfl
theorem a6j {r:Rat}(h:qk r=true):r.num.natAbs<10^9∧r.den<10^9:=by
 unfold qk at h;simp only [Bool.and_eq_true,Bool.not_eq_true',Bool.or_eq_false_iff,decide_eq_false_iff_not] at h;obtain ⟨h1,h2,h3⟩:=h;have hs:=a4q (a5t r);rw [a9b] at hs;have hd:=b1f (a5t r);rw [(a7C r).2] at hd;have hdl:(a1z (txt (a5t r))).length=(txt (a5t r)).length - (a0d (txt (a5t r))+1):=by unfold a1z;rw [List.length_drop]
 have d1:=a5B _ (a1P r.num.natAbs).1;have d2:=a5B _ (a1P r.den).1;rw [(a1P _).2.1] at d1 d2;refine ⟨Nat.lt_of_lt_of_le d1 (Nat.pow_le_pow_right (by decide) (by omega)),?_⟩
 by_cases h1:r.den=1
 ·rw [h1];decide
 ·rw [if_neg h1] at hd
  rw [hd] at hdl;exact Nat.lt_of_lt_of_le d2 (Nat.pow_le_pow_right (by decide) (by omega))
theorem b0I (r:Rat)(hl:b8x r):a0b C0 83 [rR r] (.tup [i64 (if qk r then r.num else 0),i64 (if qk r then (r.den:Int) else 0),boo (qk r)]):=by
 refine a0c.walk w1 d3k rfl fun F=>?_
 have hsz:=a0t (txt r);unfold b8x at hl;have hne:=c3g r;have hpos:0<(txt r).length:=List.length_pos_iff.2 hne;refine sR 0 ?_;refine sR 100 ?_;refine OkS.seq ?_;refine OkS.seq ?_
 by_cases h20:20<(txt r).length
 ·have e2:decide (((txt r).length:Int)>20)=true:=decide_eq_true (by omega)
  have eq:qk r=false:=by unfold qk;rw [decide_eq_true h20];rfl
  rw [eq];refine OkS.reg w1 200 (by kernel_rfl) ?_;refine nwI (ff2 hsz e2) ?_;refine ifI ?_;refine sR 300 ?_;refine rtI ?_;exact a0a rfl IsPure.out
 ·have e2:decide (((txt r).length:Int)>20)=false:=decide_eq_false (by omega)
  have eq:qk r = !(decide (9<a0d (txt (a5t r)))||decide (10<(txt (a5t r)).length - a0d (txt (a5t r)))):=by unfold qk;rw [decide_eq_false h20];rfl
  have en:=b3z r;refine OkS.reg w1 200 (by kernel_rfl) ?_;refine nwI (ff2 hsz e2) ?_;refine ifI ?_;refine skI ?_;refine OkS.seqX (α:=Nat) (fun n=>⟨[(5,rR r),(6,boo (decide (r.num<0)))],[],n⟩) (fun _=>True) ?_ ?_
  ·have e0:decide (((sb (txt r)).size:Int)>0)=true:=decide_eq_true (by omega)
   have e1:((((txt r).getD (Int.toNat 0) 0).toNat:Int)==45)=decide (r.num<0):=by
    rw [← en];cases ht:txt r with
    | nil=>exact absurd ht hne
    | cons c l=>exact a7I c l
   refine OkS.reg w1 400 (by kernel_rfl) ?_;refine gwI e0 ?_;refine gwI (ff3 kT e0 e1) ?_;exact ⟨trivial,_,trivial,wkI⟩
  rintro n0 -;refine OkS.seqX (α:=Nat) (fun n=>⟨[(5,rR (a5t r)),(6,boo (decide (r.num<0)))],[],n⟩) (fun _=>True) ?_ ?_
  ·refine sR 500 ?_
   by_cases h:r.num<0
   ·obtain ⟨t1,t2⟩:=b0z h
    have ea:a5t r = -r:=by unfold a5t;rw [if_pos h]
    have ee:(sb (txt r)).extract (Int.toNat 1) (txt r).length=sb (txt (a5t r)):=by
     rw [ea,a2e,List.take_of_length_le (Nat.le_refl _),← t1];rfl
    rw [decide_eq_true h];refine ifI ?_;refine OkS.reg w1 600 (by kernel_rfl) ?_;refine gwI (ff2 hsz kN) ?_;rw [ee];exact ⟨trivial,_,trivial,wkI⟩
   ·have ea:a5t r=r:=by unfold a5t;rw [if_neg h]
    rw [decide_eq_false h,ea];refine ifI ?_;refine skI ?_;exact ⟨rfl,_,trivial,wkI⟩
  rintro n1 -;have hal:=c1P r;have hsa:=a4q (a5t r);rw [a9b] at hsa;have hn:=b3X (a5t r);rw [a9b] at hn;have hd:=b1f (a5t r);rw [(a7C r).2] at hd;have hh:=b3L (a5t r);rw [(a7C r).2] at hh;unfold a4k at hh;have hle:=a2b (txt (a5t r));have cs:=b0B (txt (a5t r)) (by omega);have hszA:=a0t (txt (a5t r));clear hsz hne hpos e2 en;generalize hT:txt (a5t r)=T at *;have eR:rR (a5t r)=str (sb T):=by rw [← hT]
  rw [eR];clear hT eR;refine sR 700 ?_;refine cI cs ?_;have w8:IntKind.i64.wrap ((T.length:Int) - (a0d T:Int))=((T.length - a0d T:Nat):Int):=by rw [wI (by omega) (by omega)];omega
  have eb:decide (((T.length - a0d T:Nat):Int)>10)=decide (10<T.length - a0d T):=decide_eq_decide.2 (by omega)
  by_cases h9:9<a0d T
  ·have e8:decide ((a0d T:Int)>9)=true:=decide_eq_true (by omega)
   rw [decide_eq_true h9] at eq;have eq2:qk r=false:=eq;rw [eq2];refine OkS.seq ?_;refine sZ 800 ?_;refine nwI e8 ?_;refine gwI kT ?_;refine ifI ?_;refine sR 900 ?_;refine rtI ?_;exact a0a rfl IsPure.out
  have e8:decide ((a0d T:Int)>9)=false:=decide_eq_false (by omega);rw [decide_eq_false h9] at eq
  by_cases h10:10<T.length - a0d T
  ·rw [decide_eq_true h10] at eq eb
   have eq2:qk r=false:=eq;rw [eq2];refine OkS.seq ?_;refine sZ 800 ?_;refine nwI e8 ?_;refine gwI (ff4 kF hszA w8 eb) ?_;refine ifI ?_;refine sR 900 ?_;refine rtI ?_;exact a0a rfl IsPure.out
  rw [decide_eq_false h10] at eq eb;have eq2:qk r=true:=eq;rw [eq2];refine OkS.seq ?_;refine sZ 800 ?_;refine nwI e8 ?_;refine gwI (ff4 kF hszA w8 eb) ?_;refine ifI ?_;refine skI ?_;have hd1:=a1P r.num.natAbs;have hd2:=a1P r.den;have c1:=b0U (Lib.decDigits r.num.natAbs) hd1.1 (by omega);rw [hd1.2.1] at c1;have e10:(sb T).extract 0 (a0d T)=sb (Lib.decDigits r.num.natAbs):=by
   rw [a2e,List.drop_zero,← hn];rfl
  refine sZ 1000 ?_;refine gwI (ff2 hszA kN) ?_;refine gwI e10 ?_;refine a0j.same _ c1 inferInstance ?_;refine stI ?_;refine OkS.seqX (α:=Nat) (fun n=>⟨[(6,boo (decide (r.num<0))),(8,i64 (r.num.natAbs:Int)),(9,i64 (r.den:Int))],[],n⟩) (fun _=>True) ?_ ?_
  ·by_cases hden:r.den=1
   ·rw [decide_eq_true hden] at hh
    have e11:decide ((a0d T:Int)<(T.length:Int))=false:=decide_eq_false (by have:=of_decide_eq_false (p:=a0d T<T.length) hh;omega);rw [hden];refine sZ 1100 ?_;refine nwI (ff2 hszA e11) ?_;refine ifI ?_;refine skI ?_;exact ⟨rfl,_,trivial,wkI⟩
   ·rw [decide_eq_false hden] at hh
    rw [if_neg hden] at hd;have hlt:=of_decide_eq_true (p:=a0d T<T.length) hh;have e11:decide ((a0d T:Int)<(T.length:Int))=true:=decide_eq_true (by omega);have wk:IntKind.i64.wrap (((a0d T:Nat):Int)+1)=((a0d T+1:Nat):Int):=wI (by omega) (by omega);have e12:(sb T).extract (a0d T+1) T.length=sb (Lib.decDigits r.den):=by
     rw [a2e,List.take_of_length_le (Nat.le_refl _),← hd];rfl
    have hdl:(Lib.decDigits r.den).length≤18:=by
     rw [← hd];unfold a1z;rw [List.length_drop];omega
    have c2:=b0U (Lib.decDigits r.den) hd2.1 hdl;rw [hd2.2.1] at c2;refine sZ 1100 ?_;refine nwI (ff2 hszA e11) ?_;refine ifI ?_;refine OkS.reg w1 1200 (by kernel_rfl) ?_;refine gwI (ff3 hszA wk kN) ?_;refine gwI e12 ?_;refine a0j.same _ c2 inferInstance ?_;refine stI ?_;exact ⟨trivial,_,trivial,wkI⟩
  rintro n2 -;obtain ⟨b1,b2⟩:=a6j eq2;refine OkS.seqX (α:=Nat) (fun n=>⟨[(8,i64 r.num),(9,i64 (r.den:Int))],[],n⟩) (fun _=>True) ?_ ?_
  ·refine sR 1300 ?_
   by_cases h:r.num<0
   ·have wn:IntKind.i64.wrap (0 - (r.num.natAbs:Int))=r.num:=by rw [wI (by omega) (by omega)];omega
    rw [decide_eq_true h];refine ifI ?_;refine OkS.reg w1 1400 (by kernel_rfl) ?_;refine nwI wn ?_;exact ⟨trivial,_,trivial,wkI⟩
   ·have en:(r.num.natAbs:Int)=r.num:=by omega
    rw [decide_eq_false h,en];refine ifI ?_;refine skI ?_;exact ⟨rfl,_,trivial,wkI⟩
  rintro n3 -;refine sR 1500 ?_;refine rtI ?_;exact a0a rfl IsPure.out
theorem b8I (b:Bool)(n:Nat):(sg b n).natAbs=n:=by unfold sg;split<;>omega
theorem c9h (z:Int)(d:Nat)(hz:z.natAbs≤4000000000000000000)(hd0:0<d)(hd:d≤4000000000000000000):a0b C0 84 [i64 z,i64 (d:Int)] (rR (mkRat z d)):=by
 refine a0c.walk w1 d2H rfl fun F=>?_
 have hg:0<Nat.gcd z.natAbs d:=Nat.gcd_pos_of_pos_right _ hd0;have hgl:Nat.gcd z.natAbs d≤d:=Nat.gcd_le_right _ hd0;obtain ⟨qn,qd⟩:=b1h (x:=z) (d:=d) (by omega);have etx:txt (mkRat z d)=if d / Nat.gcd z.natAbs d=1 then Lib.itoa (mkRat z d).num else Lib.itoa (mkRat z d).num++47::Lib.decDigits (d / Nat.gcd z.natAbs d):=by
  unfold txt;rw [qd]
 have q1:z.tdiv (Nat.gcd z.natAbs d:Nat)=(mkRat z d).num:=by
  rw [qn];obtain ⟨p,hp⟩:=Nat.gcd_dvd_left z.natAbs d;have e1:z.natAbs / Nat.gcd z.natAbs d=p:=Nat.div_eq_of_eq_mul_right hg hp;have e2:z=(Nat.gcd z.natAbs d:Int)*sg (decide (z<0)) p:=by
   have h0:(z.natAbs:Int)=(Nat.gcd z.natAbs d:Int)*(p:Int):=by rw [← Int.natCast_mul,← hp]
   unfold sg
   by_cases hx:z<0
   ·rw [decide_eq_true hx,if_pos rfl,Int.mul_neg,← h0];omega
   ·rw [decide_eq_false hx,if_neg (by decide),← h0];omega
  rw [e1]
  conv=>lhs;arg 1;rw [e2]
  rw [Int.mul_tdiv_cancel_left _ (by omega)]
 have q2:(d:Int).tdiv (Nat.gcd z.natAbs d:Nat)=((d / Nat.gcd z.natAbs d:Nat):Int):=rfl;have q5:(mkRat z d).num.natAbs≤4000000000000000000:=by
  rw [qn];rw [b8I];exact Nat.le_trans (Nat.div_le_self _ _) hz
 have q4:d / Nat.gcd z.natAbs d≤4000000000000000000:=Nat.le_trans (Nat.div_le_self _ _) hd;have hx:0<d / Nat.gcd z.natAbs d:=Nat.div_pos hgl hg;have ert:rR (mkRat z d)=str (sb (if d / Nat.gcd z.natAbs d=1 then Lib.itoa (mkRat z d).num else Lib.itoa (mkRat z d).num++47::Lib.decDigits (d / Nat.gcd z.natAbs d))):=by rw [← etx]
 rw [ert];clear etx ert qn qd;generalize (mkRat z d).num=pz at *;refine fR 0 ?_;refine OkS.seqW ⟨[(0,i64 z),(1,i64 d),(4,str ⟨#[]⟩)],[],50⟩ ?_ ?_
 ·refine OkS.seq ?_
  have l1:(decide (z < -4000000000000000000))=false:=by apply decide_eq_false;omega
  have l2:(decide (z>4000000000000000000))=false:=by apply decide_eq_false;omega
  have l3:(decide ((d:Int) < -4000000000000000000))=false:=by apply decide_eq_false;omega
  have l4:(decide ((d:Int)>4000000000000000000))=false:=by apply decide_eq_false;omega
  refine OkS.reg w1 100 (by kernel_rfl) ?_
  repeat' (first|(refine And.intro (by exact sdI) ?_;(refine dsI ?_);(try simp only [a9h,b6C,l1,l2,l3,l4]))|((refine brI (fun hb=>?_) (fun hb=>?_))<;>(try simp only [Bool.not_eq_true',Bool.not_eq_false'] at hb)<;>(try simp only [hb])<;>(refine dsI ?_)))
  refine ifI ?_;refine skI ?_;exact And.intro (by trivial) (wkI)
 refine OkS.seqW ⟨[(0,i64 z),(1,i64 d),(4,str ⟨#[]⟩)],[],100⟩ ?_ ?_
 ·refine fR 300 ?_
  refine ifI ?_;have e27:(decide ((d:Int)<0))=false:=by simp
  rw [e27];refine skI ?_;exact And.intro (by trivial) (wkI)
 refine OkS.seq ?_;have m1:max z (IntKind.i64.wrap (0 - z))=(z.natAbs:Int):=by rw [wI (by omega) (by omega)];omega
 refine OkS.reg w1 500 (by kernel_rfl) ?_;refine mwI m1 ?_;refine dI (c6R z.natAbs d (by omega) (by omega)) ?_;refine OkS.seq ?_;refine OkS.regD w1 600 [0,1,2,3,4,5,6] [7] (by kernel_rfl) ?_;refine nxI ?_;have w1p:IntKind.i64.wrap pz=pz:=wI (by omega) (by omega);rw [q1,q2,w1p,wN (Nat.le_trans q4 (by decide))];clear q1 q2 hg hgl;generalize d / Nat.gcd z.natAbs d=y at *;refine fR 700 ?_;have c1:=a5f pz.natAbs 1 (by omega);have c2:=a5f y 1 (by omega);rw [b8W] at c1 c2;have s1:=a1v 18 pz.natAbs (Nat.lt_of_le_of_lt q5 (by decide));have s2:=a1v 18 y (Nat.lt_of_le_of_lt q4 (by decide));have z1:=a8n (Lib.decDigits pz.natAbs);have z2:=a8n (Lib.decDigits y);have m1:max pz (IntKind.i64.wrap (0 - pz))=(pz.natAbs:Int):=by rw [wI (by omega) (by omega)];omega
 refine OkS.seqX (α:=Nat) (fun n=>⟨[(0,i64 pz),(1,i64 (y:Int)),(4,str ⟨#[]⟩),(6,str (sb (if pz<0 then [45] else [])))],[],n⟩) (fun _=>True) ?_ ?_
 ·refine fR 800 ?_
  by_cases h:pz<0
  ·rw [decide_eq_true h,if_pos h]
   refine ifI ?_;refine fI 900 ?_;exact ⟨rfl,_,trivial,wkI⟩
  ·rw [decide_eq_false h,if_neg h]
   refine ifI ?_;refine skI ?_;exact ⟨rfl,_,trivial,wkI⟩
 rintro n0 -;have ei:(if pz<0 then [45] else [])++Lib.decDigits pz.natAbs=Lib.itoa pz:=by
  unfold Lib.itoa;split
  ·rfl
  ·rw [show pz.toNat=pz.natAbs by omega];rfl
 have z3:=a0t (if pz<0 then [45] else []);have z4:(if pz<0 then [45] else []:List UInt8).length≤1:=by split<;>simp
 have z5:(Lib.itoa pz).length≤20:=by rw [← ei,List.length_append];omega
 refine sZ 1000 ?_;refine mwI m1 ?_;refine dI c1 ?_;rw [a4s,ei];have z6:=a8n (Lib.itoa pz);generalize Lib.itoa pz=t1 at *;clear ei z3 z4;refine OkS.seqX (α:=Nat) (fun n=>⟨[(6,str (sb (if y=1 then t1 else t1++47::Lib.decDigits y)))],[],n⟩) (fun _=>True) ?_ ?_
 ·refine fR 1100 ?_
  by_cases hy:y=1
  ·rw [if_pos hy]
   have e54:(decide ((y:Int)>1))=false:=by apply decide_eq_false;omega
   rw [e54];refine ifI ?_;refine skI ?_;exact ⟨rfl,_,trivial,wkI⟩
  ·rw [if_neg hy]
   have e54:(decide ((y:Int)>1))=true:=by apply decide_eq_true;omega
   have s3:(⟨#[47]⟩:ByteArray).size=1:=rfl;have sc:((⟨t1.toArray⟩:ByteArray)++(⟨#[47]⟩:ByteArray)).size=(⟨t1.toArray⟩:ByteArray).size+(⟨#[47]⟩:ByteArray).size:=ByteArray.size_append;rw [e54];refine ifI ?_;refine fI 1200 ?_;refine dI c2 ?_;have e47:(⟨#[47]⟩:ByteArray)=⟨([47]:List UInt8).toArray⟩:=rfl;rw [e47,a4s,a4s,List.append_assoc,List.cons_append,List.nil_append];exact ⟨rfl,_,trivial,wkI⟩
 rintro n1 -;refine fR 1300 ?_;refine rtI ?_;exact a0a rfl IsPure.out
theorem b3r {n k:Nat}(h:(a0e n).length≤k):(a0o n).length≤3*k:=by
 refine a1o (Nat.lt_of_lt_of_le (a2T n) ?_);rw [Nat.pow_mul];exact Nat.le_trans (Nat.pow_le_pow_right (by decide) h) (Nat.pow_le_pow_left (by decide) k)
theorem a9v {n k:Nat}(h:(a0e n).length≤k):(Lib.decDigits n).length≤27*k+1:=by
 have h1:=a8J (a0B n);rw [a0r] at h1
 have:=b3r h
 omega
theorem c6T {z:Int}{k:Nat}(h:(a0e z.natAbs).length≤k):(Lib.itoa z).length≤27*k+2:=by
 have:=a9v h
 unfold Lib.itoa;split
 ·rw [List.length_cons];omega
 ·rw [show z.toNat=z.natAbs by omega];omega
theorem a2Z {r:Rat}{k:Nat}(h:rk r k)(hk:k≤10000):b8x r:=by
 have h1:=c6T h.1;have h2:=a9v h.2;unfold b8x txt;split
 ·omega
 ·rw [List.length_append,List.length_cons];omega
def LZ (x:Int)(p:Nat):Prop:=(a0o x.natAbs).length≤p
theorem LZ.mul {x y:Int}{p q:Nat}(hx:LZ x p)(hy:LZ y q):LZ (x*y) (p+q):=by
 unfold LZ at *;rw [Int.natAbs_mul]
 have:=a5A x.natAbs y.natAbs
 omega
theorem LZ.add {x y:Int}{p q:Nat}(hx:LZ x p)(hy:LZ y q):LZ (x+y) (p+q+1):=by
 unfold LZ at *;have h1:=a0u (x+y).natAbs (x.natAbs+y.natAbs) (Int.natAbs_add_le x y);have h2:=a5D x.natAbs y.natAbs;omega
theorem LZ.few {x:Int}{p:Nat}(h:LZ x p)(hp:p<1000000):b2g x:=Nat.lt_of_le_of_lt h hp
theorem LZ.num {r:Rat}{k:Nat}(h:rk r k):LZ r.num (3*k):=b3r h.1
theorem LZ.den {r:Rat}{k:Nat}(h:rk r k):LZ (r.den:Int) (3*k):=b3r h.2
theorem c9i (a b:Rat):qZ (a.num*b.den+b.num*a.den) ((a.den:Int)*b.den)=a+b:=by
 unfold qZ;have h:¬ ((a.den:Int)*b.den<0):=by
  rw [← Int.natCast_mul];omega
 rw [if_neg h,← Int.natCast_mul,Int.natAbs_natCast,Rat.add_def',]
theorem c8e (a b:Rat):qZ (a.num*b.num) ((a.den:Int)*b.den)=a*b:=by
 unfold qZ;have h:¬ ((a.den:Int)*b.den<0):=by
  rw [← Int.natCast_mul];omega
 rw [if_neg h,← Int.natCast_mul,Int.natAbs_natCast,Rat.mul_def']
theorem a4F {x y:Int}(hx:x.natAbs<10^9)(hy:y.natAbs<10^9):(x*y).natAbs<10^18:=by
 rw [Int.natAbs_mul];exact Nat.lt_of_lt_of_le (Nat.mul_lt_mul'' hx hy) (by decide)
theorem d5b (a b:Rat)(i j:Nat)(ha:rk a i)(hb:rk b j)(hij:i+j≤10000):a0b C0 32 [rR a,rR b] (rR (a+b)):=by
 refine a0c.walk w1 d3u rfl fun F=>?_
 have ta:=a2Z ha (by omega);have tb:=a2Z hb (by omega);have qa:=b0I a ta;have qb:=b0I b tb
 by_cases hq:qk a=true∧qk b=true
 ·obtain ⟨h1,h2⟩:=hq
  obtain ⟨n1,d1⟩:=a6j h1;obtain ⟨n2,d2⟩:=a6j h2;rw [h1,if_pos rfl,if_pos rfl] at qa;rw [h2,if_pos rfl,if_pos rfl] at qb;have p1:=a4F n1 (y:=(b.den:Int)) (by omega);have p2:=a4F n2 (y:=(a.den:Int)) (by omega);have p3:=a4F (x:=(a.den:Int)) (y:=(b.den:Int)) (by omega) (by omega);have m1:IntKind.i64.wrap (a.num*(b.den:Int))=a.num*b.den:=wI (by omega) (by omega);have m2:IntKind.i64.wrap (b.num*(a.den:Int))=b.num*a.den:=wI (by omega) (by omega);have m3:IntKind.i64.wrap (a.num*(b.den:Int)+b.num*(a.den:Int))=a.num*b.den+b.num*a.den:=wI (by omega) (by omega);have m4:IntKind.i64.wrap ((a.den:Int)*(b.den:Int))=((a.den*b.den:Nat):Int):=by rw [wI (by omega) (by omega),Int.natCast_mul]
  have p4:a.den*b.den<10^18:=by rw [← Int.natCast_mul,Int.natAbs_natCast] at p3;exact p3
  have cf:=c9h (a.num*b.den+b.num*a.den) (a.den*b.den) (by omega) (Nat.mul_pos a.den_pos b.den_pos) (by omega);rw [← Rat.add_def'] at cf;refine sR 0 ?_;refine sR 100 ?_;refine cI qa ?_;refine sR 200 ?_;refine cI qb ?_;refine OkS.seq ?_;refine sZ 300 ?_;refine gwI kT ?_;refine ifI ?_;refine sZ 400 ?_;refine nwI (ff4 m1 m2 m3 m4) ?_;refine cI cf ?_;refine rtI ?_;exact a0a rfl IsPure.out
 ·refine sR 0 ?_
  refine sR 100 ?_;refine cI qa ?_;refine sR 200 ?_;refine cI qb ?_;refine OkS.seqX (α:=Nat) (fun n=>⟨[(0,rR a),(1,rR b)],[],n⟩) (fun _=>True) ?_ ?_
  ·cases h1:qk a
   ·refine sZ 300 ?_
    refine gwI h1 ?_;refine gwI kF ?_;refine ifI ?_;refine skI ?_;exact ⟨rfl,_,trivial,wkI⟩
   ·have h2:qk b=false:=by
     cases h2:qk b
     ·rfl
     ·exact absurd ⟨h1,h2⟩ hq
    rw [h2];refine sZ 300 ?_;refine gwI h1 ?_;refine gwI kT ?_;refine ifI ?_;refine skI ?_;exact ⟨rfl,_,trivial,wkI⟩
  rintro n0 -;clear qa qb hq;have pa:=a5E (txt a) (a4T a) (a5h a) ta;have pb:=a5E (txt b) (a4T b) (a5h b) tb;rw [a6f,a7E] at pa pb;have lan:=LZ.num ha;have lad:=LZ.den ha;have lbn:=LZ.num hb;have lbd:=LZ.den hb;have da:=a.den_pos;have db:=b.den_pos;have c1:=a7T a.num b.den (lan.few (by omega)) (lbd.few (by omega));have c2:=a7T b.num a.den (lbn.few (by omega)) (lad.few (by omega));have c3:=d0t (a.num*b.den) (b.num*a.den) ((lan.mul lbd).few (by omega)) ((lbn.mul lad).few (by omega));have c4:=a7T (a.den:Int) b.den (lad.few (by omega)) (lbd.few (by omega));have c5:=a6I (a.num*b.den+b.num*a.den) ((a.den:Int)*b.den) (by rw [← Int.natCast_mul];have:=Nat.mul_pos da db;omega) (((lan.mul lbd).add (lbn.mul lad)).few (by omega)) ((lad.mul lbd).few (by omega));rw [c9i] at c5;refine sR 500 ?_;refine cI pa ?_;refine sR 600 ?_;refine cI pb ?_;refine OkS.seq ?_;refine OkS.regD w1 700 [0,1,2,3,4,5,6,7,8] [9,10,11] (by kernel_rfl) ?_;refine gwI kN ?_
  first|refine a0n.same _ c1 inferInstance ?_|refine a0j.same _ c1 inferInstance ?_
  refine gwI kN ?_
  first|refine a0n.same _ c2 inferInstance ?_|refine a0j.same _ c2 inferInstance ?_
  refine gwI kN ?_
  first|refine a0n.same _ c3 inferInstance ?_|refine a0j.same _ c3 inferInstance ?_
  refine gwI kN ?_
  first|refine a0n.same _ c4 inferInstance ?_|refine a0j.same _ c4 inferInstance ?_
  refine gwI kN ?_
  first|refine a0n.same _ c5 inferInstance ?_|refine a0j.same _ c5 inferInstance ?_
  refine gwI kN ?_;refine rtI ?_;exact a0a rfl IsPure.out
theorem d4L (a b:Rat)(i j:Nat)(ha:rk a i)(hb:rk b j)(hij:i+j≤10000):a0b C0 82 [rR a,rR b] (rR (a*b)):=by
 refine a0c.walk w1 d4I rfl fun F=>?_
 have ta:=a2Z ha (by omega);have tb:=a2Z hb (by omega);have qa:=b0I a ta;have qb:=b0I b tb
 by_cases hq:qk a=true∧qk b=true
 ·obtain ⟨h1,h2⟩:=hq
  obtain ⟨n1,d1⟩:=a6j h1;obtain ⟨n2,d2⟩:=a6j h2;rw [h1,if_pos rfl,if_pos rfl] at qa;rw [h2,if_pos rfl,if_pos rfl] at qb;have p1:=a4F n1 (y:=b.num) n2;have p3:=a4F (x:=(a.den:Int)) (y:=(b.den:Int)) (by omega) (by omega);have m1:IntKind.i64.wrap (a.num*b.num)=a.num*b.num:=wI (by omega) (by omega);have m4:IntKind.i64.wrap ((a.den:Int)*(b.den:Int))=((a.den*b.den:Nat):Int):=by rw [wI (by omega) (by omega),Int.natCast_mul]
  have p4:a.den*b.den<10^18:=by rw [← Int.natCast_mul,Int.natAbs_natCast] at p3;exact p3
  have cf:=c9h (a.num*b.num) (a.den*b.den) (by omega) (Nat.mul_pos a.den_pos b.den_pos) (by omega);rw [← Rat.mul_def'] at cf;refine sR 0 ?_;refine sR 100 ?_;refine cI qa ?_;refine sR 200 ?_;refine cI qb ?_;refine OkS.seq ?_;refine sZ 300 ?_;refine gwI kT ?_;refine ifI ?_;refine sZ 400 ?_;refine nwI (ff2 m1 m4) ?_;refine cI cf ?_;refine rtI ?_;exact a0a rfl IsPure.out
 ·refine sR 0 ?_
  refine sR 100 ?_;refine cI qa ?_;refine sR 200 ?_;refine cI qb ?_;refine OkS.seqX (α:=Nat) (fun n=>⟨[(0,rR a),(1,rR b)],[],n⟩) (fun _=>True) ?_ ?_
  ·cases h1:qk a
   ·refine sZ 300 ?_
    refine gwI h1 ?_;refine gwI kF ?_;refine ifI ?_;refine skI ?_;exact ⟨rfl,_,trivial,wkI⟩
   ·have h2:qk b=false:=by
     cases h2:qk b
     ·rfl
     ·exact absurd ⟨h1,h2⟩ hq
    rw [h2];refine sZ 300 ?_;refine gwI h1 ?_;refine gwI kT ?_;refine ifI ?_;refine skI ?_;exact ⟨rfl,_,trivial,wkI⟩
  rintro n0 -;clear qa qb hq;have pa:=a5E (txt a) (a4T a) (a5h a) ta;have pb:=a5E (txt b) (a4T b) (a5h b) tb;rw [a6f,a7E] at pa pb;have lan:=LZ.num ha;have lad:=LZ.den ha;have lbn:=LZ.num hb;have lbd:=LZ.den hb;have da:=a.den_pos;have db:=b.den_pos;have c1:=a7T a.num b.num (lan.few (by omega)) (lbn.few (by omega));have c4:=a7T (a.den:Int) b.den (lad.few (by omega)) (lbd.few (by omega));have c5:=a6I (a.num*b.num) ((a.den:Int)*b.den) (by rw [← Int.natCast_mul];have:=Nat.mul_pos da db;omega) ((lan.mul lbn).few (by omega)) ((lad.mul lbd).few (by omega));rw [c8e] at c5;refine sR 500 ?_;refine cI pa ?_;refine sR 600 ?_;refine cI pb ?_;refine OkS.seq ?_;refine OkS.regD w1 700 [0,1,2,3,4] [5,6,7] (by kernel_rfl) ?_;refine gwI kN ?_
  first|refine a0n.same _ c1 inferInstance ?_|refine a0j.same _ c1 inferInstance ?_
  refine gwI kN ?_
  first|refine a0n.same _ c4 inferInstance ?_|refine a0j.same _ c4 inferInstance ?_
  refine gwI kN ?_
  first|refine a0n.same _ c5 inferInstance ?_|refine a0j.same _ c5 inferInstance ?_
  refine gwI kN ?_;refine rtI ?_;exact a0a rfl IsPure.out
theorem d4p (a b:Rat)(i j:Nat)(ha:rk a i)(hb:rk b j)(hij:i+j≤10000):a0b C0 77 [rR a,rR b] (rR (a - b)):=by
 refine a0c.walk w1 d3D rfl fun F=>?_
 have c1:=c5s b (a2Z hb (by omega));have c2:=d5b a (-b) i j ha (a7W hb) hij;rw [← Rat.sub_eq_add_neg] at c2;refine sR 0 ?_;refine sR 100 ?_;refine cI c1 ?_;refine cI c2 ?_;refine rtI ?_;exact a0a rfl IsPure.out
theorem c5M (a b:Rat):a3S (a - b)=a2H a b:=by
 unfold a3S a2H;have h1:(a - b).num<0↔a<b:=by
  have e:=Rat.lt_iff (a - b) 0;have e1:(a - b).num*((0:Rat).den:Int)<(0:Rat).num*((a - b).den:Int)↔(a - b).num<0:=by simp
  rw [← e1,← e];constructor<;>intro h<;>grind
 have h2:0<(a - b).num↔b<a:=by
  have e:=Rat.lt_iff 0 (a - b);have e1:(0:Rat).num*((a - b).den:Int)<(a - b).num*((0:Rat).den:Int)↔0<(a - b).num:=by simp
  rw [← e1,← e];constructor<;>intro h<;>grind
 by_cases h:a<b
 ·rw [if_pos h];have:=h1.2 h;omega
 ·rw [if_neg h]
  by_cases h':b<a
  ·rw [if_pos h'];have:=h2.2 h';omega
  ·rw [if_neg h']
   have:=mt h1.1 h
   have:=mt h2.1 h'
   omega
theorem d5G (a b:Rat)(i j:Nat)(ha:rk a i)(hb:rk b j)(hij:i+j<10000):a0b C0 34 [rR a,rR b] (i64 (a2H a b)):=by
 refine a0c.walk w1 d4A rfl fun F=>?_
 have c1:=d4p a b i j ha hb (by omega);have c2:=b8P (a - b) (a2Z (d0m ha hb) (by omega));rw [c5M] at c2;refine sR 0 ?_;refine sR 100 ?_;refine cI c1 ?_;refine cI c2 ?_;refine rtI ?_;exact a0a rfl IsPure.out
theorem c1k (c:UInt8):a0A c=(!decide ((c.toNat:Int)<48) && !decide ((c.toNat:Int)>57)):=by
 unfold a0A;rw [Bool.eq_iff_iff,Bool.and_eq_true,Bool.and_eq_true];simp only [Bool.not_eq_true',decide_eq_false_iff_not,Nat.ble_eq];omega
theorem b3g {l:List UInt8}{i:Nat}{c:UInt8}(hc:l[i]? = some c)(h:(l.take i).all a0A=true):(l.take (i+1)).all a0A=a0A c:=by
 rw [List.take_add_one,hc,List.all_append,h];simp
theorem c8u {l:List UInt8}{i:Nat}{c:UInt8}(hc:l[i]? = some c)(h:a0A c=false):l.all a0A=false:=by
 cases ha:l.all a0A
 ·rfl
 ·have:=List.all_eq_true.1 ha c (List.mem_of_getElem? hc)
  rw [h] at this;cases this
theorem c1b (l:List UInt8)(hl:l.length≤1000000000):a0b C0 161 [str (sb l)] (boo (l.all a0A)):=by
 refine a0c.walk w1 c8q rfl fun F=>?_
 have hsz:=a0t l;refine sR 0 ?_;refine OkS.seq ?_;refine sR 100 ?_;refine OkS.block ?_;refine OkS.loop (α:=Nat × Nat) (fun p=>⟨[(0,str (sb l)),(3,i64 (p.1:Int))],[],p.2⟩) (fun p=>l.length - p.1) (fun p=>p.1≤l.length∧(l.take p.1).all a0A=true) (0,_) ⟨Nat.zero_le _,rfl⟩ wkI ?_;rintro ⟨i,n⟩ F ⟨hi,ha⟩;dsimp only at hi ha ⊢;refine OkS.seq ?_;refine sZ 200 ?_;refine nwI hsz ?_;refine ifI ?_
 (refine brI (fun hlt=>?_) (fun hlt=>?_))<;>(try simp only [Bool.not_eq_true',Bool.not_eq_false'] at hlt)<;>(try simp only [hlt])
 ·have hi2:i<l.length:=by
   have:=of_decide_eq_true hlt
   omega
  obtain ⟨c,hc⟩:∃ c,l[i]? = some c:=⟨l[i],List.getElem?_eq_getElem hi2⟩
  have hg:l.getD i 0=c:=by simp [hc]
  have wi:IntKind.i64.wrap ((i:Int)+1)=((i+1:Nat):Int):=wI (by omega) (by omega);have hid:=c1k c;have hat:=b3g hc ha;have hno:=c8u hc;refine skI ?_;refine OkS.seq ?_;refine OkS.block ?_;refine sZ 400 ?_;refine nwI (ff2 kN hg) ?_
  by_cases c1:(c.toNat:Int)<48
  ·rw [decide_eq_true c1] at hid
   have e4:=decide_eq_true c1;simp only [e4];refine gwI kT ?_;refine ifI ?_;refine sR 500 ?_;refine rtI ?_;exact a0a (by rw [hno hid]) IsPure.out
  ·rw [decide_eq_false c1] at hid
   have e4:=decide_eq_false c1;simp only [e4];refine gwI (ff3 kF kN hg) ?_
   by_cases c2:(c.toNat:Int)>57
   ·rw [decide_eq_true c2] at hid ⊢
    refine ifI ?_;refine sR 500 ?_;refine rtI ?_;exact a0a (by rw [hno hid]) IsPure.out
   ·rw [decide_eq_false c2] at hid ⊢
    refine ifI ?_;refine skI ?_;refine OkS.reg w1 300 (by kernel_rfl) ?_;refine nwI wi ?_;exact ⟨(i+1,_),⟨hi2,hat.trans hid⟩,by dsimp only;omega,wkI⟩
 ·have hi2:i=l.length:=by
   have:=of_decide_eq_false hlt
   omega
  subst hi2;rw [List.take_of_length_le (Nat.le_refl _)] at ha;refine exI ?_;refine sR 600 ?_;refine rtI ?_;exact a0a (by rw [ha]) IsPure.out
theorem b9c (c : UInt8) : (((c.toNat : Nat) : Int) == 48) = decide (c = 48) := by
  rw [Bool.eq_iff_iff, beq_iff_eq, decide_eq_true_iff, ← UInt8.toNat_inj]
  exact ⟨fun h => by have : c.toNat = 48 := by omega
                     exact this, fun h => by rw [h]; rfl⟩
theorem c4K (l:List UInt8)(hl:l.length≤1000000000):a0b C0 90 [str (sb l)] (boo (a1c l)):=by
 refine a0c.walk w1 d3f rfl fun F=>?_
 have hsz:=a0t l;have cd:=c1b l hl;refine sR 0 ?_;refine OkS.seq ?_;refine OkS.seq ?_
 match l,hl,hsz,cd with
 | [],_,hsz,_ =>
  have e1:((((sb []).size:Nat):Int)==0)=true:=rfl;refine OkS.reg w1 100 (by kernel_rfl) ?_;refine nwI e1 ?_;refine gwI kT ?_;refine ifI ?_;refine sR 200 ?_;refine rtI ?_;exact a0a rfl IsPure.out
 | [c],hl,hsz,cd =>
  have e1:((((sb [c]).size:Nat):Int)==0)=false:=rfl;have e2:decide ((((sb [c]).size:Nat):Int)>1)=false:=rfl;have ep:a1c [c]=[c].all a0A:=by
   unfold a1c c5z
   by_cases h:c=48
   ·subst h;rfl
   ·simp [h]
  rw [ep];refine OkS.reg w1 100 (by kernel_rfl) ?_;refine nwI e1 ?_;refine gwI kF ?_;simp only [e2];refine gwI kF ?_;refine ifI ?_;refine skI ?_;refine sR 300 ?_;refine cI cd ?_;refine rtI ?_;exact a0a rfl IsPure.out
 | c::d::l,hl,hsz,cd =>
  have hs2:(sb (c::d::l)).size=l.length+2:=hsz;have e1:((((sb (c::d::l)).size:Nat):Int)==0)=false:=beq_eq_false_iff_ne.2 (by omega);have e2:decide ((((sb (c::d::l)).size:Nat):Int)>1)=true:=decide_eq_true (by omega);have e3:((((c::d::l).getD (Int.toNat 0) 0).toNat:Int)==48)=decide (c=48):=b9c c;have ep:a1c (c::d::l)=if c=48 then false else (c::d::l).all a0A:=by
   unfold a1c c5z
   by_cases h:c=48
   ·subst h;simp
   ·simp [h]
  rw [ep];refine OkS.reg w1 100 (by kernel_rfl) ?_;refine nwI e1 ?_;refine gwI (ff2 kF e2) ?_;refine gwI (ff4 kT e2 e3 kF) ?_
  by_cases h:c=48
  ·rw [decide_eq_true h,if_pos h]
   refine ifI ?_;refine sR 200 ?_;refine rtI ?_;exact a0a rfl IsPure.out
  ·rw [decide_eq_false h,if_neg h]
   refine ifI ?_;refine skI ?_;refine sR 300 ?_;refine cI cd ?_;refine rtI ?_;exact a0a rfl IsPure.out
theorem c7y (r:Rat)(h:r≠0):qZ (r.den:Int) r.num=r⁻¹:=by
 have hn:r.num≠0:=fun h1=>h (Rat.num_eq_zero.1 h1)
 rw [Rat.inv_def];unfold qZ;rcases Int.lt_or_gt_of_ne hn with h1|h1
 ·rw [if_pos h1]
  obtain ⟨m,hm⟩:∃ m,r.num=Int.negSucc m:=by
   cases hy:r.num with
   | ofNat n=>rw [hy] at h1;simp at h1;omega
   | negSucc k=>exact ⟨k,rfl⟩
  rw [hm];show mkRat (-(r.den:Int)) (m+1)=Rat.normalize (-(r.den:Int)) (m+1) (Nat.succ_ne_zero m);rw [Rat.normalize_eq_mkRat]
 ·rw [if_neg (by omega)]
  obtain ⟨m,hm⟩:∃ m:Nat,r.num=(m:Int):=⟨r.num.natAbs,by omega⟩
  rw [hm,Rat.divInt_ofNat,Int.natAbs_natCast]
theorem d0l (r:Rat)(k:Nat)(h:rk r k)(hk:k≤10000):a0b C0 80 [rR r] (rR ((r.num / r.den:Int):Rat)):=by
 refine a0c.walk w1 d3w rfl fun F=>?_
 have tr:=a2Z h hk;have cw:=c6X r tr;refine sR 0 ?_;refine OkS.seq ?_;refine sR 100 ?_;refine cI cw ?_
 by_cases hd:r.den=1
 ·have er:((r.num / r.den:Int):Rat)=r:=by
   rw [hd];refine Rat.ext ?_ ?_
   ·rw [Rat.num_intCast];simp
   ·rw [Rat.den_intCast,hd]
  rw [decide_eq_true hd,er];refine ifI ?_;refine sR 200 ?_;refine rtI ?_;exact a0a rfl IsPure.out
 ·have pa:=a5E (txt r) (a4T r) (a5h r) tr
  rw [a6f,a7E] at pa;have ln:=LZ.num h;have ld:=LZ.den h;have cf:=b6D r.num r.den (by have:=r.den_pos;omega) (ln.few (by omega)) (ld.few (by omega));have hle:(r.num / (r.den:Int)).natAbs≤r.num.natAbs:=Int.natAbs_ediv_le_natAbs _ _;have ct:=b7Q (r.num / (r.den:Int)) (Nat.lt_of_le_of_lt (a0u _ _ hle) (ln.few (by omega)));rw [← c4W] at ct;rw [decide_eq_false hd];refine ifI ?_;refine skI ?_;refine sR 300 ?_;refine cI pa ?_;refine sR 400 ?_;refine cI cf ?_;refine cI ct ?_;refine rtI ?_;exact a0a rfl IsPure.out
theorem d5M (r:Rat)(k:Nat)(h:rk r k)(hk:k≤10000)(h0:r≠0):a0b C0 148 [rR r] (rR r⁻¹):=by
 refine a0c.walk w1 d1s rfl fun F=>?_
 have tr:=a2Z h hk;have pa:=a5E (txt r) (a4T r) (a5h r) tr;rw [a6f,a7E] at pa;have ln:=LZ.num h;have ld:=LZ.den h;have cf:=a6I (r.den:Int) r.num (fun h1=>h0 (Rat.num_eq_zero.1 h1)) (ld.few (by omega)) (ln.few (by omega));rw [c7y r h0] at cf;refine sR 0 ?_;refine sR 100 ?_;refine cI pa ?_;refine sR 200 ?_;refine cI cf ?_;refine rtI ?_;exact a0a rfl IsPure.out
theorem c6I (a b:Rat)(i j:Nat)(ha:rk a i)(hb:rk b j)(hij:i+j≤10000)(h0:b≠0):a0b C0 81 [rR a,rR b] (rR (a / b)):=by
 refine a0c.walk w1 d3H rfl fun F=>?_
 have c1:=d5M b j hb (by omega) h0;have c2:=d4L a b⁻¹ i j ha (b8Y hb h0) hij;rw [← Rat.div_def] at c2;refine sR 0 ?_;refine sR 100 ?_;refine cI c1 ?_;refine cI c2 ?_;refine rtI ?_;exact a0a rfl IsPure.out
def c0K (r:Rat):Bool:=decide (600<(Lib.decDigits r.num.natAbs).length)||decide (600<(Lib.decDigits r.den).length)
theorem b8r (l:List UInt8):a0d l=(a2l l).length:=by
 have:=a2b l
 unfold a2l;rw [List.length_take];omega
theorem a6A (l:List UInt8):a2l (a0l l)=a0Q l∧a1z (a0l l)=a1z l∧a4k (a0l l)=a4k l∧decide (a2l l=[45,48])=(a1T l&&decide (a0Q l=[48])):=by
 cases hb:a1T l
 ·have ed:a0l l=l:=by unfold a0l;rw [hb];rfl
  have en:a1T (a2l l)=false:=by
   unfold a2l;cases l with
   | nil=>rfl
   | cons c l =>
    cases hk:a0d (c::l) with
    | zero=>rfl
    | succ k=>exact hb
  have es:a0Q l=a2l l:=by unfold a0Q a0l;rw [en];rfl
  rw [ed,es];refine ⟨rfl,rfl,rfl,?_⟩;rw [Bool.false_and];refine decide_eq_false fun h=>?_
  rw [h] at en;cases en
 ·cases l with
  | nil=>cases hb
  | cons c m =>
   have hc:c=45:=by simpa [a1T] using hb
   subst hc;have ed:a0l (45::m)=m:=rfl;have e1:a0d (45::m)=a0d m+1:=by
    unfold a0d;rw [List.takeWhile_cons,if_pos (by decide),List.length_cons]
   have e2:a2l (45::m)=45::a2l m:=by unfold a2l;rw [e1,List.take_succ_cons]
   have e3:a1z (45::m)=a1z m:=by unfold a1z;rw [e1,List.drop_succ_cons]
   have e4:a4k (45::m)=a4k m:=by unfold a4k;rw [e1,List.length_cons];exact decide_eq_decide.2 (by omega)
   have e5:a0Q (45::m)=a2l m:=by unfold a0Q;rw [e2];rfl
   rw [ed,e2,e3,e4,e5];refine ⟨rfl,rfl,rfl,?_⟩;rw [Bool.true_and];exact decide_eq_decide.2 (by simp)
theorem a6y (l:List UInt8):a4I l=((!a1c (a0Q l)||(a1T l&&decide (a0Q l=[48])))||(a4k l&&(!a1c (a1z l)||decide (a1z l=[48])||decide (a1z l=[49])))):=by
 unfold a4I;rw [(a6A l).2.2.2]
theorem c0P {l:List UInt8}(h:a1c l=true):l≠[]:=(a2D h).1
theorem c3w {l:List UInt8}(h:0<l.length):(((l.getD (Int.toNat 0) 0).toNat:Int)==45)=a1T l:=by
 cases l with
 | nil=>cases h
 | cons c l=>exact a7I c l
theorem a9B (l:List UInt8)(hl:l.length≤100000):a0b C0 33 [str (sb l)] (i64 (chk l)):=by
 refine a0c.walk w1 d3z rfl fun F=>?_
 have hsz:=a0t l;obtain ⟨p1,p2,p3,-⟩:=a6A l;have hdl:(a0l l).length≤l.length:=by
  unfold a0l;split
  ·rw [List.length_drop];omega
  ·exact Nat.le_refl _
 have hbf:=a6y l;have hchk1:(!a1c (a0Q l)||(a1T l&&decide (a0Q l=[48])))=true→chk l=1:=fun h=>by
  unfold chk;rw [hbf,h,Bool.true_or,if_pos rfl]
 have hchk2:(a4k l&&(!a1c (a1z l)||decide (a1z l=[48])||decide (a1z l=[49])))=true→chk l=1:=fun h=>by
  unfold chk;rw [hbf,h,Bool.or_true,if_pos rfl]
 have hne:a1c (a0Q l)=true→0<l.length:=fun h=>by
  cases l with
  | nil=>exact absurd rfl (c0P h)
  | cons c l=>rw [List.length_cons];omega
 refine sR 0 ?_;refine sR 100 ?_;refine OkS.seqX (α:=Nat) (fun n=>⟨[(0,str (sb l)),(3,str (sb (a0l l)))],[],n⟩) (fun _=>True) ?_ ?_
 ·rcases Nat.eq_zero_or_pos l.length with h0|h0
  ·have e0:l=[]:=List.eq_nil_of_length_eq_zero h0
   have e1:decide (((sb []).size:Int)>0)=false:=rfl;have ed:a0l l=l:=by rw [e0];rfl
   rw [ed,e0];refine sZ 200 ?_;refine nwI e1 ?_;refine gwI kF ?_;refine ifI ?_;refine skI ?_;exact ⟨rfl,_,trivial,wkI⟩
  ·have e0:decide (((sb l).size:Int)>0)=true:=decide_eq_true (by omega)
   have e1:=c3w h0;refine sZ 200 ?_;refine gwI e0 ?_;refine gwI (ff3 kT e0 e1) ?_;cases hb:a1T l
   ·have ed:a0l l=l:=by unfold a0l;rw [hb];rfl
    rw [ed];refine ifI ?_;refine skI ?_;exact ⟨rfl,_,trivial,wkI⟩
   ·have ed:a0l l=l.drop 1:=by unfold a0l;rw [hb];rfl
    have ee:(sb l).extract (Int.toNat 1) l.length=sb (a0l l):=by
     rw [a2e,List.take_of_length_le (Nat.le_refl _),ed];rfl
    refine ifI ?_;refine OkS.reg w1 300 (by kernel_rfl) ?_;refine gwI (ff2 hsz kN) ?_;rw [ee];exact ⟨trivial,_,trivial,wkI⟩
 rintro n0 -;have cs:=b0B (a0l l) (by omega);have hle:=a2b (a0l l);have hszS:=a0t (a0l l);have hhs:a4k l=decide (a0d (a0l l)<(a0l l).length):=p3.symm;have e10:(sb (a0l l)).extract 0 (a0d (a0l l))=sb (a0Q l):=by rw [← p1,a2e,List.drop_zero];rfl
 have e11:(sb (a0l l)).extract (a0d (a0l l)+1) (a0l l).length=sb (a1z l):=by rw [← p2,a2e,List.take_of_length_le (Nat.le_refl _)];rfl
 have hNl:a0d (a0l l)=(a0Q l).length:=by rw [← p1];exact b8r _
 have hDl:(a1z l).length=(a0l l).length - (a0d (a0l l)+1):=by rw [← p2];unfold a1z;rw [List.length_drop]
 have pp:=fun h1 h2=>a5E (a0l l) h1 h2 (by omega)
 unfold d0o d0u at pp;rw [p1,p2,p3] at pp;have edef:chk l=if a4I l then 1 else if 600<(a0Q l).length∨600<(a1z l).length then 4 else if a4k l=true∧Nat.gcd (dv (a0Q l)) (dv (a1z l))≠1 then 1 else 0:=rfl
 rw [hbf] at edef;generalize hN:a0Q l=Nn at *;generalize hD:a1z l=Dn at *;generalize hH:a4k l=hv at *;generalize hK:chk l=Kn at *;generalize a0l l=Sn at *;generalize a0d Sn=k at *;clear p1 p2 p3 hbf hN hD hH hK;have cf:=c4K Nn (by omega);have cf2:=c4K Dn (by omega);have q0:=a4O Nn [48];have q1:=a4O Dn [48];have q2:=a4O Dn [49];refine sR 400 ?_;refine cI cs ?_;refine OkS.seqX (α:=Nat) (fun n=>⟨[(0,str (sb l)),(3,str (sb Sn)),(4,i64 (k:Int))],[],n⟩) (fun _=>(!a1c Nn||(a1T l&&decide (Nn=[48])))=false) ?_ ?_
 ·refine sZ 500 ?_
  refine gwI (ff2 hszS kN) ?_;refine gwI e10 ?_;cases hp:a1c Nn
  ·rw [hp] at cf
   refine a0j.same _ cf inferInstance ?_;refine stI ?_;simp only [Bool.not_false];refine gwI kT ?_;refine ifI ?_;refine sR 600 ?_;refine rtI ?_;exact a0a (by rw [hchk1 (by rw [hp];rfl)];rfl) IsPure.out
  ·rw [hp] at cf
   have hl0:=hne hp;have e1:=c3w hl0;refine a0j.same _ cf inferInstance ?_;refine stI ?_;simp only [Bool.not_true];refine gwI (ff3 kF hsz e1) ?_;have q0':a1p (sb Nn) ⟨#[48]⟩=decide (Nn=[48]):=q0;cases hb:a1T l
   ·refine gwI kF ?_
    refine ifI ?_;refine skI ?_;exact ⟨rfl,_,rfl,wkI⟩
   ·refine gwI (ff4 kT kF hszS kN) ?_
    refine gwI (ff4 kT kF e10 q0') ?_
    by_cases h0:Nn=[48]
    ·rw [decide_eq_true h0]
     refine ifI ?_;refine sR 600 ?_;refine rtI ?_;exact a0a (by rw [hchk1 (by simp [hp,hb,h0])];rfl) IsPure.out
    ·rw [decide_eq_false h0]
     refine ifI ?_;refine skI ?_;exact ⟨rfl,_,by simp,wkI⟩
 rintro n1 hb1;clear hchk1 hne cf q0;refine OkS.seqX (α:=Nat) (fun n=>⟨[(0,str (sb l)),(3,str (sb Sn)),(4,i64 (k:Int))],[],n⟩) (fun _=>(hv&&(!a1c Dn||decide (Dn=[48])||decide (Dn=[49])))=false) ?_ ?_
 ·cases hv
  ·have e40:decide ((k:Int)<(Sn.length:Int))=false:=decide_eq_false (by have:=of_decide_eq_false hhs.symm;omega)
   refine sZ 700 ?_;refine nwI (ff2 hszS e40) ?_;refine gwI kF ?_;refine ifI ?_;refine skI ?_;exact ⟨rfl,_,rfl,wkI⟩
  ·have hkl:=of_decide_eq_true hhs.symm
   have e40:decide ((k:Int)<(Sn.length:Int))=true:=decide_eq_true (by omega);have wk:IntKind.i64.wrap ((k:Int)+1)=((k+1:Nat):Int):=wI (by omega) (by omega);have q1':a1p (sb Dn) ⟨#[48]⟩=decide (Dn=[48]):=q1;have q2':a1p (sb Dn) ⟨#[49]⟩=decide (Dn=[49]):=q2;refine sZ 700 ?_;refine nwI (ff2 hszS e40) ?_;refine gwI (ff4 kT wk hszS kN) ?_;simp only [e11];refine gcI kT ?_;cases hp:a1c Dn
   ·rw [hp] at cf2
    refine a0j.same _ cf2 inferInstance ?_;refine gwI kB ?_;refine gwI kT ?_;refine ifI ?_;refine sR 800 ?_;refine rtI ?_;exact a0a (by rw [hchk2 (by simp [hp])];rfl) IsPure.out
   ·rw [hp] at cf2
    have e12:(sb Sn).extract (IntKind.i64.wrap ((k:Int)+1)).toNat (sb Sn).size=sb Dn:=by rw [wk,hszS,Int.toNat_natCast];exact e11
    refine a0j.same _ cf2 inferInstance ?_;refine gwI kB ?_;simp only [e12,q1']
    by_cases h48:Dn=[48]
    ·rw [decide_eq_true h48]
     refine gwI kT ?_;refine ifI ?_;refine sR 800 ?_;refine rtI ?_;exact a0a (by rw [hchk2 (by simp [h48])];rfl) IsPure.out
    ·rw [decide_eq_false h48]
     refine gwI kB ?_;simp only [e12,q2']
     by_cases h49:Dn=[49]
     ·rw [decide_eq_true h49]
      refine ifI ?_;refine sR 800 ?_;refine rtI ?_;exact a0a (by rw [hchk2 (by simp [h49])];rfl) IsPure.out
     ·rw [decide_eq_false h49]
      refine ifI ?_;refine skI ?_;exact ⟨rfl,_,by simp,wkI⟩
 rintro n2 hb2;clear hchk2 cf2 q1 q2 e10 e11 hsz;have hpN:a1c Nn=true:=by
  cases h:a1c Nn
  ·rw [h] at hb1;simp at hb1
  ·rfl
 have hpD:hv=true→a1c Dn=true:=fun h0=>by
  cases h:a1c Dn
  ·rw [h,h0] at hb2;simp at hb2
  ·rfl
 rw [hb1,hb2] at edef;rw [if_neg (by decide)] at edef;have wl1:IntKind.i64.wrap ((Sn.length:Int) - (k:Int))=(Sn.length:Int) - (k:Int):=wI (by omega) (by omega);have wl2:IntKind.i64.wrap ((Sn.length:Int) - (k:Int) - 1)=(Sn.length:Int) - (k:Int) - 1:=wI (by omega) (by omega);have e91:decide ((Sn.length:Int) - (k:Int) - 1>600)=decide (600<Dn.length):=decide_eq_decide.2 (by omega);refine OkS.seqX (α:=Nat) (fun n=>⟨[(3,str (sb Sn)),(4,i64 (k:Int))],[],n⟩) (fun _=>Nn.length≤600∧Dn.length≤600) ?_ ?_
 ·by_cases g1:600<k
  ·have e9:decide ((k:Int)>600)=true:=decide_eq_true (by omega)
   rw [if_pos (.inl (by omega))] at edef;refine sZ 900 ?_;refine nwI e9 ?_;refine gwI kT ?_;refine ifI ?_;refine sR 1000 ?_;refine rtI ?_;exact a0a (by rw [edef];rfl) IsPure.out
  ·have e9:decide ((k:Int)>600)=false:=decide_eq_false (by omega)
   refine sZ 900 ?_;refine nwI e9 ?_;refine gwI (ff5 kF hszS wl1 wl2 e91) ?_
   by_cases g2:600<Dn.length
   ·rw [if_pos (.inr g2)] at edef
    rw [decide_eq_true g2];refine ifI ?_;refine sR 1000 ?_;refine rtI ?_;exact a0a (by rw [edef];rfl) IsPure.out
   ·rw [decide_eq_false g2]
    refine ifI ?_;refine skI ?_;exact ⟨rfl,_,⟨by omega,by omega⟩,wkI⟩
 rintro n3 ⟨g1,g2⟩;rw [if_neg (by omega)] at edef;clear e91 wl1 wl2 hb1 hb2;obtain ⟨-,dN⟩:=a2D hpN;refine OkS.seqX (α:=Nat) (fun n=>⟨[],[],n⟩) (fun _=>Kn=0) ?_ ?_
 ·cases hv
  ·have e40:decide ((k:Int)<(Sn.length:Int))=false:=decide_eq_false (by have:=of_decide_eq_false hhs.symm;omega)
   rw [if_neg (by simp)] at edef;refine sZ 1100 ?_;refine nwI (ff2 hszS e40) ?_;refine ifI ?_;refine skI ?_;exact ⟨rfl,_,edef,wkI⟩
  ·have hkl:=of_decide_eq_true hhs.symm
   have e40:decide ((k:Int)<(Sn.length:Int))=true:=decide_eq_true (by omega);obtain ⟨-,dD⟩:=a2D (hpD rfl);have pa:=pp (by rw [a1F dN];exact dN) (by rw [a1F dD];exact dD);rw [if_pos rfl,a9K dN,a9K dD] at pa;have lN:(a0o (dv Nn)).length<1000000:=Nat.lt_of_le_of_lt (a1o (Nat.lt_of_lt_of_le (a5B Nn dN) (Nat.pow_le_pow_left (by decide) Nn.length))) (by omega);have lD:(a0o (dv Dn)).length<1000000:=Nat.lt_of_le_of_lt (a1o (Nat.lt_of_lt_of_le (a5B Dn dD) (Nat.pow_le_pow_left (by decide) Dn.length))) (by omega);have cg:a0b C0 91 [rD ((dv Nn:Int)).natAbs,rD ((dv Dn:Int)).natAbs] (.sl false 1 ((a0o (Nat.gcd (dv Nn) (dv Dn))).map a0q)):=b5g (dv Nn) (dv Dn) lN lD;have ht:=b5v (Nat.gcd (dv Nn) (dv Dn));have ed1:Nat.gcd (dv Nn) (dv Dn)≠1→Kn=1:=fun h=>by rw [if_pos ⟨rfl,h⟩] at edef;exact edef
   have ed0:Nat.gcd (dv Nn) (dv Dn)=1→Kn=0:=fun h=>by rw [if_neg (fun hh=>hh.2 h)] at edef;exact edef
   clear edef;generalize Nat.gcd (dv Nn) (dv Dn)=gg at *;refine sZ 1100 ?_;refine nwI (ff2 hszS e40) ?_;refine ifI ?_;refine sR 1200 ?_;refine cI pa ?_;refine sR 1300 ?_;refine cI cg ?_;rcases ht with ⟨t1,a,ha,t2⟩|⟨t1,t2⟩
   ·have ha':=a6Y ha
    have t1n:((((a0o gg).map a0q).length:Int) != 1)=false:=by unfold bne;rw [t1];rfl
    have t2n:((a:Int) != 1) = !decide (gg=1):=by unfold bne;rw [t2]
    refine sZ 1400 ?_;refine nwI t1n ?_;refine gwI kF ?_;refine ixI kF ha' ?_;refine gwI (ff2 kF t2n) ?_
    by_cases hg1:gg=1
    ·rw [decide_eq_true hg1]
     refine ifI ?_;refine skI ?_;exact ⟨rfl,_,ed0 hg1,wkI⟩
    ·rw [decide_eq_false hg1]
     refine ifI ?_;refine sR 1500 ?_;refine rtI ?_;exact a0a (by rw [ed1 hg1];rfl) IsPure.out
   ·have edf:=ed1 t2
    have t1n:((((a0o gg).map a0q).length:Int) != 1)=true:=by unfold bne;rw [t1];rfl
    refine sZ 1400 ?_;refine nwI t1n ?_;refine gwI kT ?_;refine ifI ?_;refine sR 1500 ?_;refine rtI ?_;exact a0a (by rw [edf];rfl) IsPure.out
 rintro n4 h0;refine sR 1600 ?_;refine rtI ?_;exact a0a (by rw [h0];rfl) IsPure.out
theorem c2o {n k:Nat}(hn:n≠0)(hk:k<10):Lib.decDigits (n*10+k)=Lib.decDigits n++[UInt8.ofNat (48+k)]:=by
 rw [Lib.decDigits,dif_neg (by omega)]
 congr 2
 ·omega
 ·congr 2;omega
theorem b4V {c:UInt8}(h:a0A c=true):UInt8.ofNat (48+(c.toNat - 48))=c:=by
 obtain ⟨h1,h2⟩:=a2v h;rw [← UInt8.toNat_inj,b0w _ (by omega)];omega
theorem c6x (l:List UInt8)(c:UInt8):dv (l++[c])=dv l*10+(c.toNat - 48):=by
 rw [a4v];simp [dv,dvF]
theorem d0q:∀ (n:Nat) (l:List UInt8),l.length=n→l≠[]→l.all a0A=true→l.head? ≠ some 48→dv l≠0∧Lib.decDigits (dv l)=l:=fun n=>by
 induction n with
 | zero=>intro l h0 h1;exact absurd (List.eq_nil_of_length_eq_zero h0) h1
 | succ n ih =>
  intro l h0 h1 h2 h3;rcases List.eq_nil_or_concat l with rfl|⟨m,c,rfl⟩
  ·exact absurd rfl h1
  ·rw [List.concat_eq_append] at h0 h1 h2 h3 ⊢
   rw [List.all_append,Bool.and_eq_true] at h2;have hc:a0A c=true:=by simpa using h2.2
   obtain ⟨c1,c2⟩:=a2v hc;rw [c6x]
   by_cases hm:m=[]
   ·subst hm
    have hc48:c≠48:=fun h=>h3 (by rw [h];rfl)
    have hcn:c.toNat≠48:=fun h=>hc48 (UInt8.toNat_inj.1 h)
    have e0:dv []*10+(c.toNat - 48)=c.toNat - 48:=by simp [dv,dvF]
    rw [e0];refine ⟨by omega,?_⟩;rw [Lib.decDigits,dif_pos (by omega),b4V hc];rfl
   ·have hh:m.head? ≠ some 48:=by
     cases m with
     | nil=>exact absurd rfl hm
     | cons a m=>exact h3
    obtain ⟨i1,i2⟩:=ih m (by rw [List.length_append,List.length_singleton] at h0;omega) hm h2.1 hh;refine ⟨by omega,?_⟩;rw [c2o i1 (by omega),i2,b4V hc]
theorem a8N {l:List UInt8}(h:a1c l=true):Lib.decDigits (dv l)=l∧(l≠[48]→dv l≠0):=by
 obtain ⟨h1,h2⟩:=a2D h
 by_cases h0:l=[48]
 ·subst h0
  refine ⟨?_,fun hh=>absurd rfl hh⟩;show Lib.decDigits 0=[48];rw [Lib.decDigits,dif_pos (by decide)];rfl
 ·have h3:l.head? ≠ some 48:=by
   unfold a1c at h;rw [Bool.and_eq_true,decide_eq_false h0,Bool.false_or] at h
   have:=h.2
   simpa using this
  obtain ⟨a,b⟩:=d0q _ l rfl h1 h2 h3;exact ⟨b,fun _=>a⟩
theorem b5b:∀ {l:List UInt8},a0d l<l.length→l.drop (a0d l)=47::l.drop (a0d l+1)
 | [],h=>by cases h
 | c::l,h=>by
  by_cases hc:c=47
  ·subst hc;rfl
  ·have e1:a0d (c::l)=a0d l+1:=by
    unfold a0d;rw [List.takeWhile_cons,if_pos (by simpa using hc),List.length_cons]
   rw [e1,List.length_cons] at h;rw [e1,List.drop_succ_cons,List.drop_succ_cons];exact b5b (by omega)
def b5P (l:List UInt8):Nat:=if a4k l then dv (a1z l) else 1
def a0g (l:List UInt8):Rat:=mkRat (rv (a2l l)) (b5P l)
theorem c0I {n:Int}{d:Nat}(hd:d≠0)(h:Nat.gcd n.natAbs d=1):(mkRat n d).num=n∧(mkRat n d).den=d:=by
 obtain ⟨q1,q2⟩:=b1h (x:=n) hd;rw [h,Nat.div_one] at q1 q2;rw [b4R] at q1;exact ⟨q1,q2⟩
theorem b0Y {l:List UInt8}(h:chk l=0):a4I l=false∧(a0Q l).length≤600∧(a1z l).length≤600∧(a4k l=true→Nat.gcd (dv (a0Q l)) (dv (a1z l))=1):=by
 unfold chk at h;cases hb:a4I l
 ·rw [hb,if_neg (by decide)] at h
  split at h
  ·cases h
  ·rename_i h1
   split at h
   ·cases h
   ·rename_i h2
    refine ⟨rfl,by omega,by omega,fun h3=>?_⟩;rcases Nat.decEq (Nat.gcd (dv (a0Q l)) (dv (a1z l))) 1 with h4|h4
    ·exact absurd ⟨h3,h4⟩ h2
    ·exact h4
 ·rw [hb,if_pos rfl] at h;cases h
theorem a3f {l:List UInt8}(h:chk l=0):(a0g l).num=rv (a2l l)∧(a0g l).den=b5P l∧txt (a0g l)=l∧(rv (a2l l)).natAbs=dv (a0Q l):=by
 obtain ⟨h1,h2,h3,h4⟩:=b0Y h;rw [a6y] at h1;simp only [Bool.or_eq_false_iff] at h1;obtain ⟨⟨b1,b2⟩,b3⟩:=h1;have p1:a1c (a0Q l)=true:=by simpa using b1
 obtain ⟨d1,d2⟩:=a8N p1;have hab:(rv (a2l l)).natAbs=dv (a0Q l):=by
  show (rv (a2l l)).natAbs=dv (a0l (a2l l));unfold rv;split<;>omega
 have hdd:a4k l=true→a1c (a1z l)=true∧a1z l≠[48]∧a1z l≠[49]:=fun hs=>by
  rw [hs,Bool.true_and] at b3;simp only [Bool.or_eq_false_iff] at b3;exact ⟨by simpa using b3.1.1,of_decide_eq_false b3.1.2,of_decide_eq_false b3.2⟩
 have hd0:b5P l≠0:=by
  unfold b5P;cases hs:a4k l
  ·simp
  ·obtain ⟨e1,e2,e3⟩:=hdd hs
   simpa using (a8N e1).2 e2
 have hg:Nat.gcd (rv (a2l l)).natAbs (b5P l)=1:=by
  rw [hab];unfold b5P;cases hs:a4k l
  ·simp
  ·simpa using h4 hs
 obtain ⟨m1,m2⟩:=c0I hd0 hg;refine ⟨m1,m2,?_,hab⟩;have hi:Lib.itoa (rv (a2l l))=a2l l:=by
  cases hb:a1T (a2l l)
  ·have e1:a0Q l=a2l l:=by unfold a0Q a0l;rw [hb];rfl
   rw [e1] at d1;have e2:rv (a2l l)=(dv (a2l l):Int):=by unfold rv a0l;rw [hb];rfl
   rw [e2];unfold Lib.itoa;rw [if_neg (by omega)];exact d1
  ·obtain ⟨m,hm⟩:∃ m,a2l l=45::m:=by
    cases hn:a2l l with
    | nil=>rw [hn] at hb;cases hb
    | cons c m =>
     rw [hn] at hb;exact ⟨m,by rw [show c=45 by simpa [a1T] using hb]⟩
   have e1:a0Q l=m:=by unfold a0Q;rw [hm];rfl
   have hne:a0Q l≠[48]:=fun h=>by
    have:=(a6A l).2.2.2
    rw [b2,hm] at this;have h2:=of_decide_eq_false this;rw [e1] at h;exact h2 (by rw [h])
   have hpos:=d2 hne;rw [e1] at d1 hpos;have e2:rv (a2l l) = -(dv m:Int):=by rw [hm];rfl
   rw [e2];unfold Lib.itoa;rw [if_pos (by omega),Int.natAbs_neg,Int.natAbs_natCast,d1,hm]
 unfold txt;rw [show (a0g l).num=rv (a2l l) from m1,show (a0g l).den=b5P l from m2,hi];have hle:=a2b l;cases hs:a4k l
 ·have e1:b5P l=1:=by unfold b5P;rw [hs];rfl
  have e2:=of_decide_eq_false (p:=a0d l<l.length) hs;rw [if_pos e1];unfold a2l;exact List.take_of_length_le (by omega)
 ·obtain ⟨e1,e2,e3⟩:=hdd hs
  have e4:b5P l=dv (a1z l):=by unfold b5P;rw [hs];rfl
  have e5:=(a8N e1).1;have e6:dv (a1z l)≠1:=fun h=>by
   rw [h,Lib.decDigits,dif_pos (by decide)] at e5;exact e3 e5.symm
  rw [e4,if_neg e6,e5];unfold a2l a1z;rw [← b5b (of_decide_eq_true hs),List.take_append_drop]
theorem a4g {l:List UInt8}(h:chk l=0):(a0Q l).all a0A=true∧(a4k l=true→(a1z l).all a0A=true):=by
 obtain ⟨h1,-,-,-⟩:=b0Y h;rw [a6y] at h1;simp only [Bool.or_eq_false_iff] at h1;obtain ⟨⟨b1,-⟩,b3⟩:=h1;refine ⟨(a2D (by simpa using b1)).2,fun hs=>?_⟩;rw [hs,Bool.true_and] at b3;simp only [Bool.or_eq_false_iff] at b3;exact (a2D (by simpa using b3.1.1)).2
theorem a7m {l:List UInt8}(h:chk l=0):rk (a0g l) 600:=by
 obtain ⟨m1,m2,-,m4⟩:=a3f h;obtain ⟨-,h2,h3,-⟩:=b0Y h;obtain ⟨p1,p2⟩:=a4g h;have hb:∀ k,(10:Nat)^k≤BB^k:=fun k=>Nat.pow_le_pow_left (by decide) k
 refine ⟨?_,?_⟩
 ·rw [m1,m4]
  exact Nat.le_trans (a0M (Nat.lt_of_lt_of_le (a5B _ p1) (hb _))) h2
 ·rw [m2]
  unfold b5P;cases hs:a4k l
  ·exact Nat.le_trans (a0M (n:=1) (k:=1) (by decide)) (by decide)
  ·exact Nat.le_trans (a0M (Nat.lt_of_lt_of_le (a5B _ (p2 hs)) (hb _))) h3
theorem a9x {l:List UInt8}(h:chk l=0):FR (a0g l) (a1E l) 600:=by
 obtain ⟨m1,m2,-,-⟩:=a3f h;refine ⟨⟨a0G _,?_,?_⟩,a7m h⟩
 ·show (mkG (rv (a2l l))).z=_
  rw [a2p,m1]
 ·show (if a4k l then dv (a1z l) else 1)=_
  rw [m2];rfl
theorem a7f {l:List UInt8}(hl:l.length≤100000)(h:chk l=0):a0b C0 70 [str (sb l)] (a1E l).D:=c5T l hl (a4g h).1 (a4g h).2
def a1J:List (List UInt8)→Nat
 | []=>0
 | l::r=>if chk l≠0 then chk l else a1J r
theorem a3Z {v:List (List UInt8)}{i:Nat}(h:∀ (j:Nat) (l:List UInt8),j<i→v[j]? = some l→chk l=0):a1J v=a1J (v.drop i):=by
 induction i generalizing v with
 | zero=>rfl
 | succ i ih =>
  cases v with
  | nil=>rfl
  | cons l r =>
   have h0:=h 0 l (Nat.succ_pos i) rfl;rw [List.drop_succ_cons];show (if chk l≠0 then chk l else a1J r)=_;rw [if_neg (fun hh=>hh h0)];exact ih fun j m hj hm=>h (j+1) m (by omega) hm
theorem d5y (v:List (List UInt8))(hv:∀ l∈v,l.length≤100000)(hl:v.length≤1000000):a0b C0 31 [.sl false 1 (v.map fun l=>str (sb l))] (i64 (a1J v)):=by
 refine a0c.walk w1 d3l rfl fun F=>?_
 have el:(((v.map fun l=>str (sb l)).length:Nat):Int)=(v.length:Int):=by rw [List.length_map]
 refine sR 0 ?_;refine OkS.seq ?_;refine sR 100 ?_;refine OkS.block ?_;refine OkS.loop (α:=Nat × Nat) (fun p=>⟨[(0,.sl false 1 (v.map fun l=>str (sb l))),(3,i64 (p.1:Int))],[],p.2⟩) (fun p=>v.length - p.1) (fun p=>p.1≤v.length∧∀ (j:Nat) (l:List UInt8),j<p.1→v[j]? = some l→chk l=0) (0,_) ⟨Nat.zero_le _,fun j l hj=>absurd hj (Nat.not_lt_zero j)⟩ wkI ?_;rintro ⟨i,n⟩ F ⟨hi,ha⟩;dsimp only at hi ha ⊢;refine OkS.seq ?_;refine sZ 200 ?_;refine nwI el ?_;refine ifI ?_
 (refine brI (fun hlt=>?_) (fun hlt=>?_))<;>(try simp only [Bool.not_eq_true',Bool.not_eq_false'] at hlt)<;>(try simp only [hlt])
 ·have hi2:i<v.length:=by
   have:=of_decide_eq_true hlt
   omega
  obtain ⟨l,hl'⟩:∃ l,v[i]? = some l:=⟨v[i],List.getElem?_eq_getElem hi2⟩
  have hm:(v.map fun l=>str (sb l))[i]? = some (str (sb l)):=by rw [List.getElem?_map,hl'];rfl
  have cl:=a9B l (hv l (List.mem_of_getElem? hl'));have hd:a1J v=a1J (v.drop i):=a3Z ha;have hdd:v.drop i=l::v.drop (i+1):=by
   rw [List.drop_eq_getElem_cons hi2];rw [List.getElem?_eq_getElem hi2] at hl';rw [Option.some.inj hl']
  have wi:IntKind.i64.wrap ((i:Int)+1)=((i+1:Nat):Int):=wI (by omega) (by omega);refine skI ?_;refine OkS.seq ?_;refine OkS.block ?_;refine sZ 400 ?_;refine gwI kN ?_;refine ixI kT hm ?_;refine gwI kN ?_;refine a0j.same _ cl inferInstance ?_;refine stI ?_
  by_cases g:chk l=0
  ·have e5:(((chk l:Nat):Int) != 0)=false:=by rw [g];rfl
   refine sZ 500 ?_;refine nwI e5 ?_;refine ifI ?_;refine skI ?_;refine OkS.reg w1 300 (by kernel_rfl) ?_;refine nwI wi ?_;refine ⟨(i+1,_),⟨hi2,fun j m hj hjm=>?_⟩,by dsimp only;omega,wkI⟩;rcases Nat.lt_or_ge j i with h|h
   ·exact ha j m h hjm
   ·have:j=i:=by dsimp only at hj;omega
    subst this;rw [hl'] at hjm;cases hjm;exact g
  ·have e5:(((chk l:Nat):Int) != 0)=true:=by
    have:(((chk l:Nat):Int)==0)=false:=beq_eq_false_iff_ne.2 (by omega)
    unfold bne;rw [this];rfl
   refine sZ 500 ?_;refine nwI e5 ?_;refine ifI ?_;refine sR 600 ?_;refine rtI ?_;refine a0a ?_ IsPure.out;rw [hd,hdd];show _=i64 ((if chk l≠0 then chk l else a1J (v.drop (i+1)):Nat):Int);rw [if_pos g]
 ·have hi2:i=v.length:=by
   have:=of_decide_eq_false hlt
   omega
  subst hi2;refine exI ?_;refine sR 700 ?_;refine rtI ?_;refine a0a ?_ IsPure.out;rw [a3Z ha,List.drop_of_length_le (Nat.le_refl _)];rfl
theorem c0e (c:Nat):(97≤c∧c≤122)∨(122<c)∨(65≤c∧c≤90)∨((91≤c∧c≤96)∧c≠95)∨(c=95)∨(58≤c∧c≤64)∨(48≤c∧c≤57)∨(c<48∧c≠45∧c≠46)∨(c=45)∨(c=46):=by omega
theorem c9d (l:List UInt8)(hl:l.length≤1000000):a0b C0 141 [str (sb l)] (boo (a1l l)):=by
 refine a0c.walk w1 d1E rfl fun F=>?_
 have hsz:=a0t l;refine sR 0 ?_;refine OkS.seqX (α:=Nat) (fun n=>⟨[(0,str (sb l))],[],n⟩) (fun _=>1≤l.length∧l.length≤24) ?_ ?_
 ·by_cases h1:l.length<1
  ·have e1:decide ((l.length:Int)<1)=true:=decide_eq_true (by omega)
   refine sZ 100 ?_;refine nwI (ff2 hsz e1) ?_;refine gwI kT ?_;refine ifI ?_;refine sR 200 ?_;refine rtI ?_;exact a0a (by unfold a1l;rw [decide_eq_false (show ¬ 1≤l.length by omega)];simp) IsPure.out
  ·have e1:decide ((l.length:Int)<1)=false:=decide_eq_false (by omega)
   have e2:decide ((l.length:Int)>24)=decide (24<l.length):=decide_eq_decide.2 (by omega);refine sZ 100 ?_;refine nwI (ff2 hsz e1) ?_;refine gwI (ff3 kF hsz e2) ?_
   by_cases h2:24<l.length
   ·rw [decide_eq_true h2]
    refine ifI ?_;refine sR 200 ?_;refine rtI ?_;exact a0a (by unfold a1l;rw [decide_eq_false (show ¬ l.length≤24 by omega)];simp) IsPure.out
   ·rw [decide_eq_false h2]
    refine ifI ?_;refine skI ?_;exact ⟨rfl,_,⟨by omega,by omega⟩,wkI⟩
 rintro n0 ⟨l1,l2⟩;refine OkS.seq ?_;refine sR 300 ?_;refine OkS.block ?_;refine OkS.loop (α:=Nat × Nat) (fun p=>⟨[(0,str (sb l)),(3,i64 (p.1:Int))],[],p.2⟩) (fun p=>l.length - p.1) (fun p=>p.1≤l.length∧(l.take p.1).all (fun b=>a1w b.toNat)=true) (0,_) ⟨Nat.zero_le _,rfl⟩ wkI ?_;rintro ⟨i,n⟩ F ⟨hi,ha⟩;dsimp only at hi ha ⊢;refine OkS.seq ?_;refine sZ 400 ?_;refine nwI hsz ?_;refine ifI ?_
 (refine brI (fun hlt=>?_) (fun hlt=>?_))<;>(try simp only [Bool.not_eq_true',Bool.not_eq_false'] at hlt)<;>(try simp only [hlt])
 ·have hi2:i<l.length:=by
   have:=of_decide_eq_true hlt
   omega
  obtain ⟨c,hc⟩:∃ c,l[i]? = some c:=⟨l[i],List.getElem?_eq_getElem hi2⟩
  have hg:l.getD i 0=c:=by simp [hc]
  have wi:IntKind.i64.wrap ((i:Int)+1)=((i+1:Nat):Int):=wI (by omega) (by omega);refine skI ?_;refine OkS.seq ?_;refine OkS.block ?_;refine sZ 600 ?_;refine nwI (ff2 kN hg) ?_;have hcl:a1w c.toNat=false→a1l l=false:=fun h=>by
   unfold a1l;cases hall:l.all (fun b=>a1w b.toNat)
   ·rfl
   ·have:=List.all_eq_true.1 hall c (List.mem_of_getElem? hc)
    rw [h] at this;cases this
  have hsn:a1w c.toNat=true→(l.take (i+1)).all (fun b=>a1w b.toNat)=true:=fun h=>by
   rw [List.take_add_one,hc,List.all_append,ha];simpa using h
  have hc9:c.toNat<256:=c.toNat_lt;generalize c.toNat=c at *;refine OkS.seqX (α:=Nat) (fun n=>⟨[(0,str (sb l)),(3,i64 (i:Int)),(56,boo (!a1w c))],[],n⟩) (fun _=>True) ?_ ?_
  ·clear hcl hsn
   rcases c0e c with h|h|h|h|h|h|h|h|h|h
   ·skip
    have f1:decide ((c:Int)≥97)=true:=decide_eq_true (by omega);have f2:decide ((c:Int)≤122)=true:=decide_eq_true (by omega);have f3:decide ((c:Int)≥65)=true:=decide_eq_true (by omega);have f4:decide ((c:Int)≤90)=false:=decide_eq_false (by omega);have f5:decide ((c:Int)≥48)=true:=decide_eq_true (by omega);have f6:decide ((c:Int)≤57)=false:=decide_eq_false (by omega);have f7:((c:Int)==45)=false:=beq_eq_false_iff_ne.2 (by omega);have f8:((c:Int)==95)=false:=beq_eq_false_iff_ne.2 (by omega);have f9:((c:Int)==46)=false:=beq_eq_false_iff_ne.2 (by omega);have hnb:a1w c=true:=by
     unfold a1w;simp;omega
    rw [hnb];refine OkS.reg w1 700 (by kernel_rfl) ?_;refine gwI kB ?_
    try simp only [f1,f2,f3,f4,f5,f6,f7,f8,f9]
    refine gwI kB ?_
    try simp only [f1,f2,f3,f4,f5,f6,f7,f8,f9]
    refine gwI kB ?_
    try simp only [f1,f2,f3,f4,f5,f6,f7,f8,f9]
    refine gwI kB ?_
    try simp only [f1,f2,f3,f4,f5,f6,f7,f8,f9]
    refine gwI kB ?_
    try simp only [f1,f2,f3,f4,f5,f6,f7,f8,f9]
    refine gwI kB ?_
    try simp only [f1,f2,f3,f4,f5,f6,f7,f8,f9]
    refine gwI kB ?_
    try simp only [f1,f2,f3,f4,f5,f6,f7,f8,f9]
    refine gwI kB ?_
    try simp only [f1,f2,f3,f4,f5,f6,f7,f8,f9]
    refine gwI kB ?_
    try simp only [f1,f2,f3,f4,f5,f6,f7,f8,f9]
    exact ⟨by first|exact trivial|rfl|simp,_,trivial,wkI⟩
   ·skip
    have f1:decide ((c:Int)≥97)=true:=decide_eq_true (by omega);have f2:decide ((c:Int)≤122)=false:=decide_eq_false (by omega);have f3:decide ((c:Int)≥65)=true:=decide_eq_true (by omega);have f4:decide ((c:Int)≤90)=false:=decide_eq_false (by omega);have f5:decide ((c:Int)≥48)=true:=decide_eq_true (by omega);have f6:decide ((c:Int)≤57)=false:=decide_eq_false (by omega);have f7:((c:Int)==45)=false:=beq_eq_false_iff_ne.2 (by omega);have f8:((c:Int)==95)=false:=beq_eq_false_iff_ne.2 (by omega);have f9:((c:Int)==46)=false:=beq_eq_false_iff_ne.2 (by omega);have hnb:a1w c=false:=by
     unfold a1w;simp;omega
    rw [hnb];refine OkS.reg w1 700 (by kernel_rfl) ?_;refine gwI kB ?_
    try simp only [f1,f2,f3,f4,f5,f6,f7,f8,f9]
    refine gwI kB ?_
    try simp only [f1,f2,f3,f4,f5,f6,f7,f8,f9]
    refine gwI kB ?_
    try simp only [f1,f2,f3,f4,f5,f6,f7,f8,f9]
    refine gwI kB ?_
    try simp only [f1,f2,f3,f4,f5,f6,f7,f8,f9]
    refine gwI kB ?_
    try simp only [f1,f2,f3,f4,f5,f6,f7,f8,f9]
    refine gwI kB ?_
    try simp only [f1,f2,f3,f4,f5,f6,f7,f8,f9]
    refine gwI kB ?_
    try simp only [f1,f2,f3,f4,f5,f6,f7,f8,f9]
    refine gwI kB ?_
    try simp only [f1,f2,f3,f4,f5,f6,f7,f8,f9]
    refine gwI kB ?_
    try simp only [f1,f2,f3,f4,f5,f6,f7,f8,f9]
    exact ⟨by first|exact trivial|rfl|simp,_,trivial,wkI⟩
   ·skip
    have f1:decide ((c:Int)≥97)=false:=decide_eq_false (by omega);have f2:decide ((c:Int)≤122)=true:=decide_eq_true (by omega);have f3:decide ((c:Int)≥65)=true:=decide_eq_true (by omega);have f4:decide ((c:Int)≤90)=true:=decide_eq_true (by omega);have f5:decide ((c:Int)≥48)=true:=decide_eq_true (by omega);have f6:decide ((c:Int)≤57)=false:=decide_eq_false (by omega);have f7:((c:Int)==45)=false:=beq_eq_false_iff_ne.2 (by omega);have f8:((c:Int)==95)=false:=beq_eq_false_iff_ne.2 (by omega);have f9:((c:Int)==46)=false:=beq_eq_false_iff_ne.2 (by omega);have hnb:a1w c=true:=by
     unfold a1w;simp;omega
    rw [hnb];refine OkS.reg w1 700 (by kernel_rfl) ?_;refine gwI kB ?_
    try simp only [f1,f2,f3,f4,f5,f6,f7,f8,f9]
    refine gwI kB ?_
    try simp only [f1,f2,f3,f4,f5,f6,f7,f8,f9]
    refine gwI kB ?_
    try simp only [f1,f2,f3,f4,f5,f6,f7,f8,f9]
    refine gwI kB ?_
    try simp only [f1,f2,f3,f4,f5,f6,f7,f8,f9]
    refine gwI kB ?_
    try simp only [f1,f2,f3,f4,f5,f6,f7,f8,f9]
    refine gwI kB ?_
    try simp only [f1,f2,f3,f4,f5,f6,f7,f8,f9]
    refine gwI kB ?_
    try simp only [f1,f2,f3,f4,f5,f6,f7,f8,f9]
    refine gwI kB ?_
    try simp only [f1,f2,f3,f4,f5,f6,f7,f8,f9]
    refine gwI kB ?_
    try simp only [f1,f2,f3,f4,f5,f6,f7,f8,f9]
    exact ⟨by first|exact trivial|rfl|simp,_,trivial,wkI⟩
   ·skip
    have f1:decide ((c:Int)≥97)=false:=decide_eq_false (by omega);have f2:decide ((c:Int)≤122)=true:=decide_eq_true (by omega);have f3:decide ((c:Int)≥65)=true:=decide_eq_true (by omega);have f4:decide ((c:Int)≤90)=false:=decide_eq_false (by omega);have f5:decide ((c:Int)≥48)=true:=decide_eq_true (by omega);have f6:decide ((c:Int)≤57)=false:=decide_eq_false (by omega);have f7:((c:Int)==45)=false:=beq_eq_false_iff_ne.2 (by omega);have f8:((c:Int)==95)=false:=beq_eq_false_iff_ne.2 (by omega);have f9:((c:Int)==46)=false:=beq_eq_false_iff_ne.2 (by omega);have hnb:a1w c=false:=by
     unfold a1w;simp;omega
    rw [hnb];refine OkS.reg w1 700 (by kernel_rfl) ?_;refine gwI kB ?_
    try simp only [f1,f2,f3,f4,f5,f6,f7,f8,f9]
    refine gwI kB ?_
    try simp only [f1,f2,f3,f4,f5,f6,f7,f8,f9]
    refine gwI kB ?_
    try simp only [f1,f2,f3,f4,f5,f6,f7,f8,f9]
    refine gwI kB ?_
    try simp only [f1,f2,f3,f4,f5,f6,f7,f8,f9]
    refine gwI kB ?_
    try simp only [f1,f2,f3,f4,f5,f6,f7,f8,f9]
    refine gwI kB ?_
    try simp only [f1,f2,f3,f4,f5,f6,f7,f8,f9]
    refine gwI kB ?_
    try simp only [f1,f2,f3,f4,f5,f6,f7,f8,f9]
    refine gwI kB ?_
    try simp only [f1,f2,f3,f4,f5,f6,f7,f8,f9]
    refine gwI kB ?_
    try simp only [f1,f2,f3,f4,f5,f6,f7,f8,f9]
    exact ⟨by first|exact trivial|rfl|simp,_,trivial,wkI⟩
   ·skip
    have f1:decide ((c:Int)≥97)=false:=decide_eq_false (by omega);have f2:decide ((c:Int)≤122)=true:=decide_eq_true (by omega);have f3:decide ((c:Int)≥65)=true:=decide_eq_true (by omega);have f4:decide ((c:Int)≤90)=false:=decide_eq_false (by omega);have f5:decide ((c:Int)≥48)=true:=decide_eq_true (by omega);have f6:decide ((c:Int)≤57)=false:=decide_eq_false (by omega);have f7:((c:Int)==45)=false:=beq_eq_false_iff_ne.2 (by omega);have f8:((c:Int)==95)=true:=beq_iff_eq.2 (by omega);have f9:((c:Int)==46)=false:=beq_eq_false_iff_ne.2 (by omega);have hnb:a1w c=true:=by
     unfold a1w;simp;omega
    rw [hnb];refine OkS.reg w1 700 (by kernel_rfl) ?_;refine gwI kB ?_
    try simp only [f1,f2,f3,f4,f5,f6,f7,f8,f9]
    refine gwI kB ?_
    try simp only [f1,f2,f3,f4,f5,f6,f7,f8,f9]
    refine gwI kB ?_
    try simp only [f1,f2,f3,f4,f5,f6,f7,f8,f9]
    refine gwI kB ?_
    try simp only [f1,f2,f3,f4,f5,f6,f7,f8,f9]
    refine gwI kB ?_
    try simp only [f1,f2,f3,f4,f5,f6,f7,f8,f9]
    refine gwI kB ?_
    try simp only [f1,f2,f3,f4,f5,f6,f7,f8,f9]
    refine gwI kB ?_
    try simp only [f1,f2,f3,f4,f5,f6,f7,f8,f9]
    refine gwI kB ?_
    try simp only [f1,f2,f3,f4,f5,f6,f7,f8,f9]
    refine gwI kB ?_
    try simp only [f1,f2,f3,f4,f5,f6,f7,f8,f9]
    exact ⟨by first|exact trivial|rfl|simp,_,trivial,wkI⟩
   ·skip
    have f1:decide ((c:Int)≥97)=false:=decide_eq_false (by omega);have f2:decide ((c:Int)≤122)=true:=decide_eq_true (by omega);have f3:decide ((c:Int)≥65)=false:=decide_eq_false (by omega);have f4:decide ((c:Int)≤90)=true:=decide_eq_true (by omega);have f5:decide ((c:Int)≥48)=true:=decide_eq_true (by omega);have f6:decide ((c:Int)≤57)=false:=decide_eq_false (by omega);have f7:((c:Int)==45)=false:=beq_eq_false_iff_ne.2 (by omega);have f8:((c:Int)==95)=false:=beq_eq_false_iff_ne.2 (by omega);have f9:((c:Int)==46)=false:=beq_eq_false_iff_ne.2 (by omega);have hnb:a1w c=false:=by
     unfold a1w;simp;omega
    rw [hnb];refine OkS.reg w1 700 (by kernel_rfl) ?_;refine gwI kB ?_
    try simp only [f1,f2,f3,f4,f5,f6,f7,f8,f9]
    refine gwI kB ?_
    try simp only [f1,f2,f3,f4,f5,f6,f7,f8,f9]
    refine gwI kB ?_
    try simp only [f1,f2,f3,f4,f5,f6,f7,f8,f9]
    refine gwI kB ?_
    try simp only [f1,f2,f3,f4,f5,f6,f7,f8,f9]
    refine gwI kB ?_
    try simp only [f1,f2,f3,f4,f5,f6,f7,f8,f9]
    refine gwI kB ?_
    try simp only [f1,f2,f3,f4,f5,f6,f7,f8,f9]
    refine gwI kB ?_
    try simp only [f1,f2,f3,f4,f5,f6,f7,f8,f9]
    refine gwI kB ?_
    try simp only [f1,f2,f3,f4,f5,f6,f7,f8,f9]
    refine gwI kB ?_
    try simp only [f1,f2,f3,f4,f5,f6,f7,f8,f9]
    exact ⟨by first|exact trivial|rfl|simp,_,trivial,wkI⟩
   ·skip
    have f1:decide ((c:Int)≥97)=false:=decide_eq_false (by omega);have f2:decide ((c:Int)≤122)=true:=decide_eq_true (by omega);have f3:decide ((c:Int)≥65)=false:=decide_eq_false (by omega);have f4:decide ((c:Int)≤90)=true:=decide_eq_true (by omega);have f5:decide ((c:Int)≥48)=true:=decide_eq_true (by omega);have f6:decide ((c:Int)≤57)=true:=decide_eq_true (by omega);have f7:((c:Int)==45)=false:=beq_eq_false_iff_ne.2 (by omega);have f8:((c:Int)==95)=false:=beq_eq_false_iff_ne.2 (by omega);have f9:((c:Int)==46)=false:=beq_eq_false_iff_ne.2 (by omega);have hnb:a1w c=true:=by
     unfold a1w;simp;omega
    rw [hnb];refine OkS.reg w1 700 (by kernel_rfl) ?_;refine gwI kB ?_
    try simp only [f1,f2,f3,f4,f5,f6,f7,f8,f9]
    refine gwI kB ?_
    try simp only [f1,f2,f3,f4,f5,f6,f7,f8,f9]
    refine gwI kB ?_
    try simp only [f1,f2,f3,f4,f5,f6,f7,f8,f9]
    refine gwI kB ?_
    try simp only [f1,f2,f3,f4,f5,f6,f7,f8,f9]
    refine gwI kB ?_
    try simp only [f1,f2,f3,f4,f5,f6,f7,f8,f9]
    refine gwI kB ?_
    try simp only [f1,f2,f3,f4,f5,f6,f7,f8,f9]
    refine gwI kB ?_
    try simp only [f1,f2,f3,f4,f5,f6,f7,f8,f9]
    refine gwI kB ?_
    try simp only [f1,f2,f3,f4,f5,f6,f7,f8,f9]
    refine gwI kB ?_
    try simp only [f1,f2,f3,f4,f5,f6,f7,f8,f9]
    exact ⟨by first|exact trivial|rfl|simp,_,trivial,wkI⟩
   ·skip
    have f1:decide ((c:Int)≥97)=false:=decide_eq_false (by omega);have f2:decide ((c:Int)≤122)=true:=decide_eq_true (by omega);have f3:decide ((c:Int)≥65)=false:=decide_eq_false (by omega);have f4:decide ((c:Int)≤90)=true:=decide_eq_true (by omega);have f5:decide ((c:Int)≥48)=false:=decide_eq_false (by omega);have f6:decide ((c:Int)≤57)=true:=decide_eq_true (by omega);have f7:((c:Int)==45)=false:=beq_eq_false_iff_ne.2 (by omega);have f8:((c:Int)==95)=false:=beq_eq_false_iff_ne.2 (by omega);have f9:((c:Int)==46)=false:=beq_eq_false_iff_ne.2 (by omega);have hnb:a1w c=false:=by
     unfold a1w;simp;omega
    rw [hnb];refine OkS.reg w1 700 (by kernel_rfl) ?_;refine gwI kB ?_
    try simp only [f1,f2,f3,f4,f5,f6,f7,f8,f9]
    refine gwI kB ?_
    try simp only [f1,f2,f3,f4,f5,f6,f7,f8,f9]
    refine gwI kB ?_
    try simp only [f1,f2,f3,f4,f5,f6,f7,f8,f9]
    refine gwI kB ?_
    try simp only [f1,f2,f3,f4,f5,f6,f7,f8,f9]
    refine gwI kB ?_
    try simp only [f1,f2,f3,f4,f5,f6,f7,f8,f9]
    refine gwI kB ?_
    try simp only [f1,f2,f3,f4,f5,f6,f7,f8,f9]
    refine gwI kB ?_
    try simp only [f1,f2,f3,f4,f5,f6,f7,f8,f9]
    refine gwI kB ?_
    try simp only [f1,f2,f3,f4,f5,f6,f7,f8,f9]
    refine gwI kB ?_
    try simp only [f1,f2,f3,f4,f5,f6,f7,f8,f9]
    exact ⟨by first|exact trivial|rfl|simp,_,trivial,wkI⟩
   ·skip
    have f1:decide ((c:Int)≥97)=false:=decide_eq_false (by omega);have f2:decide ((c:Int)≤122)=true:=decide_eq_true (by omega);have f3:decide ((c:Int)≥65)=false:=decide_eq_false (by omega);have f4:decide ((c:Int)≤90)=true:=decide_eq_true (by omega);have f5:decide ((c:Int)≥48)=false:=decide_eq_false (by omega);have f6:decide ((c:Int)≤57)=true:=decide_eq_true (by omega);have f7:((c:Int)==45)=true:=beq_iff_eq.2 (by omega);have f8:((c:Int)==95)=false:=beq_eq_false_iff_ne.2 (by omega);have f9:((c:Int)==46)=false:=beq_eq_false_iff_ne.2 (by omega);have hnb:a1w c=true:=by
     unfold a1w;simp;omega
    rw [hnb];refine OkS.reg w1 700 (by kernel_rfl) ?_;refine gwI kB ?_
    try simp only [f1,f2,f3,f4,f5,f6,f7,f8,f9]
    refine gwI kB ?_
    try simp only [f1,f2,f3,f4,f5,f6,f7,f8,f9]
    refine gwI kB ?_
    try simp only [f1,f2,f3,f4,f5,f6,f7,f8,f9]
    refine gwI kB ?_
    try simp only [f1,f2,f3,f4,f5,f6,f7,f8,f9]
    refine gwI kB ?_
    try simp only [f1,f2,f3,f4,f5,f6,f7,f8,f9]
    refine gwI kB ?_
    try simp only [f1,f2,f3,f4,f5,f6,f7,f8,f9]
    refine gwI kB ?_
    try simp only [f1,f2,f3,f4,f5,f6,f7,f8,f9]
    refine gwI kB ?_
    try simp only [f1,f2,f3,f4,f5,f6,f7,f8,f9]
    refine gwI kB ?_
    try simp only [f1,f2,f3,f4,f5,f6,f7,f8,f9]
    exact ⟨by first|exact trivial|rfl|simp,_,trivial,wkI⟩
   ·skip
    have f1:decide ((c:Int)≥97)=false:=decide_eq_false (by omega);have f2:decide ((c:Int)≤122)=true:=decide_eq_true (by omega);have f3:decide ((c:Int)≥65)=false:=decide_eq_false (by omega);have f4:decide ((c:Int)≤90)=true:=decide_eq_true (by omega);have f5:decide ((c:Int)≥48)=false:=decide_eq_false (by omega);have f6:decide ((c:Int)≤57)=true:=decide_eq_true (by omega);have f7:((c:Int)==45)=false:=beq_eq_false_iff_ne.2 (by omega);have f8:((c:Int)==95)=false:=beq_eq_false_iff_ne.2 (by omega);have f9:((c:Int)==46)=true:=beq_iff_eq.2 (by omega);have hnb:a1w c=true:=by
     unfold a1w;simp;omega
    rw [hnb];refine OkS.reg w1 700 (by kernel_rfl) ?_;refine gwI kB ?_
    try simp only [f1,f2,f3,f4,f5,f6,f7,f8,f9]
    refine gwI kB ?_
    try simp only [f1,f2,f3,f4,f5,f6,f7,f8,f9]
    refine gwI kB ?_
    try simp only [f1,f2,f3,f4,f5,f6,f7,f8,f9]
    refine gwI kB ?_
    try simp only [f1,f2,f3,f4,f5,f6,f7,f8,f9]
    refine gwI kB ?_
    try simp only [f1,f2,f3,f4,f5,f6,f7,f8,f9]
    refine gwI kB ?_
    try simp only [f1,f2,f3,f4,f5,f6,f7,f8,f9]
    refine gwI kB ?_
    try simp only [f1,f2,f3,f4,f5,f6,f7,f8,f9]
    refine gwI kB ?_
    try simp only [f1,f2,f3,f4,f5,f6,f7,f8,f9]
    refine gwI kB ?_
    try simp only [f1,f2,f3,f4,f5,f6,f7,f8,f9]
    exact ⟨by first|exact trivial|rfl|simp,_,trivial,wkI⟩
  rintro n1 -;cases hb:a1w c
  ·refine ifI ?_
   refine sR 800 ?_;refine rtI ?_;exact a0a (by rw [hcl hb]) IsPure.out
  ·refine ifI ?_
   refine skI ?_;refine OkS.reg w1 500 (by kernel_rfl) ?_;refine nwI wi ?_;exact ⟨(i+1,_),⟨hi2,hsn hb⟩,by dsimp only;omega,wkI⟩
 ·have hi2:i=l.length:=by
   have:=of_decide_eq_false hlt
   omega
  subst hi2;rw [List.take_of_length_le (Nat.le_refl _)] at ha;refine exI ?_;refine sR 900 ?_;refine rtI ?_;exact a0a (by unfold a1l;rw [ha,decide_eq_true l1,decide_eq_true l2];rfl) IsPure.out
def a2d:List Int→Int
 | []=>0
 | e::r=>if e≠0 then e else a2d r
theorem a8Q {v:List Int}{i:Nat}(h:∀ (j:Nat) (e:Int),j<i→v[j]? = some e→e=0):a2d v=a2d (v.drop i):=by
 induction i generalizing v with
 | zero=>rfl
 | succ i ih =>
  cases v with
  | nil=>rfl
  | cons l r =>
   have h0:=h 0 l (Nat.succ_pos i) rfl;rw [List.drop_succ_cons];show (if l≠0 then l else a2d r)=_;rw [if_neg (fun hh=>hh h0)];exact ih fun j m hj hm=>h (j+1) m (by omega) hm
theorem a3D {a:Int}(h:a≠0):(a != 0)=true:=by
 have:(a==0)=false:=beq_eq_false_iff_ne.2 h
 unfold bne;rw [this];rfl
theorem a8w (v:List Int)(hl:v.length≤1000):a0b C0 96 [.sl true 1 (v.map fun e=>i64 e)] (i64 (a2d v)):=by
 refine a0c.walk w1 d1B rfl fun F=>?_
 have el:(((v.map fun e=>i64 e).length:Nat):Int)=(v.length:Int):=by rw [List.length_map]
 refine sR 0 ?_;refine OkS.seq ?_;refine sZ 100 ?_;refine nwI el ?_;refine OkS.block ?_;refine OkS.loop (α:=Nat × Nat) (fun p=>⟨[(5,.sl true 1 (v.map fun e=>i64 e)),(6,i64 v.length),(7,i64 (p.1:Int))],[],p.2⟩) (fun p=>v.length - p.1) (fun p=>p.1≤v.length∧∀ (j:Nat) (e:Int),j<p.1→v[j]? = some e→e=0) (0,_) ⟨Nat.zero_le _,fun j l hj=>absurd hj (Nat.not_lt_zero j)⟩ wkI ?_;rintro ⟨i,n⟩ F ⟨hi,ha⟩;dsimp only at hi ha ⊢;refine sR 200 ?_;refine OkS.seq ?_;refine ifI ?_
 (refine brI (fun hlt=>?_) (fun hlt=>?_))<;>(try simp only [Bool.not_eq_true',Bool.not_eq_false'] at hlt)<;>(try simp only [hlt])
 ·have hi2:i<v.length:=by
   have:=of_decide_eq_true hlt
   omega
  obtain ⟨l,hl'⟩:∃ l,v[i]? = some l:=⟨v[i],List.getElem?_eq_getElem hi2⟩
  have hm:(v.map fun e=>i64 e)[i]? = some (i64 l):=by rw [List.getElem?_map,hl'];rfl
  have hd:a2d v=a2d (v.drop i):=a8Q ha;have hdd:v.drop i=l::v.drop (i+1):=by
   rw [List.drop_eq_getElem_cons hi2];rw [List.getElem?_eq_getElem hi2] at hl';rw [Option.some.inj hl']
  have wi:IntKind.i64.wrap ((i:Int)+1)=((i+1:Nat):Int):=wI (by omega) (by omega);refine skI ?_;refine OkS.seq ?_;refine OkS.block ?_;refine sZ 300 ?_;refine gwI kN ?_;refine ixI kT hm ?_;refine gwI kN ?_
  by_cases g:l=0
  ·have e5:(l != 0)=false:=by rw [g];rfl
   refine sZ 400 ?_;refine nwI e5 ?_;refine ifI ?_;refine skI ?_;refine OkS.reg w1 600 (by kernel_rfl) ?_;refine nwI wi ?_;refine ⟨(i+1,_),⟨hi2,fun j m hj hjm=>?_⟩,by dsimp only;omega,wkI⟩;rcases Nat.lt_or_ge j i with h|h
   ·exact ha j m h hjm
   ·have:j=i:=by dsimp only at hj;omega
    subst this;rw [hl'] at hjm;cases hjm;exact g
  ·have e5:(l != 0)=true:=a3D g
   refine sZ 400 ?_;refine nwI e5 ?_;refine ifI ?_;refine sR 500 ?_;refine rtI ?_;refine a0a ?_ IsPure.out;rw [hd,hdd];show _=i64 (if l≠0 then l else a2d (v.drop (i+1)));rw [if_pos g]
 ·have hi2:i=v.length:=by
   have:=of_decide_eq_false hlt
   omega
  subst hi2;refine exI ?_;refine sR 700 ?_;refine rtI ?_;refine a0a ?_ IsPure.out;rw [a8Q ha,List.drop_of_length_le (Nat.le_refl _)];rfl
def a8m (s:ByteArray):Bool:=a1p s ⟨#[100,111,119,110]⟩||(a1p s ⟨#[117,112]⟩||(a1p s ⟨#[104,97,108,102,45,117,112]⟩||a1p s ⟨#[104,97,108,102,45,101,118,101,110]⟩))
def a3E (k st:List UInt8):Nat:=if a8m (sb k) then (if chk st≠0 then chk st else if a3S (a0g st)≤0 then 3 else 0) else 20
theorem c5p {l:List UInt8}(h:chk l=0):b8x (a0g l):=a2Z (a7m h) (by decide)
theorem b0V {l:List UInt8}(h:chk l=0):a0b C0 78 [str (sb l)] (i64 (a3S (a0g l))):=by
 have:=b8P (a0g l) (c5p h)
 unfold rR at this;rw [(a3f h).2.2.1] at this;exact this
theorem b2d {a b:List UInt8}(ha:chk a=0)(hb:chk b=0):a0b C0 34 [str (sb a),str (sb b)] (i64 (a2H (a0g a) (a0g b))):=by
 have cc:=d5G (a0g a) (a0g b) 600 600 (a7m ha) (a7m hb) (by decide);unfold rR at cc;rw [(a3f ha).2.2.1,(a3f hb).2.2.1] at cc;exact cc
theorem d3M (k st:List UInt8)(h1:st.length≤100000):a0b C0 142 [.agg [str (sb k),str (sb st)]] (i64 (a3E k st)):=by
 refine a0c.walk w1 c7P rfl fun F=>?_
 have c1:=a9B st h1;refine sR 0 ?_;refine OkS.seqX (α:=Nat) (fun n=>⟨[(1,.optr 0 0 2 0 0)],[⟨0,0,94,2,[.agg [str (sb k),str (sb st)]]⟩],n⟩) (fun _=>a8m (sb k)=true) ?_ ?_
 ·unfold a3E a8m
  obtain ⟨b1,e1⟩:∃ b,a1p (sb k) ⟨#[100,111,119,110]⟩=b:=⟨_,rfl⟩
  obtain ⟨b2,e2⟩:∃ b,a1p (sb k) ⟨#[117,112]⟩=b:=⟨_,rfl⟩
  obtain ⟨b3,e3⟩:∃ b,a1p (sb k) ⟨#[104,97,108,102,45,117,112]⟩=b:=⟨_,rfl⟩
  obtain ⟨b4,e4⟩:∃ b,a1p (sb k) ⟨#[104,97,108,102,45,101,118,101,110]⟩=b:=⟨_,rfl⟩
  rw [e1,e2,e3,e4];refine OkS.seq ?_;cases b1
  ·cases b2
   ·cases b3
    ·cases b4
     ·refine OkS.reg w1 100 (by kernel_rfl) ?_
      refine nwI (ff6 e1 e2 e3 e4 kT kF) ?_;refine gwI (ff6 e1 e2 e3 e4 kT kF) ?_;refine gwI (ff6 e1 e2 e3 e4 kT kF) ?_;refine gwI (ff6 e1 e2 e3 e4 kT kF) ?_;refine ifI ?_;refine sR 200 ?_;refine rtI ?_;exact a0a rfl IsPure.out
     ·refine OkS.reg w1 100 (by kernel_rfl) ?_
      refine nwI (ff6 e1 e2 e3 e4 kT kF) ?_;refine gwI (ff6 e1 e2 e3 e4 kT kF) ?_;refine gwI (ff6 e1 e2 e3 e4 kT kF) ?_;refine gwI (ff6 e1 e2 e3 e4 kT kF) ?_;refine ifI ?_;refine skI ?_;exact ⟨rfl,_,rfl,wkI⟩
    ·refine OkS.reg w1 100 (by kernel_rfl) ?_
     refine nwI (ff6 e1 e2 e3 e4 kT kF) ?_;refine gwI (ff6 e1 e2 e3 e4 kT kF) ?_;refine gwI (ff6 e1 e2 e3 e4 kT kF) ?_;refine gwI (ff6 e1 e2 e3 e4 kT kF) ?_;refine ifI ?_;refine skI ?_;exact ⟨rfl,_,rfl,wkI⟩
   ·refine OkS.reg w1 100 (by kernel_rfl) ?_
    refine nwI (ff6 e1 e2 e3 e4 kT kF) ?_;refine gwI (ff6 e1 e2 e3 e4 kT kF) ?_;refine gwI (ff6 e1 e2 e3 e4 kT kF) ?_;refine gwI (ff6 e1 e2 e3 e4 kT kF) ?_;refine ifI ?_;refine skI ?_;exact ⟨rfl,_,rfl,wkI⟩
  ·refine OkS.reg w1 100 (by kernel_rfl) ?_
   refine nwI (ff6 e1 e2 e3 e4 kT kF) ?_;refine gwI (ff6 e1 e2 e3 e4 kT kF) ?_;refine gwI (ff6 e1 e2 e3 e4 kT kF) ?_;refine gwI (ff6 e1 e2 e3 e4 kT kF) ?_;refine ifI ?_;refine skI ?_;exact ⟨rfl,_,rfl,wkI⟩
 rintro n0 hk;unfold a3E;rw [if_pos hk];refine sR 300 ?_;refine cI c1 ?_
 by_cases g1:chk st=0
 ·have e8:(((chk st:Nat):Int)==0)=true:=by rw [g1];rfl
  have cs:=b0V g1;rw [if_neg (fun h=>h g1)];refine OkS.seq ?_;refine sZ 400 ?_;refine nwI e8 ?_;refine gwI kT ?_;refine gcI kT ?_;refine a0j.same _ cs inferInstance ?_;refine gwI kT ?_
  by_cases g3:a3S (a0g st)≤0
  ·rw [decide_eq_true g3,if_pos g3]
   refine ifI ?_;refine sR 500 ?_;refine rtI ?_;exact a0a rfl IsPure.out
  ·rw [decide_eq_false g3,if_neg g3]
   refine ifI ?_;refine skI ?_;refine sR 600 ?_;refine rtI ?_;exact a0a (by rw [g1]) IsPure.out
 ·have e8:(((chk st:Nat):Int)==0)=false:=beq_eq_false_iff_ne.2 (by omega)
  rw [if_pos g1];refine OkS.seq ?_;refine sZ 400 ?_;refine nwI e8 ?_;refine gwI kF ?_;refine ifI ?_;refine skI ?_;refine sR 600 ?_;refine rtI ?_;exact a0a rfl IsPure.out
structure a1R where
 name:List UInt8
 tol:List UInt8
 kind:List UInt8
 step:List UInt8
 deriving Inhabited
def a1R.D (f:a1R):D:=.agg [str (sb f.name),str (sb f.tol),str (sb f.kind),str (sb f.step)]
def a1R.few (f:a1R):Prop:=f.name.length≤100000∧f.tol.length≤100000∧f.kind.length≤100000∧f.step.length≤100000
instance  (f:a1R):CellsPure f.D:=by unfold a1R.D;exact inferInstance
instance  (f:a1R):IsPure f.D:=by unfold a1R.D;exact inferInstance
def a0X (f:a1R):Nat:=if a1l f.name then (if chk f.tol≠0 then chk f.tol else if a3S (a0g f.tol)<0 then 3 else a3E f.kind f.step) else 8
theorem c5g (f:a1R)(hf:f.few):a0b C0 75 [f.D] (i64 (a0X f)):=by
 refine a0c.walk w1 d3Y rfl fun F=>?_
 have cn:=c9d f.name (by have:=hf.1;omega);have c1:=a9B f.tol hf.2.1;have cr:=d3M f.kind f.step hf.2.2.2;unfold a1R.D a0X;refine sR 0 ?_;refine OkS.seq ?_;refine sR 100 ?_;refine cI cn ?_;cases hn:a1l f.name
 ·rw [if_neg (by decide)]
  refine ifI ?_;refine sR 200 ?_;refine rtI ?_;exact a0a rfl IsPure.out
 rw [if_pos rfl];refine ifI ?_;refine skI ?_;refine sR 300 ?_;refine cI c1 ?_
 by_cases g1:chk f.tol=0
 ·have e8:(((chk f.tol:Nat):Int)==0)=true:=by rw [g1];rfl
  have cs:=b0V g1;rw [if_neg (fun h=>h g1)];refine OkS.seq ?_;refine sZ 400 ?_;refine nwI e8 ?_;refine gwI kT ?_;refine gcI kT ?_;refine a0j.same _ cs inferInstance ?_;refine gwI kT ?_
  by_cases g3:a3S (a0g f.tol)<0
  ·rw [decide_eq_true g3,if_pos g3]
   refine ifI ?_;refine rI 500 ?_;refine OkS.seq ?_;refine sR 600 ?_;refine ifI ?_;refine skI ?_;refine sR 800 ?_;refine rtI ?_;exact a0a rfl IsPure.out
  ·rw [decide_eq_false g3,if_neg g3]
   refine ifI ?_;refine skI ?_;refine OkS.seq ?_;refine sZ 600 ?_;refine nwI e8 ?_;refine ifI ?_;refine rI 700 ?_;refine cI cr ?_;refine sR 800 ?_;refine rtI ?_;exact a0a rfl IsPure.out
 ·have e8:(((chk f.tol:Nat):Int)==0)=false:=beq_eq_false_iff_ne.2 (by omega)
  rw [if_pos g1];refine OkS.seq ?_;refine sZ 400 ?_;refine nwI e8 ?_;refine gwI kF ?_;refine ifI ?_;refine skI ?_;refine OkS.seq ?_;refine sZ 600 ?_;refine nwI e8 ?_;refine ifI ?_;refine skI ?_;refine sR 800 ?_;refine rtI ?_;exact a0a rfl IsPure.out
theorem a5S (a b:List UInt8):a1p (sb a) (sb b)=decide (a=b):=by
 unfold a1p
 by_cases h:a=b
 ·subst h;simp
 ·rw [decide_eq_false h]
  apply beq_eq_false_iff_ne.2;intro hh;apply h;simpa [sb] using hh
theorem a1y (l:List UInt8):a1p (sb l) ⟨#[]⟩=decide (l=[]):=a5S l []
def a2t (l:List UInt8):Nat:=if l=[] then 0 else chk l
theorem a1C {l:List UInt8}(h:a2t l=0)(h0:l≠[]):chk l=0:=by
 unfold a2t at h;rw [if_neg h0] at h;exact h
def b1q (a b c d:List UInt8):Bool :=
 (decide (a=[])||(!decide (c=[]) && !decide (a2H (a0g c) (a0g a)<0)))&&(decide (b=[])||(!decide (d=[])&&decide (a2H (a0g d) (a0g b)≤0)))
theorem c4p (l:List UInt8)(h:l.length≤100000):a0b C0 143 [str (sb l)] (i64 (a2t l)):=by
 refine a0c.walk w1 d1t rfl fun F=>?_
 have c1:=a9B l h;have e1:=a1y l;unfold a2t;refine sR 0 ?_;refine OkS.seq ?_
 by_cases g:l=[]
 ·rw [decide_eq_true g] at e1
  rw [if_pos g];refine sZ 100 ?_;refine nwI (ff3 e1 kT kF) ?_;refine ifI ?_;refine sR 200 ?_;refine rtI ?_;exact a0a rfl IsPure.out
 ·rw [decide_eq_false g] at e1
  rw [if_neg g];refine sZ 100 ?_;refine nwI (ff3 e1 kT kF) ?_;refine ifI ?_;refine skI ?_;refine sR 300 ?_;refine cI c1 ?_;refine rtI ?_;exact a0a rfl IsPure.out
theorem b9y (a b c d:List UInt8)(ha:a2t a=0)(hb:a2t b=0)(hc:a2t c=0)(hd:a2t d=0) :
  a0b C0 144 [str (sb a),str (sb b),str (sb c),str (sb d)] (boo (b1q a b c d)):=by
 refine a0c.walk w1 c7W rfl fun F=>?_
 have ea:=a1y a;have eb:=a1y b;have ec:=a1y c;have ed:=a1y d;refine sR 0 ?_;refine OkS.seqX (α:=Nat) (fun n=>⟨[(0,str (sb a)),(1,str (sb b)),(2,str (sb c)),(3,str (sb d))],[],n⟩) (fun _=>(decide (a=[])||(!decide (c=[]) && !decide (a2H (a0g c) (a0g a)<0)))=true) ?_ ?_
 ·unfold b1q
  by_cases ga:a=[]
  ·rw [decide_eq_true ga] at ea ⊢
   refine sZ 100 ?_;refine nwI (ff4 ea eb kT kF) ?_;refine gwI kB ?_
   try simp only [ec,ed,Bool.not_true,Bool.not_false]
   refine ifI ?_;refine skI ?_;exact ⟨rfl,_,rfl,wkI⟩
  rw [decide_eq_false ga] at ea ⊢
  by_cases gc:c=[]
  ·rw [decide_eq_true gc] at ec ⊢
   refine sZ 100 ?_;refine nwI (ff4 ea eb kT kF) ?_;refine gwI kB ?_
   try simp only [ec,ed,Bool.not_true,Bool.not_false]
   refine gwI kB ?_
   try simp only [ec,ed,Bool.not_true,Bool.not_false]
   refine ifI ?_;refine sR 200 ?_;refine rtI ?_;exact a0a rfl IsPure.out
  rw [decide_eq_false gc] at ec ⊢;have cc:=b2d (a1C hc gc) (a1C ha ga);refine sZ 100 ?_;refine nwI (ff4 ea eb kT kF) ?_;refine gwI kB ?_
  try simp only [ec,ed,Bool.not_true,Bool.not_false]
  refine gwI kB ?_;refine gcI kB ?_;refine a0j.same _ cc inferInstance ?_;refine gwI kB ?_
  try simp only [ec,ed,Bool.not_true,Bool.not_false]
  by_cases g3:a2H (a0g c) (a0g a)<0
  ·rw [decide_eq_true g3]
   refine ifI ?_;refine sR 200 ?_;refine rtI ?_;exact a0a rfl IsPure.out
  ·rw [decide_eq_false g3]
   refine ifI ?_;refine skI ?_;exact ⟨rfl,_,rfl,wkI⟩
 rintro n0 h1;unfold b1q;rw [h1]
 by_cases gb:b=[]
 ·rw [decide_eq_true gb] at eb ⊢
  refine sZ 300 ?_;refine nwI (ff4 ea eb kT kF) ?_;refine gwI kB ?_
  try simp only [ec,ed,Bool.not_true,Bool.not_false]
  refine rtI ?_;exact a0a rfl IsPure.out
 rw [decide_eq_false gb] at eb ⊢
 by_cases gd:d=[]
 ·rw [decide_eq_true gd] at ed ⊢
  refine sZ 300 ?_;refine nwI (ff4 ea eb kT kF) ?_;refine gwI kB ?_
  try simp only [ec,ed,Bool.not_true,Bool.not_false]
  refine gwI kB ?_
  try simp only [ec,ed,Bool.not_true,Bool.not_false]
  refine rtI ?_;exact a0a rfl IsPure.out
 rw [decide_eq_false gd] at ed ⊢;have cc:=b2d (a1C hd gd) (a1C hb gb);refine sZ 300 ?_;refine nwI (ff4 ea eb kT kF) ?_;refine gwI kB ?_
 try simp only [ec,ed,Bool.not_true,Bool.not_false]
 refine gwI kB ?_;refine gcI kB ?_;refine a0j.same _ cc inferInstance ?_;refine gwI kB ?_
 try simp only [ec,ed,Bool.not_true,Bool.not_false]
 refine rtI ?_;exact a0a rfl IsPure.out
def a8M (f:Nat→Nat):Nat→Nat
 | 0=>0
 | n+1=>if a8M f n≠0 then a8M f n else f n
theorem a3c {f:Nat→Nat}{n:Nat}(h:∀ j,j<n→f j=0):a8M f n=0:=by
 induction n with
 | zero=>rfl
 | succ n ih =>
  have:=ih fun j hj=>h j (by omega)
  unfold a8M;rw [if_neg (fun hh=>hh this)];exact h n (by omega)
theorem a6v {f:Nat→Nat}{i n:Nat}(h:∀ j,j<i→f j=0)(hi:i<n)(h0:f i≠0):a8M f n=f i:=by
 induction n with
 | zero=>omega
 | succ n ih =>
  unfold a8M;rcases Nat.lt_or_ge i n with hlt|hge
  ·have:=ih hlt
   rw [if_pos (by rw [this];exact h0),this]
  ·have:i=n:=by omega
   subst this;rw [if_neg (fun hh=>hh (a3c h))]
theorem a7H {f:Nat→Nat}{n:Nat}(h:a8M f n=0):∀ j,j<n→f j=0:=by
 induction n with
 | zero=>intro j hj;omega
 | succ n ih =>
  unfold a8M at h
  by_cases h0:a8M f n=0
  ·rw [if_neg (fun hh=>hh h0)] at h
   intro j hj;rcases Nat.lt_or_ge j n with hl|hg
   ·exact ih h0 j hl
   ·have:j=n:=by omega
    subst this;exact h
  ·rw [if_pos h0] at h
   exact absurd h h0
structure a1k where
 name:List UInt8
 least:List (List UInt8)
 most:List (List UInt8)
 deriving Inhabited
def a1k.D (g:a1k):D:=.agg [str (sb g.name),.sl false 1 (g.least.map fun l=>str (sb l)),.sl false 1 (g.most.map fun l=>str (sb l))]
instance  (g:a1k):CellsPure g.D:=by unfold a1k.D;exact inferInstance
instance  (g:a1k):IsPure g.D:=by unfold a1k.D;exact inferInstance
def a1k.few (g:a1k):Prop:=g.name.length≤100000∧g.least.length≤100000∧g.most.length≤100000∧(∀ l∈g.least,l.length≤100000)∧(∀ l∈g.most,l.length≤100000)
structure a1K where
 fs:List a1R
 gs:List a1k
def a1K.D (s:a1K):D:=.agg [.sl false 4 (s.fs.map a1R.D),.sl false 3 (s.gs.map a1k.D)]
instance  (s:a1K):CellsPure s.D:=by unfold a1K.D;exact inferInstance
instance  (s:a1K):IsPure s.D:=by unfold a1K.D;exact inferInstance
def a1K.few (s:a1K):Prop:=s.fs.length≤100000∧s.gs.length≤100000∧(∀ f∈s.fs,f.few)∧(∀ g∈s.gs,g.few)
def a1a (a b:List UInt8)(p:Option (List UInt8 × List UInt8)):Nat :=
 if a2t a≠0 then a2t a else if a2t b≠0 then a2t b else if a≠[]∧b≠[]∧a2H (a0g a) (a0g b)>0 then 3 else match p with
  | none=>0
  | some (c,d)=>if b1q a b c d then 0 else 11
def lv (l:List (List UInt8))(k:Nat):List UInt8:=l.getD k []
def a1O (gs:List a1k)(i k:Nat):Option (List UInt8 × List UInt8):=if i=0 then none else some (lv (gs.getD (i - 1) default).least k,lv (gs.getD (i - 1) default).most k)
def a0C (n:Nat)(gs:List a1k)(i:Nat):Nat :=
 let g:=gs.getD i default
 if a1l g.name then
  (if (gs.take i).any (fun x=>decide (x.name=g.name)) then 9
  else if g.least.length=n∧g.most.length=n then a8M (fun k=>a1a (lv g.least k) (lv g.most k) (a1O gs i k)) n
  else 2)
 else 8
def a1S (fs:List a1R)(i:Nat):Nat :=
 if a0X (fs.getD i default)≠0 then a0X (fs.getD i default) else if (fs.take i).any (fun x=>decide (x.name=(fs.getD i default).name)) then 9 else 0
def b2E (n:Nat):Nat:=if n=0 then 2 else if n>8 then 5 else 0
def b1Y (n:Nat):Nat:=if n=0 then 2 else if n>16 then 5 else 0
def a0p (s:a1K):Nat :=
 if b2E s.fs.length≠0 then b2E s.fs.length
 else if a8M (a1S s.fs) s.fs.length≠0 then a8M (a1S s.fs) s.fs.length
 else if b1Y s.gs.length≠0 then b1Y s.gs.length
 else a8M (a0C s.fs.length s.gs) s.gs.length
def gOk (n:Nat)(g:a1k):Prop:=g.least.length=n∧g.most.length=n∧∀ k,k<n→a2t (lv g.least k)=0∧a2t (lv g.most k)=0
theorem b8J {a b:List UInt8}{p:Option (List UInt8 × List UInt8)}(h:a1a a b p=0):a2t a=0∧a2t b=0:=by
 unfold a1a at h
 by_cases ha:a2t a=0
 ·rw [if_neg (fun hh=>hh ha)] at h
  by_cases hb:a2t b=0
  ·exact ⟨ha,hb⟩
  ·rw [if_pos hb] at h
   exact absurd h hb
 ·rw [if_pos ha] at h
  exact absurd h ha
theorem a5w {n:Nat}{gs:List a1k}{i:Nat}(h:a0C n gs i=0):gOk n (gs.getD i default):=by
 unfold a0C at h;dsimp only at h;split at h
 ·split at h
  ·cases h
  ·split at h
   ·rename_i hh
    exact ⟨hh.1,hh.2,fun k hk=>b8J (a7H h k hk)⟩
   ·cases h
 ·cases h
theorem a4x {l:List (List UInt8)}{k:Nat}(h:k<l.length):l[k]? = some (lv l k):=by
 unfold lv;rw [List.getD_eq_getElem?_getD,List.getElem?_eq_getElem h];rfl
theorem a3x {l:List (List UInt8)}{k:Nat}(h:k<l.length):(l.map fun x=>str (sb x))[k]? = some (str (sb (lv l k))):=by
 rw [List.getElem?_map,a4x h];rfl
theorem a5I {l:List (List UInt8)}{k:Nat}(h:k<l.length)(hf:∀ x∈l,x.length≤100000):(lv l k).length≤100000:=hf _ (List.mem_of_getElem? (a4x h))
theorem a2J {gs:List a1k}{i:Nat}(h:i<gs.length):gs[i]? = some (gs.getD i default):=by
 rw [List.getD_eq_getElem?_getD,List.getElem?_eq_getElem h];rfl
theorem b5H {gs:List a1k}{i:Nat}(h:i<gs.length):(gs.map a1k.D)[i]? = some (.agg [str (sb (gs.getD i default).name),.sl false 1 ((gs.getD i default).least.map fun l=>str (sb l)),.sl false 1 ((gs.getD i default).most.map fun l=>str (sb l))]):=by
 rw [List.getElem?_map,a2J h];rfl
theorem a8h {fs:List a1R}{i:Nat}(h:i<fs.length):fs[i]? = some (fs.getD i default):=by
 rw [List.getD_eq_getElem?_getD,List.getElem?_eq_getElem h];rfl
theorem b9K {fs:List a1R}{i:Nat}(h:i<fs.length):(fs.map a1R.D)[i]? = some (.agg [str (sb (fs.getD i default).name),str (sb (fs.getD i default).tol),str (sb (fs.getD i default).kind),str (sb (fs.getD i default).step)]):=by
 rw [List.getElem?_map,a8h h];rfl
theorem b0S {α:Type}{l:List α}{p:α→Bool}{i:Nat}(h:∀ (j:Nat) (x:α),j<i→l[j]? = some x→p x=false):(l.take i).any p=false:=by
 rw [List.any_eq_false];intro x hx;obtain ⟨j,hj,e⟩:=List.mem_iff_getElem.1 hx;have hj2:j<i:=by rw [List.length_take] at hj;omega
 have:l[j]? = some x:=by
  rw [← e,List.getElem_take];exact List.getElem?_eq_getElem _
 rw [h j x hj2 this];simp
theorem a5J {α:Type}{l:List α}{p:α→Bool}{i j:Nat}{x:α}(hj:j<i)(hx:l[j]? = some x)(h:p x=true):(l.take i).any p=true:=by
 rw [List.any_eq_true];refine ⟨x,?_,h⟩;exact List.mem_of_getElem? (i:=j) (by rw [List.getElem?_take,if_pos hj,hx])
theorem b2p (s:ByteArray):(a8m s=true→∃ f,a5Z s (mpK a4j) (mpV a4j)=some (some (.agg [.clo (.func f) [] []])))∧(a8m s=false→a5Z s (mpK a4j) (mpV a4j)=some none):=by
 unfold a8m;simp only [a4j,mpK,mpV,a5Z];cases a1p s ⟨#[100,111,119,110]⟩<;>cases a1p s ⟨#[117,112]⟩<;>cases a1p s ⟨#[104,97,108,102,45,117,112]⟩<;>cases a1p s ⟨#[104,97,108,102,45,101,118,101,110]⟩<;>simp
section
attribute [local irreducible] wpQ
theorem c5o (k st:List UInt8)(h1:st.length≤100000):a0b C0 171 [.agg [str (sb k),str (sb st)]] (i64 (a3E k st)):=by
 refine a0c.walk w1 c3Y rfl fun F=>?_
 have dk:a0b C0 216 [] (.mp (mpK a4j) (mpV a4j)):=b0y;have dp:IsPure (D.mp (mpK a4j) (mpV a4j)):=⟨a0T (n:=20) (by kernel_rfl)⟩
 have c1:=a4Y st h1;unfold a3E;refine fR 0 ?_;cases hk:a8m (sb k)
 ·have hlk:=(b2p (sb k)).2 hk
  refine OkS.seq ?_;refine OkS.seq ?_;refine OkS.regWa w1 100 [0,1,2,3,4,5,6,7,8] [9] 8 7 [4,3,2,1,0,5,7] (by kernel_rfl) (by kernel_rfl) ?_;refine nxI ?_;refine a0n.same _ dk inferInstance ?_;refine c2G (b9v (s:=sb k) (a:=9) (b:=289) (z:=.agg #[.nilFunc]) (by kernel_rfl) rfl rfl hlk) ?_;dsimp only [okD];refine nxI ?_;refine nxI ?_;refine fR 200 ?_;refine ifI ?_;refine fR 300 ?_;refine rtI ?_;exact a0a rfl IsPure.out
 obtain ⟨fn,hlk⟩:=(b2p (sb k)).1 hk;rw [if_pos rfl];refine OkS.seq ?_;refine OkS.seq ?_;refine OkS.regWa w1 100 [0,1,2,3,4,5,6,7,8] [9] 8 7 [4,3,2,1,0,5,7] (by kernel_rfl) (by kernel_rfl) ?_;refine nxI ?_;refine a0n.same _ dk inferInstance ?_;refine c2G (c2y (s:=sb k) (a:=9) (b:=289) (z:=.agg #[.nilFunc]) (by kernel_rfl) rfl rfl hlk) ?_;dsimp only [okD];refine nxI ?_;refine nxI ?_;refine fR 200 ?_;refine ifI ?_;refine skI ?_;refine OkS.seq ?_;refine fR 400 ?_;refine dI c1 ?_
 by_cases g1:chk st=0
 ·have e8:(((chk st:Nat):Int) != 0)=false:=by rw [g1];rfl
  have cf:=a7f h1 g1;have cs:=b0K (a9x g1).is;have cp:IsPure (a1E st).D:=inferInstance;rw [if_neg (fun h=>h g1)];refine fR 500 ?_;rw [e8];refine ifI ?_;refine skI ?_;refine OkS.seq ?_;refine fR 700 ?_;refine dI cf ?_;refine dI cs ?_
  by_cases g3:a3S (a0g st)≤0
  ·rw [decide_eq_true g3,if_pos g3]
   refine ifI ?_;refine fR 800 ?_;refine rtI ?_;exact a0a rfl IsPure.out
  ·rw [decide_eq_false g3,if_neg g3]
   refine ifI ?_;refine skI ?_;refine fR 900 ?_;refine rtI ?_;exact a0a rfl IsPure.out
 ·have e8:(((chk st:Nat):Int) != 0)=true:=a3D (by omega)
  rw [if_pos g1];refine fR 500 ?_;rw [e8];refine ifI ?_;refine fR 600 ?_;refine rtI ?_;exact a0a rfl IsPure.out
end
theorem c0r (f:a1R)(hf:f.few):a0b C0 103 [f.D] (i64 (a0X f)):=by
 refine a0c.walk w1 c4C rfl fun F=>?_
 have cn:a0b C0 170 [str (sb f.name)] (boo (a1l f.name)):=a6k (sb f.name);have c1:=a4Y f.tol hf.2.1;have cr:=c5o f.kind f.step hf.2.2.2;unfold a1R.D a0X;refine fR 0 ?_;refine OkS.seq ?_;refine fR 100 ?_;refine dI cn ?_;cases hn:a1l f.name
 ·rw [if_neg (by decide)]
  refine ifI ?_;refine fR 200 ?_;refine rtI ?_;exact a0a rfl IsPure.out
 rw [if_pos rfl];refine ifI ?_;refine skI ?_;refine OkS.seq ?_;refine fR 300 ?_;refine dI c1 ?_
 by_cases g1:chk f.tol=0
 ·have e8:(((chk f.tol:Nat):Int) != 0)=false:=by rw [g1];rfl
  have cf:=a7f hf.2.1 g1;have cs:=b0K (a9x g1).is;have cw:=a1B (decide (a3S (a0g f.tol)<0)) 3;have c2:a0b C0 96 [.sl true 1 [i64 (if decide (a3S (a0g f.tol)<0) then 3 else 0),i64 (a3E f.kind f.step)]] (i64 (a2d [if decide (a3S (a0g f.tol)<0) then 3 else 0,(a3E f.kind f.step:Int)])):=a8w [if decide (a3S (a0g f.tol)<0) then 3 else 0,(a3E f.kind f.step:Int)] (by simp);have cp:IsPure (a1E f.tol).D:=inferInstance;rw [if_neg (fun h=>h g1)];refine fR 400 ?_;rw [e8];refine ifI ?_;refine skI ?_;refine OkS.seq ?_;refine OkS.regD w1 600 [0,1,2,3,4,5,6,7] [8,9,10,11] (by kernel_rfl) ?_;refine nxI ?_;refine a0n.same _ (cf) inferInstance ?_;refine nxI ?_;refine a0n.same _ (cs) inferInstance ?_;refine nxI ?_;refine a0n.same _ (cw) inferInstance ?_;refine nxI ?_;refine dI cr ?_;refine dI c2 ?_;refine rtI ?_;refine a0a ?_ IsPure.out;unfold a2d a2d a2d
  by_cases g3:a3S (a0g f.tol)<0
  ·simp [g3]
  ·by_cases g4:a3E f.kind f.step=0
   ·simp [g3,g4]
   ·simp [g3,g4]
 ·have e8:(((chk f.tol:Nat):Int) != 0)=true:=a3D (by omega)
  rw [if_pos g1];refine fR 400 ?_;rw [e8];refine ifI ?_;refine fR 500 ?_;refine rtI ?_;exact a0a rfl IsPure.out
def c4b {α:Type}(p:α→Bool)(l:List α):Int:=if l.any p then (l.findIdx p:Int) else -1
theorem b8N {α:Type}{p:α→Bool}{l:List α}{i:Nat}{x:α}(hx:l[i]? = some x)(h:p x=true)(ha:∀ (j:Nat) (y:α),j<i→l[j]? = some y→p y=false):c4b p l=i:=by
 unfold c4b;obtain ⟨hi,e⟩:=List.getElem?_eq_some_iff.1 hx;rw [if_pos (List.any_eq_true.2 ⟨x,List.mem_of_getElem? hx,h⟩)]
 have:l.findIdx p=i:=(List.findIdx_eq hi).2 ⟨by rw [e];exact h,fun j hj=>ha j _ hj (List.getElem?_eq_getElem _)⟩
 rw [this]
theorem b2D {α:Type}{p:α→Bool}{l:List α}(ha:∀ (j:Nat) (y:α),j<l.length→l[j]? = some y→p y=false):c4b p l = -1:=by
 unfold c4b
 have:=b0S (l:=l) (p:=p) (i:=l.length) ha
 rw [List.take_length] at this;rw [this];rfl
theorem b8L {α:Type}(p:α→Bool)(l:List α):decide (c4b p l≥0)=l.any p:=by
 unfold c4b;cases l.any p
 ·rfl
 ·exact decide_eq_true (by simp)
def b1s (y x:a1k):Bool:=decide (x.name=y.name)
def a7p (y x:a1R):Bool:=decide (x.name=y.name)
theorem d3C (x y:a1k):a0b C0 273 [x.D,.pptr y.D] (boo (b1s y x)):=by
 refine a0c.walk w1 c3i rfl fun F=>?_
 have e1:=a5S x.name y.name;unfold a1k.D b1s;refine sR 0 ?_;refine sZ 100 ?_;refine nwI e1 ?_;refine rtI ?_;exact a0a rfl IsPure.out
theorem d3U (x y:a1R):a0b C0 240 [x.D,.pptr y.D] (boo (a7p y x)):=by
 refine a0c.walk w1 c4q rfl fun F=>?_
 have e1:=a5S x.name y.name;unfold a1R.D a7p;refine sR 0 ?_;refine sZ 100 ?_;refine nwI e1 ?_;refine rtI ?_;exact a0a rfl IsPure.out
theorem d6x (l:List a1k)(y:a1k)(hl:l.length≤1000000):a0b C0 304 [.sl false 3 (l.map a1k.D),.clo (.func 273) [] [.pptr y.D]] (i64 (c4b (b1s y) l)):=by
 refine a0c.walk w1 c3c rfl fun F=>?_
 have el:(((l.map a1k.D).length:Nat):Int)=(l.length:Int):=by rw [List.length_map]
 refine sR 0 ?_;refine OkS.seq ?_;refine sZ 100 ?_;refine nwI el ?_;refine OkS.block ?_;refine OkS.loop (α:=Nat × Nat) (fun p=>⟨[(0,.sl false 3 (l.map a1k.D)),(1,.clo (.func 273) [] [.pptr y.D]),(7,i64 l.length),(8,i64 (p.1:Int))],[],p.2⟩) (fun p=>l.length - p.1) (fun p=>p.1≤l.length∧∀ (j:Nat) (x:a1k),j<p.1→l[j]? = some x→b1s y x=false) (0,_) ⟨Nat.zero_le _,fun j x hj=>absurd hj (Nat.not_lt_zero j)⟩ wkI ?_;rintro ⟨i,n⟩ F ⟨hi,ha⟩;dsimp only at hi ha ⊢;refine sR 200 ?_;refine OkS.seq ?_;refine ifI ?_
 (refine brI (fun hlt=>?_) (fun hlt=>?_))<;>(try simp only [Bool.not_eq_true',Bool.not_eq_false'] at hlt)<;>(try simp only [hlt])
 ·have hi2:i<l.length:=by
   have:=of_decide_eq_true hlt
   omega
  obtain ⟨x,hx⟩:∃ x,l[i]? = some x:=⟨l[i],List.getElem?_eq_getElem hi2⟩
  have hm:(l.map a1k.D)[i]? = some x.D:=by rw [List.getElem?_map,hx];rfl
  have cn:=d3C x y;have wi:IntKind.i64.wrap ((i:Int)+1)=((i+1:Nat):Int):=wI (by omega) (by omega);unfold a1k.D at hm;unfold a1k.D at cn;refine skI ?_;refine OkS.seq ?_;refine OkS.block ?_;refine sR 300 ?_;refine sZ 400 ?_;refine gwI kN ?_;refine ixI kT hm ?_;refine gwI kN ?_;refine a0j.same _ cn inferInstance ?_;refine stI ?_;cases hb:b1s y x
  ·refine ifI ?_
   refine skI ?_;refine OkS.reg w1 600 (by kernel_rfl) ?_;refine nwI wi ?_;refine ⟨(i+1,_),⟨hi2,fun j z hj hjz=>?_⟩,by dsimp only;omega,wkI⟩;rcases Nat.lt_or_ge j i with h|h
   ·exact ha j z h hjz
   ·have:j=i:=by dsimp only at hj;omega
    subst this;rw [hx] at hjz;cases hjz;exact hb
  ·refine ifI ?_
   refine sR 500 ?_;refine rtI ?_;exact a0a (by rw [b8N hx hb ha]) IsPure.out
 ·have hi2:i=l.length:=by
   have:=of_decide_eq_false hlt
   omega
  subst hi2;refine exI ?_;refine sR 700 ?_;refine rtI ?_;exact a0a (by rw [b2D ha]) IsPure.out
theorem d6n (l:List a1R)(y:a1R)(hl:l.length≤1000000):a0b C0 271 [.sl false 4 (l.map a1R.D),.clo (.func 240) [] [.pptr y.D]] (i64 (c4b (a7p y) l)):=by
 refine a0c.walk w1 c4j rfl fun F=>?_
 have el:(((l.map a1R.D).length:Nat):Int)=(l.length:Int):=by rw [List.length_map]
 refine sR 0 ?_;refine OkS.seq ?_;refine sZ 100 ?_;refine nwI el ?_;refine OkS.block ?_;refine OkS.loop (α:=Nat × Nat) (fun p=>⟨[(0,.sl false 4 (l.map a1R.D)),(1,.clo (.func 240) [] [.pptr y.D]),(7,i64 l.length),(8,i64 (p.1:Int))],[],p.2⟩) (fun p=>l.length - p.1) (fun p=>p.1≤l.length∧∀ (j:Nat) (x:a1R),j<p.1→l[j]? = some x→a7p y x=false) (0,_) ⟨Nat.zero_le _,fun j x hj=>absurd hj (Nat.not_lt_zero j)⟩ wkI ?_;rintro ⟨i,n⟩ F ⟨hi,ha⟩;dsimp only at hi ha ⊢;refine sR 200 ?_;refine OkS.seq ?_;refine ifI ?_
 (refine brI (fun hlt=>?_) (fun hlt=>?_))<;>(try simp only [Bool.not_eq_true',Bool.not_eq_false'] at hlt)<;>(try simp only [hlt])
 ·have hi2:i<l.length:=by
   have:=of_decide_eq_true hlt
   omega
  obtain ⟨x,hx⟩:∃ x,l[i]? = some x:=⟨l[i],List.getElem?_eq_getElem hi2⟩
  have hm:(l.map a1R.D)[i]? = some x.D:=by rw [List.getElem?_map,hx];rfl
  have cn:=d3U x y;have wi:IntKind.i64.wrap ((i:Int)+1)=((i+1:Nat):Int):=wI (by omega) (by omega);unfold a1R.D at hm;unfold a1R.D at cn;refine skI ?_;refine OkS.seq ?_;refine OkS.block ?_;refine sR 300 ?_;refine sZ 400 ?_;refine gwI kN ?_;refine ixI kT hm ?_;refine gwI kN ?_;refine a0j.same _ cn inferInstance ?_;refine stI ?_;cases hb:a7p y x
  ·refine ifI ?_
   refine skI ?_;refine OkS.reg w1 600 (by kernel_rfl) ?_;refine nwI wi ?_;refine ⟨(i+1,_),⟨hi2,fun j z hj hjz=>?_⟩,by dsimp only;omega,wkI⟩;rcases Nat.lt_or_ge j i with h|h
   ·exact ha j z h hjz
   ·have:j=i:=by dsimp only at hj;omega
    subst this;rw [hx] at hjz;cases hjz;exact hb
  ·refine ifI ?_
   refine sR 500 ?_;refine rtI ?_;exact a0a (by rw [b8N hx hb ha]) IsPure.out
 ·have hi2:i=l.length:=by
   have:=of_decide_eq_false hlt
   omega
  subst hi2;refine exI ?_;refine sR 700 ?_;refine rtI ?_;exact a0a (by rw [b2D ha]) IsPure.out
theorem d6p (l:List a1k)(y:a1k)(hl:l.length≤1000000):a0b C0 272 [.sl false 3 (l.map a1k.D),.clo (.func 273) [] [.pptr y.D]] (boo (l.any (b1s y))):=by
 refine a0c.walk w1 c4m rfl fun F=>?_
 have c1:=d6x l y hl;have e1:=b8L (b1s y) l;refine sR 0 ?_;refine sR 100 ?_;refine cI c1 ?_
 try rw [e1]
 refine rtI ?_;exact a0a (by first|rfl|(rw [← e1])) IsPure.out
theorem d5Q (l:List a1R)(y:a1R)(hl:l.length≤1000000):a0b C0 239 [.sl false 4 (l.map a1R.D),.clo (.func 240) [] [.pptr y.D]] (boo (l.any (a7p y))):=by
 refine a0c.walk w1 c3I rfl fun F=>?_
 have c1:=d6n l y hl;have e1:=b8L (a7p y) l;refine sR 0 ?_;refine sR 100 ?_;refine cI c1 ?_
 try rw [e1]
 refine rtI ?_;exact a0a (by first|rfl|(rw [← e1])) IsPure.out
set_option maxHeartbeats 4000000
def a4l (l:List UInt8):GF:=if l=[] then ⟨mkG 0,0⟩ else a1E l
abbrev c7i (l:List UInt8):List D:=[boo (decide (l=[])),i64 (a4l l).n.s,(a4l l).n.w,i64 (mkG ((a4l l).d:Int)).s,(mkG ((a4l l).d:Int)).w]
abbrev c9C (p q:Bool)(a b:List UInt8):List D:=[boo p,i64 (a4l a).n.s,(a4l a).n.w,i64 (mkG ((a4l a).d:Int)).s,(mkG ((a4l a).d:Int)).w,boo q,i64 (a4l b).n.s,(a4l b).n.w,i64 (mkG ((a4l b).d:Int)).s,(mkG ((a4l b).d:Int)).w]
theorem b3U {l:List UInt8}(h:a2t l=0)(h0:l≠[]):FR (a0g l) (a4l l) 600:=by
 unfold a4l;rw [if_neg h0];exact a9x (a1C h h0)
theorem b5w {a b:List UInt8}(ha:a2t a=0)(hb:a2t b=0)(ga:a≠[])(gb:b≠[]):a0b C0 121 [(a4l a).D,(a4l b).D] (i64 (a2H (a0g a) (a0g b))) :=
 b9P (b3U ha ga) (b3U hb gb) (by decide)
instance  (l:List UInt8):IsPure (.agg (c7i l)):=inferInstance
theorem b0r (l:List UInt8)(hl:l.length≤100000)(h:a2t l=0):a0b C0 163 [str (sb l)] (.agg (c7i l)):=by
 refine a0c.walk w1 c4J rfl fun F=>?_
 have e1:=a1y l;refine sR 0 ?_;refine OkS.seq ?_
 by_cases g:l=[]
 ·rw [decide_eq_true g] at e1
  unfold c7i a4l;rw [if_pos g,decide_eq_true g];refine sZ 100 ?_;refine nwI e1 ?_;refine ifI ?_;refine sR 200 ?_;refine rtI ?_;exact a0a rfl IsPure.out
 ·have cf:a0b C0 70 [str (sb l)] (a4l l).D:=by
   unfold a4l;rw [if_neg g];exact a7f hl (a1C h g)
  rw [decide_eq_false g] at e1;unfold c7i;rw [decide_eq_false g];have cp:IsPure (a4l l).D:=inferInstance;dsimp only [GF.D] at cf cp;refine sZ 100 ?_;refine nwI e1 ?_;refine ifI ?_;refine skI ?_;refine sR 300 ?_;refine cI cf ?_;refine rtI ?_;exact a0a rfl IsPure.out
def c2m:Option a1k→D
 | none=>.prim (.pointer none)
 | some g=>.pptr g.D
instance  (p:Option a1k):IsPure (c2m p):=by
 cases p<;>unfold c2m<;>exact inferInstance
def c0N (p:Option a1k)(k:Nat):Option (List UInt8 × List UInt8):=p.map fun g=>(lv g.least k,lv g.most k)
theorem c4S (a b:Rat):decide (a2H a b>0)=decide (a2H b a<0):=decide_eq_decide.2 (by
 unfold a2H
 by_cases h1:a<b
 ·have h2:¬ b<a:=by grind
  rw [if_pos h1,if_neg h2,if_pos h1];decide
 ·by_cases h2:b<a
  ·rw [if_neg h1,if_pos h2,if_pos h2];decide
  ·rw [if_neg h1,if_neg h2,if_neg h2,if_neg h1])
theorem c9s (a b:Rat):(!decide (a2H a b<0))=decide (a2H b a≤0):=by
 rw [← c4S]
 by_cases h:a2H b a>0
 ·rw [decide_eq_true h,decide_eq_false (by omega)];rfl
 ·rw [decide_eq_false h,decide_eq_true (by omega)];rfl
theorem c5u (g:a1k)(k:Nat)(p:Option a1k)(hg:g.few)(k1:k<g.least.length)(k2:k<g.most.length)
  (hp:∀ y,p=some y→y.few∧k<y.least.length∧k<y.most.length∧a2t (lv y.least k)=0∧a2t (lv y.most k)=0) :
  a0b C0 274 [g.D,i64 (k:Int),c2m p] (i64 (a1a (lv g.least k) (lv g.most k) (c0N p k))):=by
 refine a0c.walk w1 c4n rfl fun F=>?_
 have m1:=a3x k1;have m2:=a3x k2;have f1:=a5I k1 hg.2.2.2.1;have f2:=a5I k2 hg.2.2.2.2;obtain ⟨a,ea⟩:∃ a,lv g.least k=a:=⟨_,rfl⟩
 obtain ⟨b,eb⟩:∃ b,lv g.most k=b:=⟨_,rfl⟩
 rw [ea] at m1 f1 ⊢;rw [eb] at m2 f2 ⊢;unfold a1k.D;refine sR 0 ?_;refine OkS.seq ?_;refine OkS.regD w1 100 [0,1,2,3,4,5,6,7,8,9,10] [11] (by kernel_rfl) ?_;refine gwI kN ?_;refine ixI kT m1 ?_;refine gwI kN ?_;refine ixI kT m2 ?_;refine gwI kN ?_;refine OkS.seqX (α:=Nat) (fun n=>⟨[(1,i64 (k:Int)),(2,c2m p),(7,str (sb a)),(8,str (sb b))],[],n⟩) (fun _=>a2t a=0∧a2t b=0) ?_ ?_
 ·refine sR 200 ?_
  refine OkS.block ?_;refine OkS.loopF (α:=Nat × Nat) (fun q=>⟨[(1,i64 (k:Int)),(2,c2m p),(7,str (sb a)),(8,str (sb b)),(26,.sl true 1 [str (sb a),str (sb b)]),(27,i64 2),(28,i64 (q.1:Int))],[],q.2⟩) (fun q=>2 - q.1) (fun q F'=>F'=F∧q.1≤2∧∀ j,j<q.1→a2t (lv [a,b] j)=0) (0,_) ⟨rfl,Nat.zero_le _,fun j hj=>absurd hj (Nat.not_lt_zero j)⟩ wkI ?_;rintro ⟨i,n⟩ F' ⟨rfl,hi,ha⟩;dsimp only at hi ha ⊢;refine sR 300 ?_;refine OkS.seq ?_;refine ifI ?_
  (refine brI (fun hlt=>?_) (fun hlt=>?_))<;>(try simp only [Bool.not_eq_true',Bool.not_eq_false'] at hlt)<;>(try simp only [hlt])
  ·have hi2:i<2:=by
    have:=of_decide_eq_true hlt
    omega
   have hm:[str (sb a),str (sb b)][i]? = some (str (sb (lv [a,b] i))):=a3x (l:=[a,b]) hi2;have wi:IntKind.i64.wrap ((i:Int)+1)=((i+1:Nat):Int):=wI (by omega) (by omega);have hx:(lv [a,b] i).length≤100000:=a5I (l:=[a,b]) hi2 (fun x hx=>by
    simp only [List.mem_cons,List.not_mem_nil,or_false] at hx;rcases hx with rfl|rfl
    ·exact f1
    ·exact f2)
   have hret:a2t (lv [a,b] i)≠0→a1a a b (c0N p k)=a2t (lv [a,b] i):=fun h=>by
    have hc:i=0∨i=1:=by omega
    unfold a1a;rcases hc with rfl|rfl
    ·exact if_pos h
    ·have h0:a2t a=0:=ha 0 (by omega)
     rw [if_neg (fun hh=>hh h0)];exact if_pos h
   obtain ⟨x,ex⟩:∃ x,lv [a,b] i=x:=⟨_,rfl⟩
   have hnext:a2t x=0→∀ j,j<i+1→a2t (lv [a,b] j)=0:=fun h j hj=>by
    rcases Nat.lt_or_ge j i with h2|h2
    ·exact ha j h2
    ·have:j=i:=by omega
     rw [this,ex];exact h
   rw [ex] at hm hx hret;have c1:=a4Y x hx;have e1:=a1y x;refine skI ?_;refine OkS.seq ?_;refine OkS.block ?_;refine sZ 400 ?_;refine gwI kN ?_;refine ixI kT hm ?_;refine gwI kN ?_
   by_cases g0:x=[]
   ·have l0:a2t x=0:=by unfold a2t;rw [if_pos g0]
    rw [decide_eq_true g0] at e1;refine sZ 500 ?_;refine nwI (ff2 e1 kT) ?_;refine ifI ?_;refine skI ?_;refine OkS.reg w1 900 (by kernel_rfl) ?_;refine nwI wi ?_;exact ⟨(i+1,_),⟨trivial,hi2,hnext l0⟩,by dsimp only;omega,wkI⟩
   ·have l0:a2t x=chk x:=by unfold a2t;rw [if_neg g0]
    rw [decide_eq_false g0] at e1;refine sZ 500 ?_;refine nwI (ff2 e1 kF) ?_;refine ifI ?_;refine sR 600 ?_;refine cI c1 ?_
    by_cases g:chk x=0
    ·have e5:(((chk x:Nat):Int) != 0)=false:=by rw [g];rfl
     refine sZ 700 ?_;refine nwI e5 ?_;refine ifI ?_;refine skI ?_;refine OkS.reg w1 900 (by kernel_rfl) ?_;refine nwI wi ?_;exact ⟨(i+1,_),⟨trivial,hi2,hnext (by rw [l0];exact g)⟩,by dsimp only;omega,wkI⟩
    ·have e5:(((chk x:Nat):Int) != 0)=true:=a3D (by omega)
     refine sZ 700 ?_;refine nwI e5 ?_;refine ifI ?_;refine sR 800 ?_;refine rtI ?_;exact a0a (by rw [hret (by rw [l0];exact g),l0]) IsPure.out
  ·have hi2:i=2:=by
    have:=of_decide_eq_false hlt
    omega
   subst hi2;refine exI ?_;exact ⟨rfl,_,⟨ha 0 (by omega),ha 1 (by omega)⟩,wkI⟩
 rintro n0 ⟨la,lb⟩;have ra:=b0r a f1 la;have rb:=b0r b f2 lb;obtain ⟨qa,hqa⟩:∃ q,decide (a=[])=q:=⟨_,rfl⟩
 obtain ⟨qb,hqb⟩:∃ q,decide (b=[])=q:=⟨_,rfl⟩
 dsimp only [c7i] at ra rb;rw [hqa] at ra;rw [hqb] at rb;refine sR 1000 ?_;refine cI ra ?_;refine cI rb ?_;refine OkS.seqX (α:=Nat × Nat) (fun q=>⟨[(1,i64 (k:Int)),(2,c2m p),(12,.optr 1005 q.1 10 0 0)],[⟨1005,q.1,140,10,[.agg (c9C qa qb a b)]⟩],q.2⟩) (fun _=>¬ (a≠[]∧b≠[]∧a2H (a0g a) (a0g b)>0)) ?_ ?_
 ·cases qa
  rotate_left
  ·refine sZ 1100 ?_
   refine nwI kB ?_;refine gwI kB ?_;refine gwI kB ?_;refine ifI ?_;refine skI ?_;exact ⟨rfl,(_,_),fun h=>h.1 (of_decide_eq_true hqa),wkI⟩
  have ga:=of_decide_eq_false hqa;cases qb
  rotate_left
  ·refine sZ 1100 ?_
   refine nwI kB ?_;refine gwI kB ?_;refine gwI kB ?_;refine ifI ?_;refine skI ?_;exact ⟨rfl,(_,_),fun h=>h.2.1 (of_decide_eq_true hqb),wkI⟩
  have gb:=of_decide_eq_false hqb;have cc:=b5w la lb ga gb;refine sZ 1100 ?_;refine nwI kB ?_;refine gwI kB ?_;refine gwI kB ?_;refine gcI kB ?_;refine a0j.same _ cc inferInstance ?_;refine gwI kB ?_
  by_cases g3:a2H (a0g a) (a0g b)>0
  ·rw [decide_eq_true g3]
   refine ifI ?_;refine sR 1200 ?_;refine rtI ?_;refine a0a ?_ IsPure.out;unfold a1a;rw [if_neg (fun h=>h la),if_neg (fun h=>h lb),if_pos ⟨ga,gb,g3⟩];rfl
  ·rw [decide_eq_false g3]
   refine ifI ?_;refine skI ?_;exact ⟨rfl,(_,_),fun h=>g3 h.2.2,wkI⟩
 rintro ⟨h0,n1⟩ hcmp;have hck:a1a a b (c0N p k)=match c0N p k with|none=>0|some (c,d)=>if b1q a b c d then 0 else 11:=by
  unfold a1a;rw [if_neg (fun h=>h la),if_neg (fun h=>h lb),if_neg hcmp]
  all_goals (cases c0N p k<;>rfl)
 rw [hck];cases p with
 | none =>
  dsimp only [c2m,c0N,Option.map];refine OkS.seq ?_;refine sR 1300 ?_;refine ifI ?_;refine sR 1400 ?_;refine rtI ?_;exact a0a rfl IsPure.out
 | some y =>
  obtain ⟨yf,y1,y2,lc,ld⟩:=hp y rfl;have m3:=a3x y1;have m4:=a3x y2;have f3:=a5I y1 yf.2.2.2.1;have f4:=a5I y2 yf.2.2.2.2;dsimp only [c2m,c0N,Option.map];obtain ⟨c,ec⟩:∃ c,lv y.least k=c:=⟨_,rfl⟩
  obtain ⟨d,ed⟩:∃ d,lv y.most k=d:=⟨_,rfl⟩
  rw [ec] at m3 f3 lc ⊢;rw [ed] at m4 f4 ld ⊢;have rc:=b0r c f3 lc;have rd:=b0r d f4 ld;obtain ⟨qc,hqc⟩:∃ q,decide (c=[])=q:=⟨_,rfl⟩
  obtain ⟨qd,hqd⟩:∃ q,decide (d=[])=q:=⟨_,rfl⟩
  have hord:b1q a b c d=((qa||(!qc && !decide (a2H (a0g a) (a0g c)>0)))&&(qb||(!qd && !decide (a2H (a0g b) (a0g d)<0)))):=by
   unfold b1q;rw [hqa,hqb,hqc,hqd,c4S (a0g a) (a0g c),c9s (a0g b) (a0g d)]
  dsimp only [c7i] at rc rd;rw [hqc] at rc;rw [hqd] at rd;unfold a1k.D;refine OkS.seq ?_;refine sR 1300 ?_;refine ifI ?_;refine skI ?_;refine OkS.seq ?_;refine OkS.regD w1 1500 [0,1,2,3,4,5,6,7,8,9,10,11,12,13,14,15,16,17] [18] (by kernel_rfl) ?_;refine gwI kN ?_;refine ixI kT m3 ?_;refine gwI kN ?_;refine a0n.same _ rc inferInstance ?_;refine gwI kN ?_;refine ixI kT m4 ?_;refine gwI kN ?_;refine a0n.same _ rd inferInstance ?_;refine gwI kN ?_;refine OkS.seq ?_;cases qa
  rotate_left
  ·skip
   cases qb
   rotate_left
   ·refine sZ 1600 ?_
    refine nwI kB ?_;refine gwI kB ?_;refine gwI kB ?_;refine ifI ?_;refine skI ?_;refine sR 1800 ?_;refine rtI ?_;exact a0a (by rw [hord];simp []) IsPure.out
   have gb:=of_decide_eq_false hqb;cases qd
   rotate_left
   ·refine sZ 1600 ?_
    refine nwI kB ?_;refine gwI kB ?_;refine gwI kB ?_;refine gwI kB ?_;refine ifI ?_;refine sR 1700 ?_;refine rtI ?_;exact a0a (by rw [hord];simp []) IsPure.out
   have gd:=of_decide_eq_false hqd;have cc2:=b5w lb ld gb gd;refine sZ 1600 ?_;refine nwI kB ?_;refine gwI kB ?_;refine gwI kB ?_;refine gwI kB ?_;refine gcI kB ?_;refine a0j.same _ cc2 inferInstance ?_;refine gwI kB ?_;refine gwI kB ?_
   by_cases g4:a2H (a0g b) (a0g d)<0
   ·rw [decide_eq_true g4]
    refine ifI ?_;refine sR 1700 ?_;refine rtI ?_;exact a0a (by rw [hord];simp [g4]) IsPure.out
   ·rw [decide_eq_false g4]
    refine ifI ?_;refine skI ?_;refine sR 1800 ?_;refine rtI ?_;exact a0a (by rw [hord];simp [g4]) IsPure.out
  have ga:=of_decide_eq_false hqa;cases qc
  rotate_left
  ·refine sZ 1600 ?_
   refine nwI kB ?_;refine gwI kB ?_;refine gwI kB ?_;refine ifI ?_;refine sR 1700 ?_;refine rtI ?_;exact a0a (by rw [hord];simp) IsPure.out
  have gc:=of_decide_eq_false hqc;have cc:=b5w la lc ga gc;refine sZ 1600 ?_;refine nwI kB ?_;refine gwI kB ?_;refine gwI kB ?_;refine gcI kB ?_;refine a0j.same _ cc inferInstance ?_;refine gwI kB ?_
  by_cases g3:a2H (a0g a) (a0g c)>0
  ·rw [decide_eq_true g3]
   refine gwI kB ?_;refine gwI kB ?_;refine ifI ?_;refine sR 1700 ?_;refine rtI ?_;exact a0a (by rw [hord];simp [g3]) IsPure.out
  ·rw [decide_eq_false g3]
   cases qb
   rotate_left
   ·skip
    refine gwI kB ?_;refine gwI kB ?_;refine ifI ?_;refine skI ?_;refine sR 1800 ?_;refine rtI ?_;exact a0a (by rw [hord];simp [g3]) IsPure.out
   have gb:=of_decide_eq_false hqb;cases qd
   rotate_left
   ·skip
    refine gwI kB ?_;refine gwI kB ?_;refine gwI kB ?_;refine ifI ?_;refine sR 1700 ?_;refine rtI ?_;exact a0a (by rw [hord];simp [g3]) IsPure.out
   have gd:=of_decide_eq_false hqd;have cc2:=b5w lb ld gb gd;refine gwI kB ?_;refine gwI kB ?_;refine gwI kB ?_;refine gcI kB ?_;refine a0j.same _ cc2 inferInstance ?_;refine gwI kB ?_;refine gwI kB ?_
   by_cases g4:a2H (a0g b) (a0g d)<0
   ·rw [decide_eq_true g4]
    refine ifI ?_;refine sR 1700 ?_;refine rtI ?_;exact a0a (by rw [hord];simp [g3,g4]) IsPure.out
   ·rw [decide_eq_false g4]
    refine ifI ?_;refine skI ?_;refine sR 1800 ?_;refine rtI ?_;exact a0a (by rw [hord];simp [g3,g4]) IsPure.out
theorem b8a (l:List a1k)(g:a1k):l.any (b1s g)=l.any (fun x=>decide (x.name=g.name)):=rfl
def b0X (gs:List a1k)(i:Nat):Option a1k:=if i=0 then none else some (gs.getD (i - 1) default)
theorem b3j (gs:List a1k)(i k:Nat):c0N (b0X gs i) k=a1O gs i k:=by
 unfold c0N b0X a1O
 by_cases h:i=0
 ·rw [if_pos h,if_pos h];rfl
 ·rw [if_neg h,if_neg h];rfl
theorem c9Q (s:a1K)(i:Nat)(hs:s.few)(hi:i<s.gs.length)(hp:0<i→gOk s.fs.length (s.gs.getD (i - 1) default)) :
  a0b C0 241 [s.D,i64 (i:Int)] (i64 (a0C s.fs.length s.gs i)):=by
 refine a0c.walk w1 c4F rfl fun F=>?_
 have hm:=b5H hi;have hgf:=hs.2.2.2 _ (List.mem_of_getElem? (a2J hi));have hmp:0<i→(s.gs.map a1k.D)[i - 1]? = some (s.gs.getD (i - 1) default).D:=fun h=>by
  rw [List.getElem?_map,a2J (by omega)];rfl
 have hpf:0<i→(s.gs.getD (i - 1) default).few:=fun h=>hs.2.2.2 _ (List.mem_of_getElem? (a2J (by omega)))
 have hpre:∀ k,c0N (b0X s.gs i) k=a1O s.gs i k:=b3j s.gs i;have hprev:∀ y,b0X s.gs i=some y→y=s.gs.getD (i - 1) default∧0<i:=fun y h=>by
  unfold b0X at h
  by_cases h0:i=0
  ·rw [if_pos h0] at h;cases h
  ·rw [if_neg h0] at h;cases h;exact ⟨rfl,by omega⟩
 have el1:(((s.fs.map a1R.D).length:Nat):Int)=(s.fs.length:Int):=by rw [List.length_map]
 have ls:=hs.1;have lg:=hs.2.1;have hcg:∀ g,s.gs.getD i default=g→a0C s.fs.length s.gs i=if a1l g.name then
  (if (s.gs.take i).any (fun x=>decide (x.name=g.name)) then 9
  else if g.least.length=s.fs.length∧g.most.length=s.fs.length then a8M (fun k=>a1a (lv g.least k) (lv g.most k) (a1O s.gs i k)) s.fs.length
  else 2)
 else 8:=fun g h=>by unfold a0C;rw [h]
 obtain ⟨g,hg⟩:∃ g,s.gs.getD i default=g:=⟨_,rfl⟩
 rw [hcg g hg];rw [hg] at hm hgf;have cn:a0b C0 170 [str (sb g.name)] (boo (a1l g.name)):=a6k (sb g.name);have ca:a0b C0 272 [.sl false 3 ((s.gs.map a1k.D).take i),.clo (.func 273) [] [.pptr g.D]] (boo ((s.gs.take i).any (b1s g))):=by
  have:=d6p (s.gs.take i) g (by rw [List.length_take];omega)
  rw [List.map_take] at this;exact this
 rw [b8a] at ca;obtain ⟨n,hn⟩:∃ n,s.fs.length=n:=⟨_,rfl⟩
 rw [hn] at el1 hp ls ⊢;obtain ⟨fsD,hfsD⟩:∃ x,s.fs.map a1R.D=x:=⟨_,rfl⟩
 obtain ⟨gsD,hgsD⟩:∃ x,s.gs.map a1k.D=x:=⟨_,rfl⟩
 have pf:IsPure (.sl false 4 fsD):=by rw [← hfsD];exact inferInstance
 have pg:IsPure (.sl false 3 gsD):=by rw [← hgsD];exact inferInstance
 have pgt:IsPure (.sl false 3 (gsD.take i)):=by
  rw [← hgsD,← List.map_take];exact inferInstance
 have gl:gsD.length=s.gs.length:=by rw [← hgsD,List.length_map]
 unfold a1K.D;rw [hfsD,hgsD];rw [hfsD] at el1;rw [hgsD] at hm hmp ca;unfold a1k.D at ca;refine sR 0 ?_;refine sZ 100 ?_;refine gwI kN ?_;refine ixI kT hm ?_;refine gwI kN ?_;refine OkS.seq ?_;refine sR 200 ?_;refine cI cn ?_;cases hnm:a1l g.name
 ·rw [if_neg (by decide)]
  refine ifI ?_;refine sR 300 ?_;refine rtI ?_;exact a0a rfl IsPure.out
 rw [if_pos rfl];refine ifI ?_;refine skI ?_;refine OkS.seq ?_;refine sZ 400 ?_;refine gwI kN ?_;simp only [Nat.sub_zero,List.drop_zero];refine a0j.own _ (a0z.lendS ca rfl (d2y (FzS.refl _ _) (.clo1 (.ptr rfl rfl rfl rfl))) inferInstance (.prim _)) ?_;rintro d H2 n2 ⟨rfl,rfl,rfl⟩;refine stI ?_;cases hany:(s.gs.take i).any (fun x=>decide (x.name=g.name))
 rotate_left
 ·rw [if_pos rfl]
  refine ifI ?_;refine sR 500 ?_;refine rtI ?_;exact a0a rfl IsPure.out
 rw [if_neg (by decide)];refine ifI ?_;refine skI ?_;have el2:(((g.least.map fun l=>str (sb l)).length:Nat):Int)=(g.least.length:Int):=by rw [List.length_map]
 have el3:(((g.most.map fun l=>str (sb l)).length:Nat):Int)=(g.most.length:Int):=by rw [List.length_map]
 by_cases h1:g.least.length=n
 rotate_left
 ·have e3:(((g.least.length:Nat):Int) != ((n:Nat):Int))=true:=by
   have:(((g.least.length:Nat):Int)==((n:Nat):Int))=false:=beq_eq_false_iff_ne.2 (by omega)
   unfold bne;rw [this];rfl
  rw [if_neg (fun h=>h1 h.1)];refine OkS.seq ?_;refine sZ 600 ?_;refine nwI (ff5 el1 el2 e3 kT kF) ?_;refine gwI kB ?_;refine ifI ?_;refine sR 700 ?_;refine rtI ?_;exact a0a rfl IsPure.out
 have e3:(((g.least.length:Nat):Int) != ((n:Nat):Int))=false:=by rw [h1];simp
 by_cases h2:g.most.length=n
 rotate_left
 ·have e4:(((g.most.length:Nat):Int) != ((n:Nat):Int))=true:=by
   have:(((g.most.length:Nat):Int)==((n:Nat):Int))=false:=beq_eq_false_iff_ne.2 (by omega)
   unfold bne;rw [this];rfl
  rw [if_neg (fun h=>h2 h.2)];refine OkS.seq ?_;refine sZ 600 ?_;refine nwI (ff5 el1 el2 e3 kT kF) ?_;refine gwI kB ?_;simp only [el1,el3,e4];refine ifI ?_;refine sR 700 ?_;refine rtI ?_;exact a0a rfl IsPure.out
 have e4:(((g.most.length:Nat):Int) != ((n:Nat):Int))=false:=by rw [h2];simp
 rw [if_pos ⟨h1,h2⟩];refine OkS.seq ?_;refine sZ 600 ?_;refine nwI (ff5 el1 el2 e3 kT kF) ?_;refine gwI kB ?_;simp only [el1,el3,e4];refine ifI ?_;refine skI ?_;refine sR 800 ?_;obtain ⟨P,hP⟩:∃ P,c2m (b0X s.gs i)=P:=⟨_,rfl⟩
 have pP:IsPure P:=by rw [← hP];exact inferInstance
 refine OkS.seqX (α:=Nat) (fun m=>⟨[(2,.optr 0 0 2 0 0),(5,.optr 105 7 3 0 0),(6,P)],[⟨105,7,56,3,[.agg [str (sb g.name),.sl false 1 (g.least.map fun l=>str (sb l)),.sl false 1 (g.most.map fun l=>str (sb l))]]⟩,⟨0,0,39,2,[.agg [.sl false 4 fsD,.sl false 3 gsD]]⟩],m⟩) (fun _=>True) ?_ ?_
 ·by_cases h0:i=0
  ·have e5:decide ((i:Int)>0)=false:=decide_eq_false (by omega)
   have:P=.prim (.pointer none):=by rw [← hP];unfold b0X;rw [if_pos h0];rfl
   subst this;refine sZ 900 ?_;refine nwI e5 ?_;refine ifI ?_;refine skI ?_;exact ⟨rfl,_,trivial,wkI⟩
  ·have e5:decide ((i:Int)>0)=true:=decide_eq_true (by omega)
   have:P=.pptr (s.gs.getD (i - 1) default).D:=by rw [← hP];unfold b0X;rw [if_neg h0];rfl
   subst this;have ws:IntKind.i64.wrap ((i:Int) - 1)=((i - 1:Nat):Int):=by
    rw [show (i:Int) - 1=((i - 1:Nat):Int) by omega];exact wI (by omega) (by omega)
   have hm1:=hmp (by omega);refine sZ 900 ?_;refine nwI e5 ?_;refine ifI ?_;refine OkS.reg w1 1000 (by kernel_rfl) ?_;refine gwI (ff2 ws kN) ?_
   try simp only [ws]
   refine ixI kT hm1 ?_;refine gwI (ff2 ws kN) ?_;exact ⟨trivial,_,trivial,wkI⟩
 rintro n3 -;refine OkS.seq ?_;refine sZ 1100 ?_;refine nwI el1 ?_;refine OkS.block ?_;refine OkS.loop (α:=Nat × Nat) (fun q=>⟨[(5,.optr 105 7 3 0 0),(6,P),(49,i64 (n:Int)),(50,i64 (q.1:Int))],[⟨105,7,56,3,[.agg [str (sb g.name),.sl false 1 (g.least.map fun l=>str (sb l)),.sl false 1 (g.most.map fun l=>str (sb l))]]⟩],q.2⟩) (fun q=>n - q.1) (fun q=>q.1≤n∧∀ j,j<q.1→a1a (lv g.least j) (lv g.most j) (a1O s.gs i j)=0) (0,_) ⟨Nat.zero_le _,fun j hj=>absurd hj (Nat.not_lt_zero j)⟩ wkI ?_;rintro ⟨k,m⟩ F ⟨hk,ha⟩;dsimp only at hk ha ⊢;refine sR 1200 ?_;refine OkS.seq ?_;refine ifI ?_
 (refine brI (fun hlt=>?_) (fun hlt=>?_))<;>(try simp only [Bool.not_eq_true',Bool.not_eq_false'] at hlt)<;>(try simp only [hlt])
 ·have hk2:k<n:=by
   have:=of_decide_eq_true hlt
   omega
  have wi:IntKind.i64.wrap ((k:Int)+1)=((k+1:Nat):Int):=wI (by omega) (by omega);have cl:=c5u g k (b0X s.gs i) hgf (by omega) (by omega) (fun y hy=>by
   obtain ⟨rfl,hi0⟩:=hprev y hy;obtain ⟨q1,q2,q3⟩:=hp hi0
   have:=q3 k hk2
   exact ⟨hpf hi0,by omega,by omega,this.1,this.2⟩)
  rw [hP,hpre k] at cl;unfold a1k.D at cl;obtain ⟨c,hc⟩:∃ c,a1a (lv g.least k) (lv g.most k) (a1O s.gs i k)=c:=⟨_,rfl⟩
  rw [hc] at cl;refine skI ?_;refine OkS.seq ?_;refine OkS.block ?_;refine sR 1300 ?_;refine sR 1400 ?_;refine cI cl ?_
  by_cases g1:c=0
  ·have e5:(((c:Nat):Int) != 0)=false:=by rw [g1];rfl
   refine sZ 1500 ?_;refine nwI e5 ?_;refine ifI ?_;refine skI ?_;refine OkS.reg w1 1700 (by kernel_rfl) ?_;refine nwI wi ?_;refine ⟨(k+1,_),⟨hk2,fun j hj=>?_⟩,by dsimp only;omega,wkI⟩;rcases Nat.lt_or_ge j k with h|h
   ·exact ha j h
   ·have:j=k:=by dsimp only at hj;omega
    rw [this,hc];exact g1
  ·have e5:(((c:Nat):Int) != 0)=true:=a3D (by omega)
   refine sZ 1500 ?_;refine nwI e5 ?_;refine ifI ?_;refine sR 1600 ?_;refine rtI ?_;refine a0a ?_ IsPure.out;rw [a6v (f:=fun k=>a1a (lv g.least k) (lv g.most k) (a1O s.gs i k)) ha hk2 (by show a1a (lv g.least k) (lv g.most k) (a1O s.gs i k)≠0;rw [hc];exact g1)]
   try dsimp only
   rw [hc]
 ·have hk2:k=n:=by
   have:=of_decide_eq_false hlt
   omega
  subst hk2;refine exI ?_;refine sR 1800 ?_;refine rtI ?_;exact a0a (by rw [a3c ha];rfl) IsPure.out
def d4Y (N:Hp):Prop:=N=[]∨∃ g es,N=[⟨303,g,96,4,es⟩]
def d2z (e:Int)(Ha Hb:Hp)(j:Option Code)(H':Hp):Prop:=(e=0→j=none∧H'=Ha)∧(e≠0→j=some .ret∧H'=Hb)
theorem b6t (n:Nat):a2d [if ((n:Int)==0) then 2 else 0,if decide ((n:Int)>8) then 5 else 0]=((b2E n:Nat):Int):=by
 unfold b2E
 by_cases h:n=0
 ·subst h;decide
 ·have e1:((n:Int)==0)=false:=beq_eq_false_iff_ne.2 (by omega)
  rw [e1,if_neg h]
  by_cases h2:n>8
  ·have e2:decide ((n:Int)>8)=true:=decide_eq_true (by omega)
   rw [e2,if_pos h2];rfl
  ·have e2:decide ((n:Int)>8)=false:=decide_eq_false (by omega)
   rw [e2,if_neg h2];rfl
theorem b6a (n:Nat):a2d [if ((n:Int)==0) then 2 else 0,if decide ((n:Int)>16) then 5 else 0]=((b1Y n:Nat):Int):=by
 unfold b1Y
 by_cases h:n=0
 ·subst h;decide
 ·have e1:((n:Int)==0)=false:=beq_eq_false_iff_ne.2 (by omega)
  rw [e1,if_neg h]
  by_cases h2:n>16
  ·have e2:decide ((n:Int)>16)=true:=decide_eq_true (by omega)
   rw [e2,if_pos h2];rfl
  ·have e2:decide ((n:Int)>16)=false:=decide_eq_false (by omega)
   rw [e2,if_neg h2];rfl
theorem b1S (fs:List a1R)(i:Nat):a2d [(a0X (fs.getD i default):Int),if (fs.take i).any (a7p (fs.getD i default)) then 9 else 0]=((a1S fs i:Nat):Int):=by
 unfold a1S
 have:(fs.take i).any (a7p (fs.getD i default))=(fs.take i).any (fun x=>decide (x.name=(fs.getD i default).name)):=rfl
 rw [this]
 by_cases h:a0X (fs.getD i default)=0
 ·rw [h]
  cases (fs.take i).any (fun x=>decide (x.name=(fs.getD i default).name))<;>simp [a2d]
 ·rw [if_pos h]
  show (if (a0X (fs.getD i default):Int)≠0 then _ else _)=_;rw [if_pos (by omega)]
theorem c8M {E:a2N}{l:Nat}{R:LR}(hE:a2N.ok E)(s:a1K)(hs:s.few)(H0:Hp)(H1:Int→Hp)(n0:Nat)
  (hY:∀ (e:Int) (N:Hp) (n:Nat),d4Y N→a9E C0 E l R [i64 e] (N++H0) n (fun j H' n'=>d2z e (N++H0) (N++H1 e) j H')) :
  a5Y C0 E 238 [.clo (.yield l) [] [],.pptr s.D] l R H0 n0 (fun j d H' n'=>d2z (a0p s:Int) H0 (H1 (a0p s:Int)) j H'):=by
 refine a5Y.walk w1 hE b8M rfl fun B F hR=>?_
 have hsc:a0p s=if b2E s.fs.length≠0 then b2E s.fs.length
  else if a8M (a1S s.fs) s.fs.length≠0 then a8M (a1S s.fs) s.fs.length
  else if b1Y s.gs.length≠0 then b1Y s.gs.length
  else a8M (a0C s.fs.length s.gs) s.gs.length:=rfl
 have hpg:∀ i,i<s.gs.length→(∀ j,j<i→a0C s.fs.length s.gs j=0)→a0b C0 241 [s.D,i64 (i:Int)] (i64 (a0C s.fs.length s.gs i)):=fun i hi ha=>c9Q s i hs hi (fun h=>a5w (ha (i - 1) (by omega)))
 have fl:(s.fs.map a1R.D).length=s.fs.length:=List.length_map _;have gl:(s.gs.map a1k.D).length=s.gs.length:=List.length_map _;have ls:=hs.1;have lg:=hs.2.1;have hmf:∀ i,i<s.fs.length→(s.fs.map a1R.D)[((i:Nat):Int).toNat]? = some (.agg [str (sb (s.fs.getD i default).name),str (sb (s.fs.getD i default).tol),str (sb (s.fs.getD i default).kind),str (sb (s.fs.getD i default).step)]):=fun i hi=>by
  rw [Int.toNat_natCast];exact b9K hi
 have hcf:∀ i,i<s.fs.length→a0b C0 103 [.agg [str (sb (s.fs.getD i default).name),str (sb (s.fs.getD i default).tol),str (sb (s.fs.getD i default).kind),str (sb (s.fs.getD i default).step)]] (i64 (a0X (s.fs.getD i default))):=fun i hi=>c0r _ (hs.2.2.1 _ (List.mem_of_getElem? (a8h hi)))
 have hca:∀ i,i<s.fs.length→a0b C0 239 [.sl false 4 ((s.fs.map a1R.D).take i),.clo (.func 240) [] [.pptr (.agg [str (sb (s.fs.getD i default).name),str (sb (s.fs.getD i default).tol),str (sb (s.fs.getD i default).kind),str (sb (s.fs.getD i default).step)])]] (boo ((s.fs.take i).any (a7p (s.fs.getD i default)))):=fun i hi=>by
  have:=d5Q (s.fs.take i) (s.fs.getD i default) (by rw [List.length_take];omega)
  rw [List.map_take] at this;exact this
 have hc2:∀ i,a0b C0 96 [.sl true 1 [i64 (a0X (s.fs.getD i default)),i64 (if (s.fs.take i).any (a7p (s.fs.getD i default)) then 9 else 0)]] (i64 (a1S s.fs i)):=fun i=>by
  have:=a8w [(a0X (s.fs.getD i default):Int),if (s.fs.take i).any (a7p (s.fs.getD i default)) then 9 else 0] (by simp)
  rw [b1S] at this;exact this
 have c0:a0b C0 96 [.sl true 1 [i64 (if (((s.fs.map a1R.D).length:Int)==0) then 2 else 0),i64 (if decide (((s.fs.map a1R.D).length:Int)>8) then 5 else 0)]] (i64 (b2E s.fs.length)):=by
  have:=a8w [if (((s.fs.map a1R.D).length:Int)==0) then 2 else 0,if decide (((s.fs.map a1R.D).length:Int)>8) then 5 else 0] (by simp)
  rw [b6t,fl] at this;rw [fl];exact this
 have c7:a0b C0 96 [.sl true 1 [i64 (if (((s.gs.map a1k.D).length:Int)==0) then 2 else 0),i64 (if decide (((s.gs.map a1k.D).length:Int)>16) then 5 else 0)]] (i64 (b1Y s.gs.length)):=by
  have:=a8w [if (((s.gs.map a1k.D).length:Int)==0) then 2 else 0,if decide (((s.gs.map a1k.D).length:Int)>16) then 5 else 0] (by simp)
  rw [b6a,gl] at this;rw [gl];exact this
 obtain ⟨v,hv⟩:∃ v,a0p s=v:=⟨_,rfl⟩
 rw [hv] at hsc ⊢;unfold a1K.D at hpg;unfold a1K.D;obtain ⟨fsD,hfsD⟩:∃ x,s.fs.map a1R.D=x:=⟨_,rfl⟩
 obtain ⟨gsD,hgsD⟩:∃ x,s.gs.map a1k.D=x:=⟨_,rfl⟩
 have pf:IsPure (.sl false 4 fsD):=by rw [← hfsD];exact inferInstance
 have pg:IsPure (.sl false 3 gsD):=by rw [← hgsD];exact inferInstance
 have pft:∀ i,IsPure (.sl false 4 (fsD.take i)):=fun i=>by
  rw [← hfsD,← List.map_take];exact inferInstance
 have pp:IsPure (.pptr (.agg [.sl false 4 fsD,.sl false 3 gsD])):=by
  rw [← hfsD,← hgsD];exact inferInstance
 rw [hfsD] at fl hmf hca c0 hpg ⊢;rw [hgsD] at gl c7 hpg ⊢;refine OkS.seq ?_;refine OkS.seq ?_;refine OkS.regDY w1 0 [0,1,2,3,4,5,6,7,8,9,10,11,12] [] 13 [14] (b0E [(14,[13,0,12,11,10,5,4,3,2,1,9,8,7,6]),(13,[0,12,11,10,5,4,3,2,1,9,8,7,6]),(12,[11,10,5,4,3,2,1,9,8,7,6]),(11,[5,10,4,3,2,1,9,8,7,6]),(10,[9,5,8,7,6,4,3,2,1]),(9,[8,7,6]),(8,[7,6]),(7,[6]),(6,[]),(5,[4,3,2,1]),(4,[3,2,1]),(3,[2,1]),(2,[1]),(1,[]),(0,[])] (by kernel_rfl)) hR ?_;refine nxI ?_;refine a0n.same _ (a1B _ 2) inferInstance ?_;refine nxI ?_;refine a0n.same _ (a1B _ 5) inferInstance ?_;refine nxI ?_;refine a0n.same _ (c0) inferInstance ?_;refine nxI ?_;refine ⟨rfl,_,hY _ [] _ (.inl rfl),?_,?_⟩
 rotate_left
 ·rintro c H' n1 hO F2 hst
  have hne:((b2E s.fs.length:Nat):Int)≠0:=fun h=>by have:=(hO.1 h).1;cases this
  obtain ⟨hc,rfl⟩:=hO.2 hne;cases hc;have hv2:v=b2E s.fs.length:=by rw [hsc,if_pos (by omega)]
  rw [← hv2] at hne ⊢;refine nxI ?_;refine ifI ?_;refine OkS.weak ⟨[],H1 ((v:Nat):Int),_⟩ wkI ?_;refine OkS.ret ?_;exact ⟨_,hst,trivial,⟨fun h=>absurd h hne,fun _=>⟨rfl,rfl⟩⟩⟩
 rintro H' n1 hO;have hz:b2E s.fs.length=0:=Classical.byContradiction fun h=>by have:=(hO.2 (by omega)).1;cases this
 obtain ⟨_,hh⟩:=hO.1 (by omega);rw [hh];rw [if_neg (fun h=>h hz)] at hsc;dsimp only [List.nil_append];refine nxI ?_;refine ifI ?_;refine skI ?_;refine OkS.seq ?_;refine fR 100 ?_;refine OkS.block ?_;rw [fl];refine OkS.loopF (α:=Nat × Nat) (fun p=>⟨[(0,.clo (.yield l) [] []),(1,.pptr (.agg [.sl false 4 fsD,.sl false 3 gsD])),(23,.sl false 4 fsD),(24,i64 (s.fs.length:Int)),(25,i64 (p.1:Int))],H0,p.2⟩) (fun p=>s.fs.length - p.1)
  (fun p F=>a7u C0 E B F l R∧p.1≤s.fs.length∧∀ j,j<p.1→a1S s.fs j=0) (0,_) ⟨hR,Nat.zero_le _,fun j hj=>absurd hj (Nat.not_lt_zero j)⟩ wkI ?_
 clear hR;rintro ⟨i,m⟩ F ⟨hR,hi,ha⟩;dsimp only at hi hR ha ⊢;refine fR 200 ?_;refine OkS.seq ?_;refine ifI ?_
 (refine brI (fun hlt=>?_) (fun hlt=>?_))<;>(try simp only [Bool.not_eq_true',Bool.not_eq_false'] at hlt)<;>(try simp only [hlt])
 ·have hi2:i<s.fs.length:=by
   have:=of_decide_eq_true hlt
   omega
  have hi3:i<fsD.length:=by omega
  have hm:=hmf i hi2;have cf:=hcf i hi2;have ca:=hca i hi2;have c2:=hc2 i;obtain ⟨e,he⟩:∃ e,a1S s.fs i=e:=⟨_,rfl⟩
  rw [he] at c2;have hve:e≠0→v=e:=fun h=>by
   have:=a6v (f:=a1S s.fs) ha hi2 (by rw [he];exact h)
   rw [he] at this;rw [this,if_pos h] at hsc;exact hsc
  have wi:IntKind.i64.wrap ((i:Int)+1)=((i+1:Nat):Int):=wI (by omega) (by omega);refine skI ?_;refine OkS.seq ?_;refine OkS.block ?_;refine fR 300 ?_;refine ⟨⟨rfl,by omega⟩,_,hm,?_⟩;refine dsI ?_
  try dsimp only [D.cells,spot]
  refine nxI ?_;refine fR 400 ?_;simp only [Int.toNat_natCast,Nat.sub_zero,List.drop_zero];refine a0j.own _ (a0z.lendS ca rfl (d2y (FzS.refl _ _) (.clo1 (.ptr rfl rfl rfl rfl))) inferInstance (.prim _)) ?_;rintro d H2 n2 ⟨rfl,rfl,rfl⟩;refine nxI ?_;refine OkS.seq ?_;refine OkS.regY w1 500 [0,1,2,3,4,5,6] 7 [8] rfl (by kernel_rfl) hR ?_;refine nxI ?_;refine a0j.same _ cf inferInstance ?_;refine nxI ?_;refine dI (a1B _ 9) ?_;refine dI c2 ?_;refine ⟨rfl,_,hY _ [_] _ (.inr ⟨_,_,rfl⟩),?_,?_⟩
  rotate_left
  ·rintro c H' n1 hO F2 hst
   have hne:((e:Nat):Int)≠0:=fun h=>by have:=(hO.1 h).1;cases this
   obtain ⟨hc,rfl⟩:=hO.2 hne;cases hc;have hv2:v=e:=hve (by omega);subst hv2;refine nxI ?_;refine ifI ?_;refine OkS.weak ⟨[],H1 ((v:Nat):Int),_⟩ wkI ?_;refine OkS.ret ?_;exact ⟨_,hst,trivial,⟨fun h=>absurd h hne,fun _=>⟨rfl,rfl⟩⟩⟩
  rintro H' n1 hO;have hz:e=0:=Classical.byContradiction fun h=>by have:=(hO.2 (by omega)).1;cases this
  obtain ⟨_,hh⟩:=hO.1 (by omega);rw [hh];refine nxI ?_;refine ifI ?_;refine skI ?_;refine OkS.reg w1 600 (by kernel_rfl) ?_;refine mwI wi ?_;refine ⟨(i+1,_),⟨hR,hi2,fun j hj=>?_⟩,(by dsimp only;omega),wkI⟩;rcases Nat.lt_or_ge j i with h|h
  ·exact ha j h
  ·have:j=i:=by dsimp only at hj;omega
   rw [this,he];exact hz
 have hi2:i=s.fs.length:=by
  have:=of_decide_eq_false hlt
  omega
 subst hi2;rw [a3c ha,if_neg (by decide)] at hsc;refine exI ?_;refine OkS.seq ?_;refine OkS.seq ?_;refine OkS.regDY w1 700 [0,1,2,3,4,5,6,7,8,9,10,11,12] [] 13 [14] (b0E [(14,[13,0,12,11,10,5,4,3,2,1,9,8,7,6]),(13,[0,12,11,10,5,4,3,2,1,9,8,7,6]),(12,[11,10,5,4,3,2,1,9,8,7,6]),(11,[5,10,4,3,2,1,9,8,7,6]),(10,[9,5,8,7,6,4,3,2,1]),(9,[8,7,6]),(8,[7,6]),(7,[6]),(6,[]),(5,[4,3,2,1]),(4,[3,2,1]),(3,[2,1]),(2,[1]),(1,[]),(0,[])] (by kernel_rfl)) hR ?_;refine nxI ?_;refine a0n.same _ (a1B _ 2) inferInstance ?_;refine nxI ?_;refine a0n.same _ (a1B _ 5) inferInstance ?_;refine nxI ?_;refine a0n.same _ (c7) inferInstance ?_;refine nxI ?_;refine ⟨rfl,_,hY _ [] _ (.inl rfl),?_,?_⟩
 rotate_left
 ·rintro c H' n1 hO F2 hst
  have hne:((b1Y s.gs.length:Nat):Int)≠0:=fun h=>by have:=(hO.1 h).1;cases this
  obtain ⟨hc,rfl⟩:=hO.2 hne;cases hc;have hv2:v=b1Y s.gs.length:=by rw [hsc,if_pos (by omega)]
  rw [← hv2] at hne ⊢;refine nxI ?_;refine ifI ?_;refine OkS.weak ⟨[],H1 ((v:Nat):Int),_⟩ wkI ?_;refine OkS.ret ?_;exact ⟨_,hst,trivial,⟨fun h=>absurd h hne,fun _=>⟨rfl,rfl⟩⟩⟩
 rintro H' n1 hO;have hz:b1Y s.gs.length=0:=Classical.byContradiction fun h=>by have:=(hO.2 (by omega)).1;cases this
 obtain ⟨_,hh⟩:=hO.1 (by omega);rw [hh];rw [if_neg (fun h=>h hz)] at hsc;dsimp only [List.nil_append];refine nxI ?_;refine ifI ?_;refine skI ?_;refine fR 800 ?_;refine OkS.block ?_;rw [gl];refine OkS.loopF (α:=Nat × Nat) (fun p=>⟨[(0,.clo (.yield l) [] []),(1,.pptr (.agg [.sl false 4 fsD,.sl false 3 gsD])),(63,i64 (s.gs.length:Int)),(64,i64 (p.1:Int))],H0,p.2⟩) (fun p=>s.gs.length - p.1)
  (fun p F=>a7u C0 E B F l R∧p.1≤s.gs.length∧∀ j,j<p.1→a0C s.fs.length s.gs j=0) (0,_) ⟨hR,Nat.zero_le _,fun j hj=>absurd hj (Nat.not_lt_zero j)⟩ wkI ?_
 clear hR ha;rintro ⟨i,m⟩ F ⟨hR,hi,ha⟩;dsimp only at hi hR ha ⊢;refine fR 900 ?_;refine OkS.seq ?_;refine ifI ?_
 (refine brI (fun hlt=>?_) (fun hlt=>?_))<;>(try simp only [Bool.not_eq_true',Bool.not_eq_false'] at hlt)<;>(try simp only [hlt])
 ·have hi2:i<s.gs.length:=by
   have:=of_decide_eq_true hlt
   omega
  have cg:=hpg i hi2 ha;obtain ⟨e,he⟩:∃ e,a0C s.fs.length s.gs i=e:=⟨_,rfl⟩
  rw [he] at cg;have hve:e≠0→v=e:=fun h=>by
   have:=a6v (f:=a0C s.fs.length s.gs) ha hi2 (by rw [he];exact h)
   rw [he] at this;rw [this] at hsc;exact hsc
  have wi:IntKind.i64.wrap ((i:Int)+1)=((i+1:Nat):Int):=wI (by omega) (by omega);refine skI ?_;refine OkS.seq ?_;refine OkS.block ?_;refine fR 1000 ?_;refine OkS.seq ?_;refine OkS.regY w1 1100 [0,1,2,3] 4 [5] rfl (by kernel_rfl) hR ?_;refine nxI ?_;refine a0j.same _ cg inferInstance ?_;refine nxI ?_;refine ⟨rfl,_,hY _ [] _ (.inl rfl),?_,?_⟩
  rotate_left
  ·rintro c H' n1 hO F2 hst
   have hne:((e:Nat):Int)≠0:=fun h=>by have:=(hO.1 h).1;cases this
   obtain ⟨hc,rfl⟩:=hO.2 hne;cases hc;have hv2:v=e:=hve (by omega);subst hv2;refine nxI ?_;refine ifI ?_;refine OkS.weak ⟨[],H1 ((v:Nat):Int),_⟩ wkI ?_;refine OkS.ret ?_;exact ⟨_,hst,trivial,⟨fun h=>absurd h hne,fun _=>⟨rfl,rfl⟩⟩⟩
  rintro H' n1 hO;have hz:e=0:=Classical.byContradiction fun h=>by have:=(hO.2 (by omega)).1;cases this
  obtain ⟨_,hh⟩:=hO.1 (by omega);rw [hh];dsimp only [List.nil_append];refine nxI ?_;refine ifI ?_;refine skI ?_;refine OkS.reg w1 1200 (by kernel_rfl) ?_;refine mwI wi ?_;refine ⟨(i+1,_),⟨hR,hi2,fun j hj=>?_⟩,(by dsimp only;omega),wkI⟩;rcases Nat.lt_or_ge j i with h|h
  ·exact ha j h
  ·have:j=i:=by dsimp only at hj;omega
   rw [this,he];exact hz
 have hi2:i=s.gs.length:=by
  have:=of_decide_eq_false hlt
  omega
 subst hi2;rw [a3c ha] at hsc;refine exI ?_;exact ⟨none,hR.stat,trivial,⟨fun _=>⟨rfl,rfl⟩,fun h=>absurd hsc (by omega)⟩⟩
theorem c5w (s:a1K):a0b C0 210 [s.D] (.clo (.func 238) [] [.pptr s.D]):=by
 refine a0c.walkS w1 b7x rfl fun F=>?_
 have hp:a2g (.clo (.func 238) [] [.pptr s.D]):=(inferInstance:IsPure (.clo (.func 238) [] [.pptr s.D])).out;unfold a1K.D at hp ⊢;refine fR 0 ?_;refine fR 100 ?_;refine rtI ?_;exact ⟨_,.clo1 (.ptr rfl rfl rfl rfl),hp,rfl⟩
abbrev b4c (e:Int):Ent:=⟨1,1,30,1,[i64 e]⟩
abbrev d3b (s:a1K):Ent:=⟨0,0,39,2,[s.D]⟩
theorem d5s (s:a1K)(hs:s.few):a0b C0 162 [s.D] (i64 (a0p s)):=by
 refine a0c.walk w1 b7O rfl fun F=>?_
 have cc:=c5w s;have hit:=fun {E:a2N} {l:Nat} {R:LR} (hE:a2N.ok E) (n0:Nat)=>c8M (E:=E) (l:=l) (R:=R) hE s hs [b4c 0,d3b s] (fun e=>[b4c e,d3b s]) n0
 obtain ⟨c,hc⟩:∃ c,a0p s=c:=⟨_,rfl⟩
 rw [hc];unfold d3b at hit;rw [hc] at hit;have pS:IsPure s.D:=inferInstance;have sD:∃ a b,s.D=.agg [a,b]:=⟨_,_,rfl⟩
 obtain ⟨d,hd⟩:∃ d,s.D=d:=⟨_,rfl⟩
 rw [hd] at cc hit pS sD ⊢;obtain ⟨a,b,rfl⟩:=sD;clear hd;refine sR 0 ?_;refine OkS.seq ?_;refine sR 100 ?_;refine cI cc ?_;refine OkS.block ?_;refine OkS.rangeFunc (fi:=238) (first:=[]) (captured:=[.pptr (.agg [a,b])]) (Ψ:=fun j d H' n'=>d2z (c:Int) [b4c 0,⟨0,0,39,2,[.agg [a,b]]⟩] [b4c c,⟨0,0,39,2,[.agg [a,b]]⟩] j H') rfl
  (fun ds H n Φ=>∃ e N,d4Y N∧ds=[i64 e]∧H=N++[b4c 0,⟨0,0,39,2,[.agg [a,b]]⟩]∧Φ=fun j H' n'=>d2z e (N++[b4c 0,⟨0,0,39,2,[.agg [a,b]]⟩]) (N++[b4c e,⟨0,0,39,2,[.agg [a,b]]⟩]) j H') ?_
  (fun E l R hE hY=>hit hE _ (fun e N n hN=>hY _ _ _ _ ⟨e,N,hN,rfl,rfl,rfl⟩)) ?_
 ·rintro l ds H n Φ ⟨e,N,hN,rfl,rfl,rfl⟩
  refine ⟨rfl,fun F=>?_⟩;refine OkS.reg w1 200 (by kernel_rfl) ?_;refine stI ?_;refine ⟨rfl,rfl,fun F'=>?_⟩;refine OkS.block ?_
  by_cases he:e=0
  ·subst he
   refine sR 300 ?_;refine ifI ?_;refine skI ?_;exact ⟨fun _=>⟨rfl,rfl⟩,fun h=>absurd rfl h⟩
  ·have e1:(e != 0)=true:=a3D he
   rcases hN with rfl|⟨g,es,rfl⟩
   ·dsimp only [List.nil_append]
    refine sZ 300 ?_;refine nwI e1 ?_;refine ifI ?_;refine sR 400 ?_;refine OkS.ret ?_;exact ⟨fun h=>absurd h he,fun _=>⟨rfl,rfl⟩⟩
   ·dsimp only [List.cons_append,List.nil_append]
    refine sZ 300 ?_;refine nwI e1 ?_;refine ifI ?_;refine sR 400 ?_;refine OkS.ret ?_;exact ⟨fun h=>absurd h he,fun _=>⟨rfl,rfl⟩⟩
 ·rintro j d H' n' F' hO
  by_cases h:(c:Int)=0
  ·obtain ⟨rfl,rfl⟩:=hO.1 h
   dsimp only [d1W];refine sR 500 ?_;refine rtI ?_;exact a0a (by rw [show c=0 by omega];rfl) IsPure.out
  ·obtain ⟨rfl,rfl⟩:=hO.2 h
   dsimp only [d1W];refine And.intro sdI ?_;refine dsI ?_;exact a0a rfl IsPure.out
def a4m (a b:List UInt8):Nat:=if a2t a≠0 then a2t a else a2t b
def a3m (a b:List UInt8):Nat:=if a4m a b=0∧a≠[]∧b≠[]∧a2H (a0g a) (a0g b)>0 then 3 else a4m a b
theorem a6R {a b:List UInt8}(h:a4m a b=0):a2t a=0∧a2t b=0:=by
 unfold a4m at h
 by_cases g:a2t a=0
 ·rw [if_neg (fun k=>k g)] at h;exact ⟨g,h⟩
 ·rw [if_pos g] at h;exact absurd h g
theorem a6P {a b:List UInt8}(h:a3m a b=0):a4m a b=0:=by
 unfold a3m at h;split at h
 ·cases h
 ·exact h
theorem b7F {a b:List UInt8}{p:Option (List UInt8 × List UInt8)}(h:a3m a b≠0):a1a a b p=a3m a b:=by
 unfold a1a;unfold a3m a4m at h ⊢
 by_cases g:a2t a=0
 ·simp only [g,ne_eq,not_true_eq_false,if_false] at h ⊢
  by_cases g2:a2t b=0
  ·simp only [g2,not_true_eq_false,if_false,true_and] at h ⊢
   by_cases g3:a≠[]∧b≠[]∧a2H (a0g a) (a0g b)>0
   ·rw [if_pos g3,if_pos g3]
   ·rw [if_neg g3] at h;exact absurd rfl h
  ·simp only [g2,not_false_eq_true,if_true,false_and,if_false]
 ·simp only [g,ne_eq,not_false_eq_true,if_true,false_and,if_false]
theorem c2p {a b:List UInt8}{p:Option (List UInt8 × List UInt8)}(h:a3m a b=0):a1a a b p=match p with
  | none=>0
  | some (c,d)=>if b1q a b c d then 0 else 11:=by
 obtain ⟨h1,h2⟩:=a6R (a6P h);unfold a1a;rw [if_neg (fun k=>k h1),if_neg (fun k=>k h2)]
 have:¬ (a≠[]∧b≠[]∧a2H (a0g a) (a0g b)>0):=fun g=>by
  unfold a3m at h;rw [if_pos ⟨a6P (by unfold a3m;exact h),g⟩] at h;cases h
 rw [if_neg this]
 all_goals (cases p<;>rfl)
theorem b4y {α:Type}{l:List α}{p:α→Bool}{k:Nat}{x:α}(hx:l[k]? = some x)(h:(l.take k).any p=false)(hp:p x=false):(l.take (k+1)).any p=false:=by
 rw [List.take_add_one,hx,List.any_append,h];simp [hp]
theorem c7K (s:a1K)(i:Nat)(hs:s.few)(hi:i<s.gs.length)(hp:0<i→gOk s.fs.length (s.gs.getD (i - 1) default)) :
  a0b C0 76 [s.D,i64 (i:Int)] (i64 (a0C s.fs.length s.gs i)):=by
 refine a0c.walk w1 d3S rfl fun F=>?_
 have hm:=b5H hi;have hgm:∀ k,k<s.gs.length→(s.gs.map a1k.D)[k]? = some (.agg [str (sb (s.gs.getD k default).name),.sl false 1 ((s.gs.getD k default).least.map fun l=>str (sb l)),.sl false 1 ((s.gs.getD k default).most.map fun l=>str (sb l))]):=fun k hk=>b5H hk
 have hgs:∀ k,k<s.gs.length→s.gs[k]? = some (s.gs.getD k default):=fun k hk=>a2J hk
 have hgf:=hs.2.2.2 _ (List.mem_of_getElem? (a2J hi));have hpf:0<i→(s.gs.getD (i - 1) default).few:=fun h=>hs.2.2.2 _ (List.mem_of_getElem? (a2J (by omega)))
 have el1:(((s.fs.map a1R.D).length:Nat):Int)=(s.fs.length:Int):=by rw [List.length_map]
 have ls:=hs.1;have lg:=hs.2.1;have hcg:∀ g,s.gs.getD i default=g→a0C s.fs.length s.gs i=if a1l g.name then
  (if (s.gs.take i).any (fun x=>decide (x.name=g.name)) then 9
  else if g.least.length=s.fs.length∧g.most.length=s.fs.length then a8M (fun k=>a1a (lv g.least k) (lv g.most k) (a1O s.gs i k)) s.fs.length
  else 2)
 else 8:=fun g h=>by unfold a0C;rw [h]
 obtain ⟨g,hg⟩:∃ g,s.gs.getD i default=g:=⟨_,rfl⟩
 rw [hcg g hg];rw [hg] at hm hgf;have cn:a0b C0 141 [str (sb g.name)] (boo (a1l g.name)):=c9d g.name (by have:=hgf.1;omega);obtain ⟨n,hn⟩:∃ n,s.fs.length=n:=⟨_,rfl⟩
 rw [hn] at el1 hp ls ⊢;obtain ⟨fsD,hfsD⟩:∃ x,s.fs.map a1R.D=x:=⟨_,rfl⟩
 obtain ⟨gsD,hgsD⟩:∃ x,s.gs.map a1k.D=x:=⟨_,rfl⟩
 have pf:IsPure (.sl false 4 fsD):=by rw [← hfsD];exact inferInstance
 have pg:IsPure (.sl false 3 gsD):=by rw [← hgsD];exact inferInstance
 have gl:gsD.length=s.gs.length:=by rw [← hgsD,List.length_map]
 unfold a1K.D;rw [hfsD,hgsD];rw [hfsD] at el1;rw [hgsD] at hm hgm;refine sR 0 ?_;refine sZ 100 ?_;refine gwI kN ?_;refine ixI kT hm ?_;refine gwI kN ?_;refine OkS.seq ?_;refine sR 200 ?_;refine cI cn ?_;cases hnm:a1l g.name
 ·rw [if_neg (by decide)]
  refine ifI ?_;refine sR 300 ?_;refine rtI ?_;exact a0a rfl IsPure.out
 rw [if_pos rfl];refine ifI ?_;refine skI ?_;refine OkS.seq ?_;refine sR 400 ?_;refine OkS.block ?_;refine OkS.loop (α:=Nat × Nat) (fun q=>⟨[(1,i64 (i:Int)),(2,.optr 0 0 2 0 0),(5,.optr 105 7 3 0 0),(6,i64 (q.1:Int))],[⟨105,7,56,3,[.agg [str (sb g.name),.sl false 1 (g.least.map fun l=>str (sb l)),.sl false 1 (g.most.map fun l=>str (sb l))]]⟩,⟨0,0,39,2,[.agg [.sl false 4 fsD,.sl false 3 gsD]]⟩],q.2⟩) (fun q=>i - q.1) (fun q=>q.1≤i∧(s.gs.take q.1).any (fun x=>decide (x.name=g.name))=false) (0,_) ⟨Nat.zero_le _,rfl⟩ wkI ?_;rintro ⟨k,m⟩ F ⟨hk,ha⟩;dsimp only at hk ha ⊢;refine OkS.seq ?_;refine sR 500 ?_;refine ifI ?_
 (refine brI (fun hlt=>?_) (fun hlt=>?_))<;>(try simp only [Bool.not_eq_true',Bool.not_eq_false'] at hlt)<;>(try simp only [hlt])
 ·have hk2:k<i:=by
   have:=of_decide_eq_true hlt
   omega
  have hmk:=hgm k (by omega);have hsk:=hgs k (by omega);have wi:IntKind.i64.wrap ((k:Int)+1)=((k+1:Nat):Int):=wI (by omega) (by omega);obtain ⟨y,hy⟩:∃ y,s.gs.getD k default=y:=⟨_,rfl⟩
  rw [hy] at hmk hsk;have es:=a5S y.name g.name;refine skI ?_;refine OkS.seq ?_;refine OkS.block ?_;refine OkS.seq ?_;refine OkS.regD w1 700 [0,1,2,3,4,5,6,7] [8] (by kernel_rfl) ?_;refine gwI kN ?_;refine ixI kT hmk ?_;refine gwI kN ?_
  by_cases hn2:y.name=g.name
  ·rw [decide_eq_true hn2] at es
   have hany:(s.gs.take i).any (fun x=>decide (x.name=g.name))=true:=a5J hk2 hsk (decide_eq_true hn2);rw [if_pos hany]
   try simp only [es]
   refine ifI ?_;refine sR 800 ?_;refine rtI ?_;exact a0a rfl IsPure.out
  ·rw [decide_eq_false hn2] at es
   try simp only [es]
   refine ifI ?_;refine skI ?_;refine OkS.reg w1 600 (by kernel_rfl) ?_;refine nwI wi ?_;exact ⟨(k+1,_),⟨hk2,b4y hsk ha (decide_eq_false hn2)⟩,by dsimp only;omega,wkI⟩
 have hk2:k=i:=by
  have:=of_decide_eq_false hlt
  omega
 subst hk2;rw [if_neg (by rw [ha];decide)];refine exI ?_;have el2:(((g.least.map fun l=>str (sb l)).length:Nat):Int)=(g.least.length:Int):=by rw [List.length_map]
 have el3:(((g.most.map fun l=>str (sb l)).length:Nat):Int)=(g.most.length:Int):=by rw [List.length_map]
 by_cases h1:g.least.length=n
 rotate_left
 ·have e3:(((g.least.length:Nat):Int) != ((n:Nat):Int))=true:=by
   have:(((g.least.length:Nat):Int)==((n:Nat):Int))=false:=beq_eq_false_iff_ne.2 (by omega)
   unfold bne;rw [this];rfl
  rw [if_neg (fun h=>h1 h.1)];refine OkS.seq ?_;refine sZ 900 ?_;refine nwI (ff5 el1 el2 e3 kT kF) ?_;refine gwI kB ?_;refine ifI ?_;refine sR 1000 ?_;refine rtI ?_;exact a0a rfl IsPure.out
 have e3:(((g.least.length:Nat):Int) != ((n:Nat):Int))=false:=by rw [h1];simp
 by_cases h2:g.most.length=n
 rotate_left
 ·have e4:(((g.most.length:Nat):Int) != ((n:Nat):Int))=true:=by
   have:(((g.most.length:Nat):Int)==((n:Nat):Int))=false:=beq_eq_false_iff_ne.2 (by omega)
   unfold bne;rw [this];rfl
  rw [if_neg (fun h=>h2 h.2)];refine OkS.seq ?_;refine sZ 900 ?_;refine nwI (ff5 el1 el2 e3 kT kF) ?_;refine gwI kB ?_;simp only [el1,el3,e4];refine ifI ?_;refine sR 1000 ?_;refine rtI ?_;exact a0a rfl IsPure.out
 have e4:(((g.most.length:Nat):Int) != ((n:Nat):Int))=false:=by rw [h2];simp
 rw [if_pos ⟨h1,h2⟩];refine OkS.seq ?_;refine sZ 900 ?_;refine nwI (ff5 el1 el2 e3 kT kF) ?_;refine gwI kB ?_;simp only [el1,el3,e4];refine ifI ?_;refine skI ?_;refine OkS.seq ?_;refine sR 1100 ?_;refine OkS.block ?_;refine OkS.loop (α:=Nat × Nat) (fun q=>⟨[(1,i64 (k:Int)),(2,.optr 0 0 2 0 0),(5,.optr 105 7 3 0 0),(7,i64 (q.1:Int))],[⟨105,7,56,3,[.agg [str (sb g.name),.sl false 1 (g.least.map fun l=>str (sb l)),.sl false 1 (g.most.map fun l=>str (sb l))]]⟩,⟨0,0,39,2,[.agg [.sl false 4 fsD,.sl false 3 gsD]]⟩],q.2⟩) (fun q=>n - q.1) (fun q=>q.1≤n∧∀ j,j<q.1→a1a (lv g.least j) (lv g.most j) (a1O s.gs k j)=0) (0,_) ⟨Nat.zero_le _,fun j hj=>absurd hj (Nat.not_lt_zero j)⟩ wkI ?_;clear ha;rintro ⟨j,m⟩ F ⟨hj,ha⟩;dsimp only at hj ha ⊢;refine OkS.seq ?_;refine sZ 1200 ?_;refine nwI el1 ?_;refine ifI ?_
 (refine brI (fun hlt=>?_) (fun hlt=>?_))<;>(try simp only [Bool.not_eq_true',Bool.not_eq_false'] at hlt)<;>(try simp only [hlt])
 rotate_left
 ·have hj2:j=n:=by
   have:=of_decide_eq_false hlt
   omega
  subst hj2;refine exI ?_;refine sR 2300 ?_;refine rtI ?_;exact a0a (by rw [a3c ha];rfl) IsPure.out
 have hj2:j<n:=by
  have:=of_decide_eq_true hlt
  omega
 have wi:IntKind.i64.wrap ((j:Int)+1)=((j+1:Nat):Int):=wI (by omega) (by omega);have m1:=a3x (l:=g.least) (k:=j) (by omega);have m2:=a3x (l:=g.most) (k:=j) (by omega);have f1:=a5I (l:=g.least) (k:=j) (by omega) hgf.2.2.2.1;have f2:=a5I (l:=g.most) (k:=j) (by omega) hgf.2.2.2.2;have hfst:a1a (lv g.least j) (lv g.most j) (a1O s.gs k j)≠0→a8M (fun j=>a1a (lv g.least j) (lv g.most j) (a1O s.gs k j)) n=a1a (lv g.least j) (lv g.most j) (a1O s.gs k j):=fun h=>a6v (f:=fun j=>a1a (lv g.least j) (lv g.most j) (a1O s.gs k j)) ha hj2 h
 have hnext:a1a (lv g.least j) (lv g.most j) (a1O s.gs k j)=0→∀ x,x<j+1→a1a (lv g.least x) (lv g.most x) (a1O s.gs k x)=0:=fun h x hx=>by
  rcases Nat.lt_or_ge x j with hx2|hx2
  ·exact ha x hx2
  ·have:x=j:=by omega
   rw [this];exact h
 obtain ⟨a,ea⟩:∃ a,lv g.least j=a:=⟨_,rfl⟩
 obtain ⟨b,eb⟩:∃ b,lv g.most j=b:=⟨_,rfl⟩
 rw [ea] at m1 f1;rw [eb] at m2 f2;rw [ea,eb] at hfst hnext;have sa:=a1y a;have sb':=a1y b;have ca:=c4p a f1;have cb:=c4p b f2;obtain ⟨P,hP⟩:∃ P,a1O s.gs k j=P:=⟨_,rfl⟩
 rw [hP] at hfst hnext;refine skI ?_;refine OkS.seq ?_;refine OkS.block ?_;refine sZ 1400 ?_;refine gwI kN ?_;refine ixI kT m1 ?_;refine gwI kN ?_;refine cI ca ?_;refine OkS.seqX (α:=Nat) (fun m=>⟨[(1,i64 (k:Int)),(2,.optr 0 0 2 0 0),(5,.optr 105 7 3 0 0),(7,i64 (j:Int)),(8,i64 ((a4m a b:Nat):Int))],[⟨105,7,56,3,[.agg [str (sb g.name),.sl false 1 (g.least.map fun l=>str (sb l)),.sl false 1 (g.most.map fun l=>str (sb l))]]⟩,⟨0,0,39,2,[.agg [.sl false 4 fsD,.sl false 3 gsD]]⟩],m⟩) (fun _=>True) ?_ ?_
 ·by_cases g1:a2t a=0
  ·have e5:(((a2t a:Nat):Int)==0)=true:=by rw [g1];rfl
   have e6:a4m a b=a2t b:=by unfold a4m;rw [if_neg (fun h=>h g1)]
   rw [e6];refine sZ 1500 ?_;refine nwI e5 ?_;refine ifI ?_;refine OkS.reg w1 1600 (by kernel_rfl) ?_;refine gwI kN ?_;refine ixI kT m2 ?_;refine gwI kN ?_;refine cI cb ?_;exact ⟨by trivial,_,trivial,wkI⟩
  ·have e5:(((a2t a:Nat):Int)==0)=false:=beq_eq_false_iff_ne.2 (by omega)
   have e6:a4m a b=a2t a:=by unfold a4m;rw [if_pos g1]
   rw [e6];refine sZ 1500 ?_;refine nwI e5 ?_;refine ifI ?_;refine skI ?_;exact ⟨rfl,_,trivial,wkI⟩
 rintro m2' -;refine OkS.seqX (α:=Nat) (fun m=>⟨[(1,i64 (k:Int)),(2,.optr 0 0 2 0 0),(5,.optr 105 7 3 0 0),(7,i64 (j:Int)),(8,i64 ((a3m a b:Nat):Int))],[⟨105,7,56,3,[.agg [str (sb g.name),.sl false 1 (g.least.map fun l=>str (sb l)),.sl false 1 (g.most.map fun l=>str (sb l))]]⟩,⟨0,0,39,2,[.agg [.sl false 4 fsD,.sl false 3 gsD]]⟩],m⟩) (fun _=>True) ?_ ?_
 ·by_cases g1:a4m a b=0
  rotate_left
  ·have e5:(((a4m a b:Nat):Int)==0)=false:=beq_eq_false_iff_ne.2 (by omega)
   have e6:a3m a b=a4m a b:=by unfold a3m;rw [if_neg (fun h=>g1 h.1)]
   rw [e6];refine OkS.seq ?_;refine OkS.regD w1 1700 [0,1,2,3,4,5,6,7,8,9,10,11,12,13,14,15,16,17,18,19,20,21,22,23,24,25,26,27,28] [29,30,31] (by kernel_rfl) ?_;refine nwI (ff3 e5 kT kF) ?_
   try simp only [implies_true]
   refine gwI kB ?_
   try simp only [implies_true]
   refine gwI kB ?_
   try simp only [implies_true]
   refine gwI kB ?_
   try simp only [implies_true]
   refine gwI kB ?_
   try simp only [implies_true]
   refine ifI ?_;refine skI ?_;exact ⟨rfl,_,trivial,wkI⟩
  have e5:(((a4m a b:Nat):Int)==0)=true:=by rw [g1];rfl
  obtain ⟨la,lb⟩:=a6R g1
  by_cases ga:a=[]
  ·have e6:a3m a b=a4m a b:=by unfold a3m;rw [if_neg (fun h=>h.2.1 ga)]
   rw [e6];rw [decide_eq_true ga] at sa;refine OkS.seq ?_;refine OkS.regD w1 1700 [0,1,2,3,4,5,6,7,8,9,10,11,12,13,14,15,16,17,18,19,20,21,22,23,24,25,26,27,28] [29,30,31] (by kernel_rfl) ?_;refine nwI (ff3 e5 kT kF) ?_
   try simp only [implies_true]
   refine gwI kB ?_
   try simp only [implies_true]
   refine ixI kT m1 ?_;refine gwI kB ?_
   try simp only [implies_true]
   try simp only [sa,Bool.not_true,Bool.not_false]
   refine gwI kB ?_
   try simp only [implies_true]
   refine gwI kB ?_
   try simp only [implies_true]
   refine gwI kB ?_
   try simp only [implies_true]
   refine gwI kB ?_
   try simp only [implies_true]
   refine ifI ?_;refine skI ?_;exact ⟨rfl,_,trivial,wkI⟩
  rw [decide_eq_false ga] at sa
  by_cases gb:b=[]
  ·have e6:a3m a b=a4m a b:=by unfold a3m;rw [if_neg (fun h=>h.2.2.1 gb)]
   rw [e6];rw [decide_eq_true gb] at sb';refine OkS.seq ?_;refine OkS.regD w1 1700 [0,1,2,3,4,5,6,7,8,9,10,11,12,13,14,15,16,17,18,19,20,21,22,23,24,25,26,27,28] [29,30,31] (by kernel_rfl) ?_;refine nwI (ff3 e5 kT kF) ?_
   try simp only [implies_true]
   refine gwI kB ?_
   try simp only [implies_true]
   refine ixI kT m1 ?_;refine gwI kB ?_
   try simp only [implies_true]
   try simp only [sa,Bool.not_true,Bool.not_false]
   refine gwI kB ?_
   try simp only [implies_true]
   refine ixI kT m2 ?_;refine gwI kB ?_
   try simp only [implies_true]
   try simp only [sb',Bool.not_true,Bool.not_false]
   refine gwI kB ?_
   try simp only [implies_true]
   refine gwI kB ?_
   try simp only [implies_true]
   refine gwI kB ?_
   try simp only [implies_true]
   refine gwI kB ?_
   try simp only [implies_true]
   refine ifI ?_;refine skI ?_;exact ⟨rfl,_,trivial,wkI⟩
  rw [decide_eq_false gb] at sb';have cc:=b2d (a1C la ga) (a1C lb gb);refine OkS.seq ?_;refine OkS.regD w1 1700 [0,1,2,3,4,5,6,7,8,9,10,11,12,13,14,15,16,17,18,19,20,21,22,23,24,25,26,27,28] [29,30,31] (by kernel_rfl) ?_;refine nwI (ff3 e5 kT kF) ?_
  try simp only [implies_true]
  refine gwI kB ?_
  try simp only [implies_true]
  refine ixI kT m1 ?_;refine gwI kB ?_
  try simp only [implies_true]
  try simp only [sa,Bool.not_true,Bool.not_false]
  refine gwI kB ?_
  try simp only [implies_true]
  refine ixI kT m2 ?_;refine gwI kB ?_
  try simp only [implies_true]
  try simp only [sb',Bool.not_true,Bool.not_false]
  refine gwI kB ?_
  try simp only [implies_true]
  refine ixI kT m1 ?_;refine gwI kB ?_
  try simp only [implies_true]
  refine ixI kT m2 ?_;refine gwI kB ?_
  try simp only [implies_true]
  refine gcI kB ?_;refine a0j.same _ cc inferInstance ?_;refine gwI kB ?_
  by_cases g4:a2H (a0g a) (a0g b)>0
  ·have e6:a3m a b=3:=by unfold a3m;rw [if_pos ⟨g1,ga,gb,g4⟩]
   rw [e6];rw [decide_eq_true g4];refine ifI ?_;refine rI 1800 ?_;exact ⟨by trivial,_,trivial,wkI⟩
  ·have e6:a3m a b=a4m a b:=by unfold a3m;rw [if_neg (fun h=>g4 h.2.2.2)]
   rw [e6];rw [decide_eq_false g4];refine ifI ?_;refine skI ?_;exact ⟨rfl,_,trivial,wkI⟩
 rintro m3 -;refine OkS.seqX (α:=Nat) (fun m=>⟨[(1,i64 (k:Int)),(2,.optr 0 0 2 0 0),(5,.optr 105 7 3 0 0),(7,i64 (j:Int)),(8,i64 ((a1a a b P:Nat):Int))],[⟨105,7,56,3,[.agg [str (sb g.name),.sl false 1 (g.least.map fun l=>str (sb l)),.sl false 1 (g.most.map fun l=>str (sb l))]]⟩,⟨0,0,39,2,[.agg [.sl false 4 fsD,.sl false 3 gsD]]⟩],m⟩) (fun _=>True) ?_ ?_
 ·by_cases g1:a3m a b=0
  rotate_left
  ·have e5:(((a3m a b:Nat):Int)==0)=false:=beq_eq_false_iff_ne.2 (by omega)
   rw [b7F g1];refine OkS.seq ?_;refine OkS.regD w1 1900 [0,1,2,3,4,5,6,7,8,9,10,11,12,13,14,15,16,17,18,19,20,21,22,23,24,25,26,27,28,29,30,31,32,33,34,35,36] [37,38,39] (by kernel_rfl) ?_;refine nwI (ff3 e5 kT kF) ?_
   try simp only [implies_true]
   refine gwI kB ?_
   try simp only [implies_true]
   refine gwI kB ?_
   try simp only [implies_true]
   refine gwI kB ?_
   try simp only [implies_true]
   refine gwI kB ?_
   try simp only [implies_true]
   refine ifI ?_;refine skI ?_;exact ⟨rfl,_,trivial,wkI⟩
  have e5:(((a3m a b:Nat):Int)==0)=true:=by rw [g1];rfl
  obtain ⟨la,lb⟩:=a6R (a6P g1);rw [c2p g1]
  by_cases hk0:k=0
  ·have e7:decide ((k:Int)>0)=false:=decide_eq_false (by omega)
   have:P=none:=by rw [← hP];unfold a1O;rw [if_pos hk0]
   subst this;dsimp only;refine OkS.seq ?_;refine OkS.regD w1 1900 [0,1,2,3,4,5,6,7,8,9,10,11,12,13,14,15,16,17,18,19,20,21,22,23,24,25,26,27,28,29,30,31,32,33,34,35,36] [37,38,39] (by kernel_rfl) ?_;refine nwI (ff3 e5 kT kF) ?_
   try simp only [implies_true]
   refine gwI kB ?_
   try simp only [implies_true]
   try simp only [e7,Bool.not_true,Bool.not_false]
   refine gwI kB ?_
   try simp only [implies_true]
   refine gwI kB ?_
   try simp only [implies_true]
   refine gwI kB ?_
   try simp only [implies_true]
   refine gwI kB ?_
   try simp only [implies_true]
   refine ifI ?_;refine skI ?_;exact ⟨rfl,_,trivial,wkI⟩
  have e7:decide ((k:Int)>0)=true:=decide_eq_true (by omega);have ws:IntKind.i64.wrap ((k:Int) - 1)=((k - 1:Nat):Int):=by
   rw [show (k:Int) - 1=((k - 1:Nat):Int) by omega];exact wI (by omega) (by omega)
  have hm1:=hgm (k - 1) (by omega);obtain ⟨q1,q2,q3⟩:=hp (by omega);obtain ⟨q4,q5⟩:=q3 j hj2;obtain ⟨z,hz⟩:∃ z,s.gs.getD (k - 1) default=z:=⟨_,rfl⟩
  rw [hz] at hm1 q1 q2 q4 q5;have m3:=a3x (l:=z.least) (k:=j) (by omega);have m4:=a3x (l:=z.most) (k:=j) (by omega);have hPz:P=some (lv z.least j,lv z.most j):=by rw [← hP];unfold a1O;rw [if_neg hk0,hz]
  subst hPz;obtain ⟨c,ec⟩:∃ c,lv z.least j=c:=⟨_,rfl⟩
  obtain ⟨d,ed⟩:∃ d,lv z.most j=d:=⟨_,rfl⟩
  rw [ec] at m3 q4 ⊢;rw [ed] at m4 q5 ⊢;dsimp only;have co:=b9y a b c d la lb q4 q5;refine OkS.seq ?_;refine OkS.regD w1 1900 [0,1,2,3,4,5,6,7,8,9,10,11,12,13,14,15,16,17,18,19,20,21,22,23,24,25,26,27,28,29,30,31,32,33,34,35,36] [37,38,39] (by kernel_rfl) ?_;refine nwI (ff3 e5 kT kF) ?_
  try simp only [implies_true]
  refine gwI kB ?_
  try simp only [implies_true]
  try simp only [e7,Bool.not_true,Bool.not_false]
  refine gwI kB ?_
  try simp only [implies_true]
  refine ixI kT m1 ?_;refine gwI kB ?_
  try simp only [implies_true]
  refine ixI kT m2 ?_;refine gwI kB ?_
  try simp only [implies_true]
  try simp only [ws]
  refine ixI kT hm1 ?_;refine gwI kB ?_
  try simp only [implies_true]
  refine ixI kT m3 ?_;refine gwI kB ?_
  try simp only [implies_true]
  try simp only [ws]
  refine ixI kT hm1 ?_;refine gwI kB ?_
  try simp only [implies_true]
  refine ixI kT m4 ?_;refine gwI kB ?_
  try simp only [implies_true]
  refine gcI kB ?_;refine a0j.same _ co inferInstance ?_;refine gwI kB ?_;cases b1q a b c d
  ·refine ifI ?_
   refine rI 2000 ?_;exact ⟨by trivial,_,trivial,wkI⟩
  ·refine ifI ?_
   refine skI ?_;rw [g1];exact ⟨rfl,_,trivial,wkI⟩
 rintro m4 -
 by_cases g1:a1a a b P=0
 ·have e5:(((a1a a b P:Nat):Int) != 0)=false:=by rw [g1];rfl
  refine sZ 2100 ?_;refine nwI e5 ?_;refine ifI ?_;refine skI ?_;refine OkS.reg w1 1300 (by kernel_rfl) ?_;refine nwI wi ?_;exact ⟨(j+1,_),⟨hj2,hnext g1⟩,by dsimp only;omega,wkI⟩
 ·have e5:(((a1a a b P:Nat):Int) != 0)=true:=a3D (by omega)
  refine sZ 2100 ?_;refine nwI e5 ?_;refine ifI ?_;refine sR 2200 ?_;refine rtI ?_;exact a0a (by rw [hfst g1]) IsPure.out
theorem c8O {α:Type}{l:List α}{p:α→Bool}{k i:Nat}{x:α}(hx:l[k]? = some x)(hk:k<i)(h:p x=true):(l.take i).any p=true:=a5J hk hx h
theorem d5u (s:a1K)(hs:s.few):a0b C0 19 [s.D] (i64 (a0p s)):=by
 refine a0c.walk w1 d4r rfl fun F=>?_
 have hsc:a0p s=if b2E s.fs.length≠0 then b2E s.fs.length
  else if a8M (a1S s.fs) s.fs.length≠0 then a8M (a1S s.fs) s.fs.length
  else if b1Y s.gs.length≠0 then b1Y s.gs.length
  else a8M (a0C s.fs.length s.gs) s.gs.length:=rfl
 have hpg:∀ i,i<s.gs.length→(∀ j,j<i→a0C s.fs.length s.gs j=0)→a0b C0 76 [s.D,i64 (i:Int)] (i64 (a0C s.fs.length s.gs i)):=fun i hi ha=>c7K s i hs hi (fun h=>a5w (ha (i - 1) (by omega)))
 have fl:(((s.fs.map a1R.D).length:Nat):Int)=(s.fs.length:Int):=by rw [List.length_map]
 have gl:(((s.gs.map a1k.D).length:Nat):Int)=(s.gs.length:Int):=by rw [List.length_map]
 have ls:=hs.1;have lg:=hs.2.1;have hmf:∀ i,i<s.fs.length→(s.fs.map a1R.D)[i]? = some (.agg [str (sb (s.fs.getD i default).name),str (sb (s.fs.getD i default).tol),str (sb (s.fs.getD i default).kind),str (sb (s.fs.getD i default).step)]):=fun i hi=>b9K hi
 have hcf:∀ i,i<s.fs.length→a0b C0 75 [.agg [str (sb (s.fs.getD i default).name),str (sb (s.fs.getD i default).tol),str (sb (s.fs.getD i default).kind),str (sb (s.fs.getD i default).step)]] (i64 (a0X (s.fs.getD i default))):=fun i hi=>c5g _ (hs.2.2.1 _ (List.mem_of_getElem? (a8h hi)))
 have hfs:∀ k,k<s.fs.length→s.fs[k]? = some (s.fs.getD k default):=fun k hk=>a8h hk
 obtain ⟨v,hv⟩:∃ v,a0p s=v:=⟨_,rfl⟩
 rw [hv] at hsc ⊢;unfold a1K.D at hpg ⊢;obtain ⟨fsD,hfsD⟩:∃ x,s.fs.map a1R.D=x:=⟨_,rfl⟩
 obtain ⟨gsD,hgsD⟩:∃ x,s.gs.map a1k.D=x:=⟨_,rfl⟩
 have pf:IsPure (.sl false 4 fsD):=by rw [← hfsD];exact inferInstance
 have pg:IsPure (.sl false 3 gsD):=by rw [← hgsD];exact inferInstance
 rw [hfsD] at fl hmf hpg ⊢;rw [hgsD] at gl hpg ⊢;have lf2:fsD.length=s.fs.length:=by omega
 obtain ⟨n,hn⟩:∃ n,s.fs.length=n:=⟨_,rfl⟩
 obtain ⟨m,hm⟩:∃ m,s.gs.length=m:=⟨_,rfl⟩
 rw [hn] at hsc hpg fl ls hmf hcf hfs;rw [hm] at hsc hpg gl lg;refine sR 0 ?_;refine OkS.seq ?_
 by_cases n0:n=0
 ·have e1:((n:Int)==0)=true:=by rw [n0];rfl
  have hv2:v=2:=by rw [hsc,n0];rfl
  rw [hv2];refine sZ 100 ?_;refine nwI (ff2 fl e1) ?_;refine ifI ?_;refine sR 200 ?_;refine rtI ?_;exact a0a rfl IsPure.out
 have e1:((n:Int)==0)=false:=beq_eq_false_iff_ne.2 (by omega);refine sZ 100 ?_;refine nwI (ff2 fl e1) ?_;refine ifI ?_;refine skI ?_;refine OkS.seq ?_
 by_cases n8:n>8
 ·have e2:decide ((n:Int)>8)=true:=decide_eq_true (by omega)
  have hv2:v=5:=by rw [hsc];unfold b2E;rw [if_neg n0,if_pos n8];rfl
  rw [hv2];refine sZ 300 ?_;refine nwI (ff2 fl e2) ?_;refine ifI ?_;refine sR 400 ?_;refine rtI ?_;exact a0a rfl IsPure.out
 have e2:decide ((n:Int)>8)=false:=decide_eq_false (by omega);have hc0:b2E n=0:=by unfold b2E;rw [if_neg n0,if_neg n8]
 rw [if_neg (fun h=>h hc0)] at hsc;refine sZ 300 ?_;refine nwI (ff2 fl e2) ?_;refine ifI ?_;refine skI ?_;refine OkS.seq ?_;refine sR 500 ?_;refine OkS.block ?_;refine OkS.loop (α:=Nat × Nat) (fun q=>⟨[(1,.optr 0 0 2 0 0),(3,i64 (q.1:Int))],[⟨0,0,39,2,[.agg [.sl false 4 fsD,.sl false 3 gsD]]⟩],q.2⟩) (fun q=>n - q.1) (fun q=>q.1≤n∧∀ j,j<q.1→a1S s.fs j=0) (0,_) ⟨Nat.zero_le _,fun j hj=>absurd hj (Nat.not_lt_zero j)⟩ wkI ?_;rintro ⟨i,c⟩ F ⟨hi,ha⟩;dsimp only at hi ha ⊢;refine OkS.seq ?_;refine sZ 600 ?_;refine nwI fl ?_;refine ifI ?_
 (refine brI (fun hlt=>?_) (fun hlt=>?_))<;>(try simp only [Bool.not_eq_true',Bool.not_eq_false'] at hlt)<;>(try simp only [hlt])
 ·have hi2:i<n:=by
   have:=of_decide_eq_true hlt
   omega
  have hmi:=hmf i hi2;have cf:=hcf i hi2;have wi:IntKind.i64.wrap ((i:Int)+1)=((i+1:Nat):Int):=wI (by omega) (by omega);have hfst:a1S s.fs i≠0→v=a1S s.fs i:=fun h=>by
   have h2:=a6v (f:=a1S s.fs) ha hi2 h;rw [hsc,if_pos (by rw [h2];exact h),h2]
  have hnext:a1S s.fs i=0→∀ x,x<i+1→a1S s.fs x=0:=fun h x hx=>by
   rcases Nat.lt_or_ge x i with hx2|hx2
   ·exact ha x hx2
   ·have:x=i:=by omega
    rw [this];exact h
  have hfac:a1S s.fs i=if a0X (s.fs.getD i default)≠0 then a0X (s.fs.getD i default) else if (s.fs.take i).any (fun x=>decide (x.name=(s.fs.getD i default).name)) then 9 else 0:=rfl
  obtain ⟨f,hf⟩:∃ f,s.fs.getD i default=f:=⟨_,rfl⟩
  rw [hf] at hmi cf hfac;obtain ⟨e0,he0⟩:∃ e0,a0X f=e0:=⟨_,rfl⟩
  rw [he0] at cf hfac;obtain ⟨r,hr⟩:∃ r,a1S s.fs i=r:=⟨_,rfl⟩
  rw [hr] at hfst hnext hfac;refine skI ?_;refine OkS.seq ?_;refine OkS.block ?_;refine sZ 800 ?_;refine gwI kN ?_;refine ixI kT hmi ?_;refine gwI kN ?_;refine a0j.same _ cf inferInstance ?_;refine stI ?_;refine OkS.seqX (α:=Nat) (fun c=>⟨[(1,.optr 0 0 2 0 0),(3,i64 (i:Int)),(4,i64 (r:Int))],[⟨0,0,39,2,[.agg [.sl false 4 fsD,.sl false 3 gsD]]⟩],c⟩) (fun _=>True) ?_ ?_
  ·refine sR 900 ?_
   refine OkS.block ?_;refine OkS.loopF (α:=Nat × Nat × Nat) (fun q=>⟨[(1,.optr 0 0 2 0 0),(3,i64 (i:Int)),(4,i64 (q.2.1:Int)),(5,i64 (q.1:Int))],[⟨0,0,39,2,[.agg [.sl false 4 fsD,.sl false 3 gsD]]⟩],q.2.2⟩) (fun q=>i - q.1)
    (fun q F'=>F'=F∧q.1≤i∧((q.2.1=e0∧(s.fs.take q.1).any (fun x=>decide (x.name=f.name))=false)∨(e0=0∧q.2.1=9∧(s.fs.take i).any (fun x=>decide (x.name=f.name))=true))) (0,e0,_) ⟨rfl,Nat.zero_le _,.inl ⟨rfl,rfl⟩⟩ wkI ?_
   rintro ⟨k,e,c⟩ F' ⟨rfl,hk,hJ⟩;dsimp only at hk hJ ⊢;refine OkS.seq ?_
   by_cases hki:k<i
   rotate_left
   ·have h1:decide ((k:Int)<(i:Int))=false:=decide_eq_false (by omega)
    have hk3:k=i:=by omega
    have hre:r=e:=by
     rcases hJ with ⟨h2,h3⟩|⟨h2,h3,h4⟩
     ·rw [hfac,← hk3,h3,h2]
      by_cases h5:e0=0
      ·rw [if_neg (fun h=>h h5),h5];rfl
      ·rw [if_pos h5]
     ·rw [hfac,if_neg (fun h=>h h2),h4,h3];rfl
    rw [hre];refine sZ 1000 ?_;refine nwI (ff3 h1 kT kF) ?_
    try simp only [implies_true]
    refine gwI kB ?_;refine ifI ?_;refine exI ?_;exact ⟨rfl,_,trivial,wkI⟩
   have h1:decide ((k:Int)<(i:Int))=true:=decide_eq_true (by omega)
   by_cases hez:e=0
   rotate_left
   ·have h2:((e:Int)==0)=false:=beq_eq_false_iff_ne.2 (by omega)
    have hre:r=e:=by
     rcases hJ with ⟨h2,h3⟩|⟨h2,h3,h4⟩
     ·rw [hfac,if_pos (by omega),h2]
     ·rw [hfac,if_neg (fun h=>h h2),h4,h3];rfl
    rw [hre];refine sZ 1000 ?_;refine nwI (ff3 h1 kT kF) ?_
    try simp only [implies_true]
    refine gwI kB ?_
    try simp only [h2]
    refine ifI ?_;refine exI ?_;exact ⟨rfl,_,trivial,wkI⟩
   have h2:((e:Int)==0)=true:=by rw [hez];rfl
   obtain ⟨h3,h4⟩:e=e0∧(s.fs.take k).any (fun x=>decide (x.name=f.name))=false:=by
    rcases hJ with h|⟨_,h,_⟩
    ·exact h
    ·omega
   have hmk:=hmf k (by omega);have hsk:=hfs k (by omega);have wk:IntKind.i64.wrap ((k:Int)+1)=((k+1:Nat):Int):=wI (by omega) (by omega);obtain ⟨y,hy⟩:∃ y,s.fs.getD k default=y:=⟨_,rfl⟩
   rw [hy] at hmk hsk;have es:=a5S y.name f.name;refine sZ 1000 ?_;refine nwI (ff3 h1 kT kF) ?_
   try simp only [implies_true]
   refine gwI kB ?_
   try simp only [h2]
   refine ifI ?_;refine skI ?_;refine OkS.seq ?_;refine OkS.block ?_;refine OkS.seq ?_;refine OkS.regD w1 1200 [0,1,2,3,4,5,6,7,8,9,10,11] [12] (by kernel_rfl) ?_;refine gwI kN ?_;refine ixI kT hmk ?_;refine gwI kN ?_;refine ixI kT hmi ?_;refine gwI kN ?_
   by_cases hn2:y.name=f.name
   ·rw [decide_eq_true hn2] at es
    try simp only [es]
    refine ifI ?_;refine rI 1300 ?_;refine OkS.reg w1 1100 (by kernel_rfl) ?_;refine nwI wk ?_;exact ⟨(k+1,9,_),⟨by trivial,hki,.inr ⟨by omega,rfl,c8O hsk hki (decide_eq_true hn2)⟩⟩,by dsimp only;omega,wkI⟩
   ·rw [decide_eq_false hn2] at es
    try simp only [es]
    refine ifI ?_;refine skI ?_;refine OkS.reg w1 1100 (by kernel_rfl) ?_;refine nwI wk ?_;exact ⟨(k+1,e,_),⟨by trivial,hki,.inl ⟨h3,b4y hsk h4 (decide_eq_false hn2)⟩⟩,by dsimp only;omega,wkI⟩
  rintro c2 -
  by_cases g1:r=0
  ·have e5:((r:Int) != 0)=false:=by rw [g1];rfl
   refine sZ 1400 ?_;refine nwI e5 ?_;refine ifI ?_;refine skI ?_;refine OkS.reg w1 700 (by kernel_rfl) ?_;refine nwI wi ?_;exact ⟨(i+1,_),⟨hi2,hnext g1⟩,by dsimp only;omega,wkI⟩
  ·have e5:((r:Int) != 0)=true:=a3D (by omega)
   refine sZ 1400 ?_;refine nwI e5 ?_;refine ifI ?_;refine sR 1500 ?_;refine rtI ?_;exact a0a (by rw [hfst g1]) IsPure.out
 have hi2:i=n:=by
  have:=of_decide_eq_false hlt
  omega
 subst hi2;rw [if_neg (fun h=>h (a3c ha))] at hsc;clear ha;refine exI ?_;refine OkS.seq ?_
 by_cases m0:m=0
 ·have e3:((m:Int)==0)=true:=by rw [m0];rfl
  have hv2:v=2:=by rw [hsc,m0];rfl
  rw [hv2];refine sZ 1600 ?_;refine nwI (ff2 gl e3) ?_;refine ifI ?_;refine sR 1700 ?_;refine rtI ?_;exact a0a rfl IsPure.out
 have e3:((m:Int)==0)=false:=beq_eq_false_iff_ne.2 (by omega);refine sZ 1600 ?_;refine nwI (ff2 gl e3) ?_;refine ifI ?_;refine skI ?_;refine OkS.seq ?_
 by_cases m16:m>16
 ·have e4:decide ((m:Int)>16)=true:=decide_eq_true (by omega)
  have hv2:v=5:=by rw [hsc];unfold b1Y;rw [if_neg m0,if_pos m16];rfl
  rw [hv2];refine sZ 1800 ?_;refine nwI (ff2 gl e4) ?_;refine ifI ?_;refine sR 1900 ?_;refine rtI ?_;exact a0a rfl IsPure.out
 have e4:decide ((m:Int)>16)=false:=decide_eq_false (by omega);have hc1:b1Y m=0:=by unfold b1Y;rw [if_neg m0,if_neg m16]
 rw [if_neg (fun h=>h hc1)] at hsc;refine sZ 1800 ?_;refine nwI (ff2 gl e4) ?_;refine ifI ?_;refine skI ?_;refine OkS.seq ?_;refine sR 2000 ?_;refine OkS.block ?_;refine OkS.loop (α:=Nat × Nat) (fun q=>⟨[(1,.optr 0 0 2 0 0),(6,i64 (q.1:Int))],[⟨0,0,39,2,[.agg [.sl false 4 fsD,.sl false 3 gsD]]⟩],q.2⟩) (fun q=>m - q.1) (fun q=>q.1≤m∧∀ j,j<q.1→a0C i s.gs j=0) (0,_) ⟨Nat.zero_le _,fun j hj=>absurd hj (Nat.not_lt_zero j)⟩ wkI ?_;rintro ⟨g,c⟩ F ⟨hg,ha⟩;dsimp only at hg ha ⊢;refine OkS.seq ?_;refine sZ 2100 ?_;refine nwI gl ?_;refine ifI ?_
 (refine brI (fun hlt2=>?_) (fun hlt2=>?_))<;>(try simp only [Bool.not_eq_true',Bool.not_eq_false'] at hlt2)<;>(try simp only [hlt2])
 ·have hg2:g<m:=by
   have:=of_decide_eq_true hlt2
   omega
  have cg:=hpg g hg2 ha;have wi:IntKind.i64.wrap ((g:Int)+1)=((g+1:Nat):Int):=wI (by omega) (by omega);have hfst:a0C i s.gs g≠0→v=a0C i s.gs g:=fun h=>by
   rw [hsc];exact a6v (f:=a0C i s.gs) ha hg2 h
  have hnext:a0C i s.gs g=0→∀ x,x<g+1→a0C i s.gs x=0:=fun h x hx=>by
   rcases Nat.lt_or_ge x g with hx2|hx2
   ·exact ha x hx2
   ·have:x=g:=by omega
    rw [this];exact h
  obtain ⟨r,hr⟩:∃ r,a0C i s.gs g=r:=⟨_,rfl⟩
  rw [hr] at cg hfst hnext;refine skI ?_;refine OkS.seq ?_;refine OkS.block ?_;refine sR 2300 ?_;refine a0j.same _ cg inferInstance ?_;refine stI ?_
  by_cases g1:r=0
  ·have e5:((r:Int) != 0)=false:=by rw [g1];rfl
   refine sZ 2400 ?_;refine nwI e5 ?_;refine ifI ?_;refine skI ?_;refine OkS.reg w1 2200 (by kernel_rfl) ?_;refine nwI wi ?_;exact ⟨(g+1,_),⟨hg2,hnext g1⟩,by dsimp only;omega,wkI⟩
  ·have e5:((r:Int) != 0)=true:=a3D (by omega)
   refine sZ 2400 ?_;refine nwI e5 ?_;refine ifI ?_;refine sR 2500 ?_;refine rtI ?_;exact a0a (by rw [hfst g1]) IsPure.out
 have hg2:g=m:=by
  have:=of_decide_eq_false hlt2
  omega
 subst hg2;refine exI ?_;refine sR 2600 ?_;refine rtI ?_;exact a0a (by rw [hsc,a3c ha];rfl) IsPure.out
end Go.Ide
