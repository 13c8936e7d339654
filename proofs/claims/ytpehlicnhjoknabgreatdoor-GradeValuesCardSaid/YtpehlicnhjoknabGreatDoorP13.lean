/- The layer of own lemmas and contracts, part 13. -/
import Derived.Test.YtpehlicnhjoknabGreatDoorP12
import Derived.Test.YtpehlicnhjoknabGreatDoorP7
import Derived.Test.YtpehlicnhjoknabGreatDoorP11
set_option linter.unusedVariables false
set_option linter.unusedSimpArgs false
namespace Go.Ide
open Go.Proofs Go.RowKit
set_option maxRecDepth 20000
set_option maxHeartbeats 4000000
theorem fz_oslrH {H Hf:Hp}{K g T:Nat}{l:List Nat}{N:Nat}(hl:l.length=N)(he:Hp.get H K=some ⟨K,g,T,1,l.map i64n⟩:=by exact rfl)(hn:Hp.get Hf K=none:=by exact rfl):Fz H Hf (.osl K g 1 0 N) (.sl false 1 (l.map i64n)):=by
 subst hl;have key:∀ (j:Nat) (d d':D),(l.map i64n)[0+j]? = some d→(l.map i64n)[j]? = some d'→d=d':=fun j d d' h1 h2=>by
  rw [Nat.zero_add] at h1;rw [h1] at h2;exact Option.some.inj h2
 refine .osl (e:=⟨K,g,T,1,l.map i64n⟩) he hn rfl rfl (by simp) (by simp) (fun j d d' h1 h2=>by rw [key j d d' h1 h2]) fun j d d' q c c' h1 h2 h3 h4=>?_
 rw [key j d d' h1 h2] at h3;rw [h3] at h4;cases h4;exact Fz.refl _
theorem neg_test (c : UInt8) (l : List UInt8) : (((c.toNat : Nat) : Int) == 45) = isNeg (c :: l) := by
  show _ = (c == 45)
  rw [Bool.eq_iff_iff, beq_iff_eq, beq_iff_eq, ← UInt8.toNat_inj]
  exact ⟨fun h => by have : c.toNat = 45 := by omega
                     exact this, fun h => by rw [h]; rfl⟩
abbrev cell0:Ent:=⟨0,0,154,2,[.agg [boo false,nilS]]⟩
theorem dv_cut {x:List UInt8}(h:9<x.length):dv x=dv (x.take (x.length - 9))*RB+dv (x.drop (x.length - 9)):=by
 conv=>lhs;rw [← List.take_append_drop (x.length - 9) x,dv_append,List.length_drop,show x.length - (x.length - 9)=9 by omega]
theorem powcut (A B t n v:Nat):(A*B+t)*B^n+v=A*B^(n+1)+(v+B^n*t):=by
 rw [Nat.add_mul,Nat.mul_assoc,Nat.pow_succ,Nat.mul_comm B,Nat.mul_comm t];omega
theorem parse_step {x x0:List UInt8}{w:List Nat}(h9:9<x.length)(g1:x.all isDig=true)(g2:x.length+w.length*9=x0.length)(g3:Rd w)(g4:dv x0=dv x*RB^w.length+valR w) :
  (x.take (x.length - 9)).all isDig=true∧(x.take (x.length - 9)).length+(w++[dv (x.drop (x.length - 9))]).length*9=x0.length∧Rd (w++[dv (x.drop (x.length - 9))]) ∧
  dv x0=dv (x.take (x.length - 9))*RB^(w++[dv (x.drop (x.length - 9))]).length+valR (w++[dv (x.drop (x.length - 9))]):=by
 refine ⟨List.all_eq_true.2 fun a ha=>List.all_eq_true.1 g1 a (List.mem_of_mem_take ha),?_,Rd.append g3 fun a ha=>?_,?_⟩
 ·rw [List.length_take,List.length_append,List.length_singleton];omega
 ·simp only [List.mem_cons,List.not_mem_nil,or_false] at ha
  subst ha
  have:=dv_lt (x.drop (x.length - 9)) (List.all_eq_true.2 fun a ha=>List.all_eq_true.1 g1 a (List.mem_of_mem_drop ha))
  rwa [List.length_drop,show x.length - (x.length - 9)=9 by omega] at this
 ·rw [g4,dv_cut h9,r_valW_snoc rfl,List.length_append,List.length_singleton]
  exact powcut _ _ _ _ _
theorem parse_end {x x0:List UInt8}{w:List Nat}(h9:x.length≤9)(g1:x.all isDig=true)(g3:Rd w)(g4:dv x0=dv x*RB^w.length+valR w):Rd (w++[dv x])∧valR (w++[dv x])=dv x0:=by
 refine ⟨Rd.append g3 fun a ha=>?_,?_⟩
 ·simp only [List.mem_cons,List.not_mem_nil,or_false] at ha
  subst ha;exact Nat.lt_of_lt_of_le (dv_lt x g1) (Nat.pow_le_pow_right (by decide) h9)
 ·rw [g4,r_valW_snoc rfl,Nat.mul_comm,Nat.add_comm]
theorem app_own {w:List Nat}{a:Nat}:List.take w.length (w.map i64n)++[i64 (a:Int)]=(w++[a]).map i64n:=by
 rw [List.take_of_length_le (by rw [List.length_map];exact Nat.le_refl _),List.map_append];rfl
theorem parse_r (l:List UInt8)(hd:(dropNeg l).all isDig=true)(hl:l.length≤1000000):ICalls C0 153 [str (sb l)] (rZ (rv l)):=by
 have er:rv l=sg (isNeg l) (dv (dropNeg l)):=rfl;rw [er];refine ICallP.walk w1 fok153 rfl fun F=>?_
 have hsz:=sb_size l;have hdl:(dropNeg l).length≤l.length:=by
  unfold dropNeg;split
  ·rw [List.length_drop];omega
  ·exact Nat.le_refl _
 refine sR 0 ?_;refine OkS.seqX (α:=Nat) (fun n=>⟨[(0,str (sb l)),(2,.optr 0 0 2 0 0),(3,boo (isNeg l))],[cell0],n⟩) (fun _=>True) ?_ ?_
 ·cases l with
  | nil =>
   have e0:(sb []).size=0:=rfl;have e1:decide (((0:Nat):Int)>0)=false:=rfl;refine OkS.reg w1 100 (by kernel_rfl) ?_;refine gwI (ff2 e0 e1) ?_;refine gwI (ff2 kF e1) ?_;exact ⟨trivial,_,trivial,wkI⟩
  | cons c l =>
   have hpos:(sb (c::l)).size=l.length+1:=hsz;have e0:decide (((sb (c::l)).size:Int)>0)=true:=decide_eq_true (by omega);have e1:((((c::l).getD (Int.toNat 0) 0).toNat:Int)==45)=isNeg (c::l):=neg_test c l;refine OkS.reg w1 100 (by kernel_rfl) ?_;refine gwI e0 ?_;refine gwI (ff3 kT e0 e1) ?_;exact ⟨trivial,_,trivial,wkI⟩
 rintro n0 -;refine OkS.seqX (α:=Nat) (fun n=>⟨[(0,str (sb (dropNeg l))),(2,.optr 0 0 2 0 0),(3,boo (isNeg l))],[cell0],n⟩) (fun _=>True) ?_ ?_
 ·refine sR 200 ?_
  cases hb:isNeg l
  ·have ed:dropNeg l=l:=by unfold dropNeg;rw [hb];rfl
   rw [ed];refine ifI ?_;refine skI ?_;exact ⟨rfl,_,trivial,wkI⟩
  ·have ed:dropNeg l=l.drop 1:=by unfold dropNeg;rw [hb];rfl
   have hl0:1≤l.length:=by
    cases l with
    | nil=>cases hb
    | cons c l=>rw [List.length_cons];omega
   have ee:(sb l).extract (Int.toNat 1) l.length=sb (dropNeg l):=by
    rw [sb_ext,List.take_of_length_le (Nat.le_refl _),ed];rfl
   refine ifI ?_;refine OkS.reg w1 300 (by kernel_rfl) ?_;refine gwI (ff2 hsz kN) ?_;rw [ee];exact ⟨trivial,_,trivial,wkI⟩
 rintro n1 -;generalize isNeg l=neg at *;generalize dropNeg l=x0 at *;clear er hsz;have hx0:x0.length≤1000000:=Nat.le_trans hdl hl;clear hdl hl l;refine sR 400 ?_;refine OkS.seq ?_;refine OkS.block ?_;refine OkS.loop (α:=Bool × List UInt8 × List Nat × Nat × Nat) (fun p=>match p with
  | (false,x,_,_,n)=>⟨[(0,str (sb x)),(2,.optr 0 0 2 0 0),(3,boo neg),(4,nilS)],[cell0],n⟩
  | (true,x,w,g,n)=>⟨[(0,str (sb x)),(2,.optr 0 0 2 0 0),(3,boo neg),(4,.osl 608 g 1 0 w.length)],[⟨608,g,3,1,w.map i64n⟩,cell0],n⟩) (fun p=>p.2.1.length)
  (fun p=>p.2.1.all isDig=true∧p.2.1.length+p.2.2.1.length*9=x0.length∧Rd p.2.2.1∧dv x0=dv p.2.1*RB^p.2.2.1.length+valR p.2.2.1∧(p.1=false→p.2.2.1=[]))
  (false,x0,[],0,_) ⟨hd,rfl,(fun a ha=>by cases ha),by simp [valR],fun _=>rfl⟩ wkI ?_
 rintro ⟨t,x,w,g,n2⟩ F ⟨g1,g2,g3,g4,g5⟩;dsimp only at g1 g2 g3 g4 g5;have hsz:=sb_size x
 by_cases h9:9<x.length
 ·have ht:decide ((x.length:Int)>9)=true:=decide_eq_true (by omega)
  have cv:=value_r (x.drop (x.length - 9)) (List.all_eq_true.2 fun a ha=>List.all_eq_true.1 g1 a (List.mem_of_mem_drop ha)) (by rw [List.length_drop];omega);have wk:IntKind.i64.wrap ((x.length:Int) - 9)=((x.length - 9:Nat):Int):=by rw [wI (by omega) (by omega)];omega
  have wr:IntKind.i64.wrap (((sb x).size:Int) - 9)=((x.length - 9:Nat):Int):=by rw [hsz,wk]
  have e1:(sb x).extract (x.length - 9) x.length=sb (x.drop (x.length - 9)):=by rw [sb_ext,List.take_of_length_le (Nat.le_refl _)]
  have e2:(sb x).extract 0 (x.length - 9)=sb (x.take (x.length - 9)):=by rw [sb_ext,List.drop_zero]
  cases t
  ·dsimp only
   obtain rfl:=g5 rfl;refine OkS.seq ?_;refine sZ 500 ?_;refine nwI (ff2 hsz ht) ?_;refine ifI ?_;refine skI ?_;refine OkS.block ?_;refine sZ 600 ?_;refine gwI (ff5 hsz wk wr kN e1) ?_;refine CallO.same _ cv inferInstance ?_;refine stI ?_;have J:=parse_step h9 g1 g2 g3 g4;rw [List.nil_append] at J;refine OkS.reg w1 700 (by kernel_rfl) ?_;refine gwI (ff4 hsz wk wr kN) ?_;refine gwI e2 ?_;exact ⟨(true,x.take (x.length - 9),[dv (x.drop (x.length - 9))],n2+11,_),⟨J.1,J.2.1,J.2.2.1,J.2.2.2,fun h=>by cases h⟩,by dsimp only;rw [List.length_take];omega,wkI⟩
  ·dsimp only
   clear g5;have J:=parse_step h9 g1 g2 g3 g4;have ew:(w.map i64n).length=w.length:=List.length_map _;have el:w.length+1=(w++[dv (x.drop (x.length - 9))]).length:=by rw [List.length_append];rfl
   refine OkS.seq ?_;refine sZ 500 ?_;refine nwI (ff2 hsz ht) ?_;refine ifI ?_;refine skI ?_;refine OkS.block ?_;refine sZ 600 ?_;refine gwI (ff5 hsz wk wr kN e1) ?_;refine CallO.same _ cv inferInstance ?_;refine stI ?_;rw [app_own,el];refine OkS.reg w1 700 (by kernel_rfl) ?_;refine gwI (ff4 hsz wk wr kN) ?_;refine gwI e2 ?_;exact ⟨(true,x.take (x.length - 9),w++[dv (x.drop (x.length - 9))],n2+11,_),⟨J.1,J.2.1,J.2.2.1,J.2.2.2,fun h=>by cases h⟩,by dsimp only;rw [List.length_take];omega,wkI⟩
 ·have ht:decide ((x.length:Int)>9)=false:=decide_eq_false (by omega)
  have cv:=value_r x g1 (by omega);obtain ⟨r1,r2⟩:=parse_end (by omega) g1 g3 g4;have cs:=signed_r neg (w++[dv x]) r1 (by rw [List.length_append,List.length_singleton];omega);rw [r2] at cs;cases t
  ·dsimp only
   obtain rfl:=g5 rfl;refine OkS.seq ?_;refine sZ 500 ?_;refine nwI (ff2 hsz ht) ?_;refine ifI ?_;refine exI ?_;refine sR 800 ?_;refine CallO.same _ cv inferInstance ?_;refine stI ?_;refine CallO.own _ (ICallH.give [cell0] cs (.drop (.keep .nil)) ⟨.refl _,fz_oslrH rfl,trivial⟩ inferInstance) ?_;rintro d H' n' ⟨rfl,rfl,rfl⟩;refine stI ?_;refine rtI ?_;exact exact_res rfl IsPure.out
  ·dsimp only
   clear g5;have ew:(w.map i64n).length=w.length:=List.length_map _;have el:w.length+1=(w++[dv x]).length:=by rw [List.length_append];rfl
   refine OkS.seq ?_;refine sZ 500 ?_;refine nwI (ff2 hsz ht) ?_;refine ifI ?_;refine exI ?_;refine sR 800 ?_;refine CallO.same _ cv inferInstance ?_;refine stI ?_;rw [app_own,el];refine CallO.own _ (ICallH.give [cell0] cs (.drop (.keep .nil)) ⟨.refl _,fz_oslrH rfl,trivial⟩ inferInstance) ?_;rintro d H' n' ⟨rfl,rfl,rfl⟩;refine stI ?_;refine rtI ?_;exact exact_res rfl IsPure.out
end Go.Ide
namespace Go.Ide
open Go.Proofs Go.RowKit
set_option maxRecDepth 20000
set_option maxHeartbeats 4000000
def isO (o:Option D):Bool:=match o with
 | some (.agg [.prim (.bool false),.sl false 1 [.prim (.int .i64 1)]])=>true
 | _=>false
theorem isO_some {o:Option D}(h:isO o=true):o=some (rZ 1):=by
 have h1:lims 1=[1]:=r_limbs_one (by decide) (by decide);unfold isO at h;split at h
 ·show _=some (D.agg [boo (decide ((1:Int)<0)),rL (lims 1)])
  rw [h1];rfl
 ·cases h
theorem whole_one0:isO ((evF X1 1000 60).1 150 [i64 1])=true:=by kernel_rfl
theorem whole_one:ICalls C0 150 [i64 1] (rZ 1):=ICalls.ev X1ok 1000 60 (isO_some whole_one0)
def numZ (l:List UInt8):Int:=rv (numT l)
def denZ (l:List UInt8):Int:=if hasS l then rv (denT l) else 1
instance  (x y:Int):IsPure (.tup [rZ x,rZ y]):=⟨.tup fun d hd=>by
 simp only [List.mem_cons,List.not_mem_nil,or_false] at hd;rcases hd with rfl|rfl
 ·exact IsPure.out
 ·exact IsPure.out⟩
theorem parts_r (l:List UInt8)(hn:(dropNeg (numT l)).all isDig=true)(hd:(dropNeg (denT l)).all isDig=true)(hl:l.length≤1000000):ICalls C0 85 [str (sb l)] (.tup [rZ (numZ l),rZ (denZ l)]):=by
 refine ICallP.walk w1 fok85 rfl fun F=>?_
 have hsz:=sb_size l;have cs:=slash_r l (by omega);have hsl:=slashAt_le l;have c1:=parse_r (numT l) hn (by unfold numT;rw [List.length_take];omega);have c2:=parse_r (denT l) hd (by unfold denT;rw [List.length_drop];omega);have cw:=whole_one;unfold numZ denZ;refine sR 0 ?_;refine sR 100 ?_;refine sR 200 ?_;refine cI cs ?_;cases hh:hasS l
 ·have he:slashAt l=l.length:=by
   unfold hasS at hh
   have:=of_decide_eq_false hh
   omega
  have e0:(((slashAt l:Nat):Int)==(l.length:Int))=true:=beq_iff_eq.2 (by omega);have en:numT l=l:=by unfold numT;rw [he,List.take_of_length_le (Nat.le_refl _)]
  rw [en] at c1 ⊢;refine OkS.seq ?_;refine sZ 300 ?_;refine nwI (ff2 hsz e0) ?_;refine ifI ?_;refine sR 400 ?_;refine cI c1 ?_;refine CallO.same _ cw inferInstance ?_;refine stI ?_;refine rtI ?_;exact exact_res rfl IsPure.out
 ·have he:slashAt l<l.length:=of_decide_eq_true hh
  have e0:(((slashAt l:Nat):Int)==(l.length:Int))=false:=beq_eq_false_iff_ne.2 (by omega);have x1:(sb l).extract 0 (slashAt l)=sb (numT l):=by rw [sb_ext,List.drop_zero];rfl
  have x2:(sb l).extract (slashAt l+1) l.length=sb (denT l):=by rw [sb_ext,List.take_of_length_le (Nat.le_refl _)];rfl
  have wk:IntKind.i64.wrap (((slashAt l:Nat):Int)+1)=((slashAt l+1:Nat):Int):=wI (by omega) (by omega);refine OkS.seq ?_;refine sZ 300 ?_;refine nwI (ff2 hsz e0) ?_;refine ifI ?_;refine skI ?_;refine OkS.seq ?_;refine OkS.regD w1 500 [0,1,2,3,4,5,6,7] [8,9,10] (by kernel_rfl) ?_;refine gwI (ff5 hsz wk kN x1 x2) ?_;refine CallW.same _ c1 inferInstance ?_;refine gwI (ff5 hsz wk kN x1 x2) ?_;refine CallO.same _ c2 inferInstance ?_;refine stI ?_;refine rtI ?_;exact exact_res rfl IsPure.out
end Go.Ide
namespace Go.Ide
open Go.Proofs Go.RowKit
set_option maxRecDepth 20000
set_option maxHeartbeats 4000000
def txt (r:Rat):List UInt8:=if r.den=1 then Lib.itoa r.num else Lib.itoa r.num++47::Lib.decDigits r.den
def qZ (x y:Int):Rat:=mkRat (if y<0 then -x else x) y.natAbs
theorem qZ_parts {x:Int}{d:Nat}(hd:d≠0):(mkRat x d).num=sg (decide (x<0)) (x.natAbs / Nat.gcd x.natAbs d)∧(mkRat x d).den=d / Nat.gcd x.natAbs d:=by
 rw [mkRat,dif_neg hd,Rat.normalize_eq];refine ⟨?_,rfl⟩;dsimp only;have hg:0<Nat.gcd x.natAbs d:=Nat.gcd_pos_of_pos_right _ (Nat.pos_of_ne_zero hd);obtain ⟨p,hp⟩:=Nat.gcd_dvd_left x.natAbs d;have e1:x.natAbs / Nat.gcd x.natAbs d=p:=by
  refine Nat.div_eq_of_eq_mul_right hg hp
 have e2:x=(Nat.gcd x.natAbs d:Int)*sg (decide (x<0)) p:=by
  have h0:(x.natAbs:Int)=(Nat.gcd x.natAbs d:Int)*(p:Int):=by rw [← Int.natCast_mul,← hp]
  unfold sg
  by_cases hx:x<0
  ·rw [decide_eq_true hx,if_pos rfl,Int.mul_neg,← h0];omega
  ·rw [decide_eq_false hx,if_neg (by decide),← h0];omega
 rw [e1]
 conv=>lhs;arg 1;rw [e2]
 rw [Int.mul_ediv_cancel_left _ (by omega)]
theorem one_test (q:Nat):((((((lims q).map i64n).length:Nat):Int)==1)=true∧∃ a,(lims q)[0]? = some a∧(((a:Nat):Int)==1)=decide (q=1))∨((((((lims q).map i64n).length:Nat):Int)==1)=false∧q≠1):=by
 rw [List.length_map]
 by_cases h:(lims q).length=1
 ·refine .inl ⟨beq_iff_eq.2 (by omega),?_⟩
  obtain ⟨a,ha⟩:=getE (l:=lims q) (i:=0) (by omega);refine ⟨a,ha,?_⟩;have e:lims q=[a]:=by
   obtain ⟨b,hb⟩:=List.length_eq_one_iff.1 h;rw [hb] at ha ⊢;cases ha;rfl
  have e2:q=a:=by rw [← r_val_limbs q,e];simp [valR]
  rw [e2];rw [Bool.eq_iff_iff,beq_iff_eq,decide_eq_true_iff];omega
 ·refine .inr ⟨beq_eq_false_iff_ne.2 (by omega),fun hq=>h ?_⟩
  rw [hq,r_limbs_one (by decide) (by decide)];rfl
theorem fraction_r (x y:Int)(hy0:y≠0)(hx:rfew x)(hy:rfew y):ICalls C0 86 [rZ x,rZ y] (str (sb (txt (qZ x y)))):=by
 refine ICallP.walk w1 fok86 rfl fun F=>?_
 unfold qZ;refine sR 0 ?_;refine OkS.seqX (α:=Nat) (fun n=>⟨[(2,.optr 0 0 2 0 0),(3,.optr 1 1 2 0 0)],[⟨1,1,154,2,[.agg [boo false,rD y.natAbs]]⟩,⟨0,0,154,2,[rZ (if y<0 then -x else x)]⟩],n⟩) (fun _=>True) ?_ ?_
 ·by_cases h:y<0
  ·have cx:=minus_r x hx
   have cy:=minus_r y hy;have e1:rZ (-y)=.agg [boo false,rD y.natAbs]:=by
    show D.agg [boo (decide (-y<0)),rD (-y).natAbs]=_;rw [decide_eq_false (by omega),Int.natAbs_neg]
   rw [e1] at cy;rw [if_pos h];refine sZ 100 ?_;refine nwI (decide_eq_true h) ?_;refine ifI ?_;refine OkS.regD w1 200 [0,1,2] [3,4,5] (by kernel_rfl) ?_;refine gwI kN ?_;refine CallW.same _ cx inferInstance ?_;refine gwI kN ?_;refine CallO.same _ cy inferInstance ?_;refine stI ?_;exact ⟨trivial,_,trivial,wkI⟩
  ·have e1:rZ y=.agg [boo false,rD y.natAbs]:=by
    show D.agg [boo (decide (y<0)),rD y.natAbs]=_;rw [decide_eq_false h]
   rw [if_neg h];refine sZ 100 ?_;refine nwI (decide_eq_false h) ?_;refine ifI ?_;refine skI ?_;refine ⟨rfl,5,trivial,?_⟩;rw [← e1];exact wkI
 rintro n0 -;obtain ⟨z,hz⟩:∃ z,z=(if y<0 then -x else x):=⟨_,rfl⟩
 have hza:z.natAbs=x.natAbs:=by rw [hz];split<;>omega
 obtain ⟨d,hd⟩:∃ d,d=y.natAbs:=⟨_,rfl⟩
 have hd0:d≠0:=by omega
 unfold rfew at hx hy;rw [← hza] at hx;rw [← hd] at hy;rw [← hz,← hd];clear hz hza hd hy0;clear x y;have cg:=common_r z.natAbs d hx hy;obtain ⟨qn,qd⟩:=qZ_parts (x:=z) hd0;have hg:0<Nat.gcd z.natAbs d:=Nat.gcd_pos_of_pos_right _ (Nat.pos_of_ne_zero hd0);have hgl:(lims (Nat.gcd z.natAbs d)).length<1000000:=Nat.lt_of_le_of_lt (r_limbs_len_mono _ _ (Nat.gcd_le_right _ (Nat.pos_of_ne_zero hd0))) hy;have c4:=rdiv z.natAbs (Nat.gcd z.natAbs d) (by omega) hx hgl;have c5:ICalls C0 155 [rD d,rD (Nat.gcd z.natAbs d)] (.tup [.sl false 1 ((lims (d / Nat.gcd z.natAbs d)).map i64n),rD (d%Nat.gcd z.natAbs d)]):=rdiv d (Nat.gcd z.natAbs d) (by omega) hy hgl;have hpl:(lims (z.natAbs / Nat.gcd z.natAbs d)).length<1000000:=Nat.lt_of_le_of_lt (r_limbs_len_mono _ _ (Nat.div_le_self _ _)) hx;have hql:(lims (d / Nat.gcd z.natAbs d)).length<1000000:=Nat.lt_of_le_of_lt (r_limbs_len_mono _ _ (Nat.div_le_self _ _)) hy;have etx:txt (mkRat z d)=if d / Nat.gcd z.natAbs d=1 then Lib.itoa (sg (decide (z<0)) (z.natAbs / Nat.gcd z.natAbs d)) else Lib.itoa (sg (decide (z<0)) (z.natAbs / Nat.gcd z.natAbs d))++47::Lib.decDigits (d / Nat.gcd z.natAbs d):=by
  unfold txt;rw [qn,qd]
 rw [etx];clear etx qn qd hg hgl;generalize z.natAbs / Nat.gcd z.natAbs d=p at *;generalize d / Nat.gcd z.natAbs d=q at *;generalize z.natAbs%Nat.gcd z.natAbs d=r1 at *;generalize d%Nat.gcd z.natAbs d=r2 at *;generalize Nat.gcd z.natAbs d=gg at *;have c6:=signed_n (decide (z<0)) p (by omega);have hab:(sg (decide (z<0)) p).natAbs=p:=by unfold sg;split<;>omega
 have c7:=text_r (sg (decide (z<0)) p) (by unfold rfew;rw [hab];exact hpl);have c8:=signed_n false q (by omega);have c9:=text_r (sg false q) (by unfold rfew;show (lims q).length<1000000;exact hql);have e9:Lib.itoa (sg false q)=Lib.decDigits q:=by rw [itoa_sg false q (by simp)];rfl
 rw [e9] at c9;have l1:=dec_len (r_limbs_wd p);rw [r_val_limbs] at l1;have l2:=dec_len (r_limbs_wd q);rw [r_val_limbs] at l2;have l3:(Lib.itoa (sg (decide (z<0)) p)).length≤(Lib.decDigits p).length+1:=by
  unfold Lib.itoa;split
  ·rw [hab,List.length_cons];exact Nat.le_refl _
  ·rw [show (sg (decide (z<0)) p).toNat=p by omega];omega
 generalize sg (decide (z<0)) p=pz at *;have s1:=sb_size (Lib.itoa pz);have s2:=sb_size (Lib.decDigits q);have s3:(⟨#[47]⟩:ByteArray).size=1:=rfl;have s4:(sb (Lib.itoa pz)++(⟨#[47]⟩:ByteArray)).size=(sb (Lib.itoa pz)).size+(⟨#[47]⟩:ByteArray).size:=ByteArray.size_append;generalize Lib.itoa pz=t1 at *;generalize Lib.decDigits q=t2 at *;refine sR 300 ?_;refine cI cg ?_;refine sR 400 ?_;refine cI c4 ?_;refine sR 500 ?_;refine cI c5 ?_;refine sR 600 ?_;refine cI c6 ?_;refine cI c7 ?_;have ht:=one_test q;rcases ht with ⟨h1,a,ha,h2⟩|⟨h1,h2⟩
 ·have ha':=r_at ha
  refine OkS.seq ?_;refine sZ 700 ?_;refine gwI h1 ?_;refine ixI kT ha' ?_;refine gwI (ff2 h1 h2) ?_
  by_cases hq:q=1
  ·rw [decide_eq_true hq,if_pos hq]
   refine ifI ?_;refine sR 800 ?_;refine rtI ?_;exact exact_res rfl IsPure.out
  ·rw [decide_eq_false hq,if_neg hq]
   refine ifI ?_;refine skI ?_;refine sR 900 ?_;refine CallO.same _ c8 inferInstance ?_;refine stI ?_;refine CallO.same _ c9 inferInstance ?_;refine stI ?_;refine rtI ?_;refine exact_res ?_ IsPure.out;show str ((⟨t1.toArray⟩++⟨([47]:List UInt8).toArray⟩:ByteArray)++⟨t2.toArray⟩)=_;rw [ba_app,ba_app,List.append_assoc];rfl
 ·rw [if_neg h2]
  refine OkS.seq ?_;refine sZ 700 ?_;refine nwI h1 ?_;refine gwI kF ?_;refine ifI ?_;refine skI ?_;refine sR 900 ?_;refine CallO.same _ c8 inferInstance ?_;refine stI ?_;refine CallO.same _ c9 inferInstance ?_;refine stI ?_;refine rtI ?_;refine exact_res ?_ IsPure.out;show str ((⟨t1.toArray⟩++⟨([47]:List UInt8).toArray⟩:ByteArray)++⟨t2.toArray⟩)=_;rw [ba_app,ba_app,List.append_assoc];rfl
end Go.Ide
namespace Go.Ide
open Go.Proofs Go.RowKit
set_option maxRecDepth 20000
set_option maxHeartbeats 2000000
theorem digit_of (k:Nat)(h:k<10):(UInt8.ofNat (48+k)).toNat=48+k:=by
 rw [UInt8.toNat_ofNat'];omega
theorem dec_dig:∀ n:Nat,(Lib.decDigits n).all isDig=true∧dv (Lib.decDigits n)=n∧(Lib.decDigits n)≠[]:=fun n=>by
 induction n using Nat.strongRecOn with
 | _ n ih =>
  have one:∀ k,k<10→isDig (UInt8.ofNat (48+k))=true:=fun k hk=>by
   unfold isDig;rw [digit_of k hk,Bool.and_eq_true];exact ⟨Nat.ble_eq_true_of_le (by omega),Nat.ble_eq_true_of_le (by omega)⟩
  have vone:∀ k,k<10→dv [UInt8.ofNat (48+k)]=k:=fun k hk=>by
   show 0*10+((UInt8.ofNat (48+k)).toNat - 48)=k;rw [digit_of k hk];omega
  rw [Lib.decDigits];split
  ·rename_i h
   exact ⟨by rw [List.all_cons,one n h];rfl,vone n h,by simp⟩
  ·rename_i h
   obtain ⟨h1,h2,h3⟩:=ih (n / 10) (by omega);refine ⟨by rw [List.all_append,h1,List.all_cons,one _ (Nat.mod_lt _ (by decide))];rfl,?_,by simp⟩;rw [dv_append,h2,vone _ (Nat.mod_lt _ (by decide)),List.length_singleton];omega
theorem dig_ne {c:UInt8}(h:isDig c=true):c≠47∧c≠45:=by
 obtain ⟨h1,h2⟩:=dig_bounds h;exact ⟨fun hh=>by subst hh;simp at h1,fun hh=>by subst hh;simp at h1⟩
theorem itoa_neg (z:Int):isNeg (Lib.itoa z)=decide (z<0)∧dropNeg (Lib.itoa z)=Lib.decDigits z.natAbs:=by
 unfold Lib.itoa
 by_cases h:z<0
 ·rw [if_pos h,decide_eq_true h]
  exact ⟨rfl,rfl⟩
 ·rw [if_neg h,decide_eq_false h,show z.toNat=z.natAbs by omega]
  have h1:=dig_notNeg (dec_dig z.natAbs).1;exact ⟨h1,dropNeg_dig (dec_dig z.natAbs).1⟩
theorem rv_itoa (z:Int):rv (Lib.itoa z)=z:=by
 unfold rv;rw [(itoa_neg z).1,(itoa_neg z).2,(dec_dig z.natAbs).2.1]
 by_cases h:z<0
 ·rw [decide_eq_true h,if_pos rfl];omega
 ·rw [decide_eq_false h,if_neg (by decide)];omega
theorem itoa_noslash (z:Int):∀ c∈Lib.itoa z,(c != 47)=true:=fun c hc=>by
 have hd:∀ n,∀ c∈Lib.decDigits n,(c != 47)=true:=fun n c h=>by
  have:=(dig_ne (List.all_eq_true.1 (dec_dig n).1 c h)).1
  simpa using this
 unfold Lib.itoa at hc;split at hc
 ·rcases List.mem_cons.1 hc with rfl|h
  ·rfl
  ·exact hd _ c h
 ·exact hd _ c hc
theorem takeWhile_all {p:UInt8→Bool}:∀ {l:List UInt8} (m:List UInt8),(∀ c∈l,p c=true)→(l++m).takeWhile p=l++m.takeWhile p
 | [],_,_=>rfl
 | a::l,m,h=>by
  rw [List.cons_append,List.takeWhile_cons,if_pos (h a List.mem_cons_self),takeWhile_all m fun c hc=>h c (List.mem_cons_of_mem _ hc)];rfl
theorem txt_slash (r:Rat):slashAt (txt r)=(Lib.itoa r.num).length:=by
 unfold slashAt txt;split
 ·have:=takeWhile_all (p:=(· != 47)) [] (itoa_noslash r.num)
  rw [List.append_nil] at this;rw [this];simp
 ·rw [takeWhile_all (p:=(· != 47)) _ (itoa_noslash r.num)]
  simp
theorem txt_num (r:Rat):numT (txt r)=Lib.itoa r.num:=by
 unfold numT;rw [txt_slash];unfold txt;split
 ·exact List.take_of_length_le (Nat.le_refl _)
 ·exact List.take_left' rfl
theorem txt_den (r:Rat):denT (txt r)=if r.den=1 then [] else Lib.decDigits r.den:=by
 unfold denT;rw [txt_slash];unfold txt;split
 ·exact List.drop_of_length_le (Nat.le_succ _)
 ·rw [List.drop_append]
  rw [List.drop_of_length_le (Nat.le_succ _),Nat.add_sub_cancel_left];rfl
theorem txt_has (r:Rat):hasS (txt r) = !decide (r.den=1):=by
 unfold hasS;rw [txt_slash];unfold txt
 by_cases h:r.den=1
 ·rw [if_pos h,decide_eq_true h,decide_eq_false (by omega)];rfl
 ·rw [if_neg h,decide_eq_false h,List.length_append,List.length_cons,decide_eq_true (by omega)];rfl
theorem txt_numZ (r:Rat):numZ (txt r)=r.num:=by unfold numZ;rw [txt_num,rv_itoa]
theorem txt_denZ (r:Rat):denZ (txt r)=r.den:=by
 unfold denZ;rw [txt_has,txt_den]
 by_cases h:r.den=1
 ·rw [decide_eq_true h,h];rfl
 ·rw [decide_eq_false h,if_neg h,if_pos (show (!false)=true from rfl),rv_dig (dec_dig _).1,(dec_dig _).2.1]
theorem txt_numD (r:Rat):(dropNeg (numT (txt r))).all isDig=true:=by rw [txt_num,(itoa_neg _).2];exact (dec_dig _).1
theorem txt_denD (r:Rat):(dropNeg (denT (txt r))).all isDig=true:=by
 rw [txt_den];split
 ·rfl
 ·rw [dropNeg_dig (dec_dig _).1];exact (dec_dig _).1
theorem itoa_ne (z:Int):Lib.itoa z≠[]:=by
 unfold Lib.itoa;split
 ·simp
 ·exact (dec_dig _).2.2
theorem txt_ne (r:Rat):txt r≠[]:=by
 unfold txt;split
 ·exact itoa_ne _
 ·simp
theorem txt_neg (r:Rat):isNeg (txt r)=decide (r.num<0):=by
 rw [← (itoa_neg r.num).1];unfold txt;split
 ·rfl
 ·have:=itoa_ne r.num
  cases h:Lib.itoa r.num with
  | nil=>exact absurd h this
  | cons c l=>rfl
theorem txt_zero (r:Rat):decide (txt r=[48])=decide (r.num=0):=by
 refine decide_eq_decide.2 ⟨fun h=>?_,fun h=>?_⟩
 ·have h1:=txt_numZ r
  rw [h] at h1;rw [← h1];decide
 ·have:r.den=1:=by
   have:=r.reduced
   rw [h] at this;simpa using this
  unfold txt;rw [if_pos this,h];show Lib.decDigits 0=[48];rw [Lib.decDigits,dif_pos (by decide)];rfl
end Go.Ide
namespace Go.Ide
open Go.Proofs Go.RowKit
set_option maxRecDepth 20000
set_option maxHeartbeats 2000000
abbrev rR (r:Rat):D:=str (sb (txt r))
def tfew (r:Rat):Prop:=(txt r).length≤1000000
theorem sign_r (r:Rat)(hl:tfew r):ICalls C0 78 [rR r] (i64 (sgnQ r)):=by
 refine ICallP.walk w1 fok78 rfl fun F=>?_
 have hsz:=sb_size (txt r);unfold tfew at hl;have ez:=sb_eq (txt r) [48];rw [txt_zero] at ez;have en:=txt_neg r;refine sR 0 ?_;refine OkS.seq ?_;refine OkS.seq ?_;have ez2:strEq (sb (txt r)) ⟨#[48]⟩=decide (r.num=0):=ez;have hne:=txt_ne r;refine OkS.reg w1 100 (by kernel_rfl) ?_;refine nwI ez2 ?_
 by_cases h0:r.num=0
 ·rw [decide_eq_true h0]
  refine ifI ?_;refine sR 200 ?_;refine rtI ?_;exact exact_res (by unfold sgnQ;rw [h0];rfl) IsPure.out
 ·rw [decide_eq_false h0]
  have hpos:0<(txt r).length:=List.length_pos_iff.2 hne;have e0:decide (((sb (txt r)).size:Int)>0)=true:=decide_eq_true (by omega);have e1:((((txt r).getD (Int.toNat 0) 0).toNat:Int)==45)=decide (r.num<0):=by
   rw [← en];cases ht:txt r with
   | nil=>exact absurd ht hne
   | cons c l=>exact neg_test c l
  refine ifI ?_;refine skI ?_;refine OkS.seq ?_;refine sZ 300 ?_;refine gwI e0 ?_;refine gwI (ff3 kT e0 e1) ?_
  by_cases hn:r.num<0
  ·rw [decide_eq_true hn]
   refine ifI ?_;refine sR 400 ?_;refine rtI ?_;exact exact_res (by unfold sgnQ;congr 3;omega) IsPure.out
  ·rw [decide_eq_false hn]
   refine ifI ?_;refine skI ?_;refine sR 500 ?_;refine rtI ?_;exact exact_res (by unfold sgnQ;congr 3;omega) IsPure.out
theorem txt_min {r:Rat}(h:r.num<0):(txt r).drop 1=txt (-r)∧(txt (-r)).length+1=(txt r).length:=by
 have e:Lib.itoa r.num=45::Lib.itoa (-r.num):=by
  unfold Lib.itoa;rw [if_pos h,if_neg (by omega),show (-r.num).toNat=r.num.natAbs by omega]
 have e2:txt r=45::txt (-r):=by
  unfold txt;rw [Rat.neg_den,Rat.neg_num,e];split<;>rfl
 rw [e2];exact ⟨rfl,rfl⟩
theorem txt_plus {r:Rat}(h:0<r.num):txt (-r)=45::txt r:=by
 obtain ⟨h1,h2⟩:=txt_min (r:=-r) (by rw [Rat.neg_num];omega);rw [Rat.neg_neg] at h1;have h3:=txt_neg (-r);rw [decide_eq_true (by rw [Rat.neg_num];omega)] at h3;cases ht:txt (-r) with
 | nil=>rw [ht] at h3;cases h3
 | cons c l =>
  rw [ht] at h1 h3
  have:c=45:=by simpa [isNeg] using h3
  rw [this,← h1];rfl
theorem sgnQ_lt (r:Rat):decide (sgnQ r<0)=decide (r.num<0):=decide_eq_decide.2 (by unfold sgnQ;omega)
theorem sgnQ_eq (r:Rat):(sgnQ r==0)=decide (r.num=0):=by
 rw [Bool.eq_iff_iff,beq_iff_eq,decide_eq_true_iff];unfold sgnQ;omega
theorem neg_r (r:Rat)(hl:tfew r):ICalls C0 79 [rR r] (rR (-r)):=by
 refine ICallP.walk w1 fok79 rfl fun F=>?_
 have hsz:=sb_size (txt r);have cs:=sign_r r hl;unfold tfew at hl;have e1:=sgnQ_lt r;have e2:=sgnQ_eq r;refine sR 0 ?_;refine OkS.seq ?_;refine sR 100 ?_;refine cI cs ?_;rw [e1]
 by_cases h:r.num<0
 ·obtain ⟨t1,t2⟩:=txt_min h
  have ee:(sb (txt r)).extract (Int.toNat 1) (txt r).length=sb (txt (-r)):=by
   rw [sb_ext,List.take_of_length_le (Nat.le_refl _),← t1];rfl
  rw [decide_eq_true h];refine ifI ?_;refine sZ 200 ?_;refine gwI (ff2 hsz kN) ?_;rw [ee];refine rtI ?_;exact exact_res rfl IsPure.out
 ·rw [decide_eq_false h]
  refine ifI ?_;refine skI ?_;refine OkS.seq ?_;refine sR 300 ?_;refine cI cs ?_;rw [e2]
  by_cases h0:r.num=0
  ·rw [decide_eq_true h0]
   refine ifI ?_;refine sR 400 ?_;refine rtI ?_;refine exact_res ?_ IsPure.out
   have:r=0:=Rat.num_eq_zero.1 h0
   rw [this];rfl
  ·have tp:=txt_plus (r:=r) (by omega)
   have z3:(⟨#[45]⟩:ByteArray).size=1:=rfl;rw [decide_eq_false h0];refine ifI ?_;refine skI ?_;refine sR 500 ?_;refine rtI ?_;refine exact_res ?_ IsPure.out;show str ((⟨([45]:List UInt8).toArray⟩:ByteArray)++⟨(txt r).toArray⟩)=str (sb (txt (-r)));rw [ba_app,tp];rfl
end Go.Ide
namespace Go.Ide
open Go.Proofs Go.RowKit
set_option maxRecDepth 20000
set_option maxHeartbeats 2000000
def absR (r:Rat):Rat:=if r.num<0 then -r else r
theorem absR_num (r:Rat):(absR r).num=r.num.natAbs∧(absR r).den=r.den:=by
 unfold absR;split
 ·rw [Rat.neg_num,Rat.neg_den];exact ⟨by omega,rfl⟩
 ·exact ⟨by omega,rfl⟩
def qk (r:Rat):Bool:=!decide (20<(txt r).length) && !(decide (9<slashAt (txt (absR r)))||decide (10<(txt (absR r)).length - slashAt (txt (absR r))))
theorem absR_len (r:Rat):(txt (absR r)).length≤(txt r).length:=by
 unfold absR;split
 ·rename_i h
  have:=(txt_min h).2
  omega
 ·exact Nat.le_refl _
theorem absR_itoa (r:Rat):Lib.itoa (absR r).num=Lib.decDigits r.num.natAbs:=by
 rw [(absR_num r).1];unfold Lib.itoa;rw [if_neg (by omega)];rfl
theorem qk_small {r:Rat}(h:qk r=true):r.num.natAbs<10^9∧r.den<10^9:=by
 unfold qk at h;simp only [Bool.and_eq_true,Bool.not_eq_true',Bool.or_eq_false_iff,decide_eq_false_iff_not] at h;obtain ⟨h1,h2,h3⟩:=h;have hs:=txt_slash (absR r);rw [absR_itoa] at hs;have hd:=txt_den (absR r);rw [(absR_num r).2] at hd;have hdl:(denT (txt (absR r))).length=(txt (absR r)).length - (slashAt (txt (absR r))+1):=by unfold denT;rw [List.length_drop]
 have d1:=dv_lt _ (dec_dig r.num.natAbs).1;have d2:=dv_lt _ (dec_dig r.den).1;rw [(dec_dig _).2.1] at d1 d2;refine ⟨Nat.lt_of_lt_of_le d1 (Nat.pow_le_pow_right (by decide) (by omega)),?_⟩
 by_cases h1:r.den=1
 ·rw [h1];decide
 ·rw [if_neg h1] at hd
  rw [hd] at hdl;exact Nat.lt_of_lt_of_le d2 (Nat.pow_le_pow_right (by decide) (by omega))
theorem quick_r (r:Rat)(hl:tfew r):ICalls C0 83 [rR r] (.tup [i64 (if qk r then r.num else 0),i64 (if qk r then (r.den:Int) else 0),boo (qk r)]):=by
 refine ICallP.walk w1 fok83 rfl fun F=>?_
 have hsz:=sb_size (txt r);unfold tfew at hl;have hne:=txt_ne r;have hpos:0<(txt r).length:=List.length_pos_iff.2 hne;refine sR 0 ?_;refine sR 100 ?_;refine OkS.seq ?_;refine OkS.seq ?_
 by_cases h20:20<(txt r).length
 ·have e2:decide (((txt r).length:Int)>20)=true:=decide_eq_true (by omega)
  have eq:qk r=false:=by unfold qk;rw [decide_eq_true h20];rfl
  rw [eq];refine OkS.reg w1 200 (by kernel_rfl) ?_;refine nwI (ff2 hsz e2) ?_;refine ifI ?_;refine sR 300 ?_;refine rtI ?_;exact exact_res rfl IsPure.out
 ·have e2:decide (((txt r).length:Int)>20)=false:=decide_eq_false (by omega)
  have eq:qk r = !(decide (9<slashAt (txt (absR r)))||decide (10<(txt (absR r)).length - slashAt (txt (absR r)))):=by unfold qk;rw [decide_eq_false h20];rfl
  have en:=txt_neg r;refine OkS.reg w1 200 (by kernel_rfl) ?_;refine nwI (ff2 hsz e2) ?_;refine ifI ?_;refine skI ?_;refine OkS.seqX (α:=Nat) (fun n=>⟨[(5,rR r),(6,boo (decide (r.num<0)))],[],n⟩) (fun _=>True) ?_ ?_
  ·have e0:decide (((sb (txt r)).size:Int)>0)=true:=decide_eq_true (by omega)
   have e1:((((txt r).getD (Int.toNat 0) 0).toNat:Int)==45)=decide (r.num<0):=by
    rw [← en];cases ht:txt r with
    | nil=>exact absurd ht hne
    | cons c l=>exact neg_test c l
   refine OkS.reg w1 400 (by kernel_rfl) ?_;refine gwI e0 ?_;refine gwI (ff3 kT e0 e1) ?_;exact ⟨trivial,_,trivial,wkI⟩
  rintro n0 -;refine OkS.seqX (α:=Nat) (fun n=>⟨[(5,rR (absR r)),(6,boo (decide (r.num<0)))],[],n⟩) (fun _=>True) ?_ ?_
  ·refine sR 500 ?_
   by_cases h:r.num<0
   ·obtain ⟨t1,t2⟩:=txt_min h
    have ea:absR r = -r:=by unfold absR;rw [if_pos h]
    have ee:(sb (txt r)).extract (Int.toNat 1) (txt r).length=sb (txt (absR r)):=by
     rw [ea,sb_ext,List.take_of_length_le (Nat.le_refl _),← t1];rfl
    rw [decide_eq_true h];refine ifI ?_;refine OkS.reg w1 600 (by kernel_rfl) ?_;refine gwI (ff2 hsz kN) ?_;rw [ee];exact ⟨trivial,_,trivial,wkI⟩
   ·have ea:absR r=r:=by unfold absR;rw [if_neg h]
    rw [decide_eq_false h,ea];refine ifI ?_;refine skI ?_;exact ⟨rfl,_,trivial,wkI⟩
  rintro n1 -;have hal:=absR_len r;have hsa:=txt_slash (absR r);rw [absR_itoa] at hsa;have hn:=txt_num (absR r);rw [absR_itoa] at hn;have hd:=txt_den (absR r);rw [(absR_num r).2] at hd;have hh:=txt_has (absR r);rw [(absR_num r).2] at hh;unfold hasS at hh;have hle:=slashAt_le (txt (absR r));have cs:=slash_r (txt (absR r)) (by omega);have hszA:=sb_size (txt (absR r));clear hsz hne hpos e2 en;generalize hT:txt (absR r)=T at *;have eR:rR (absR r)=str (sb T):=by rw [← hT]
  rw [eR];clear hT eR;refine sR 700 ?_;refine cI cs ?_;have w8:IntKind.i64.wrap ((T.length:Int) - (slashAt T:Int))=((T.length - slashAt T:Nat):Int):=by rw [wI (by omega) (by omega)];omega
  have eb:decide (((T.length - slashAt T:Nat):Int)>10)=decide (10<T.length - slashAt T):=decide_eq_decide.2 (by omega)
  by_cases h9:9<slashAt T
  ·have e8:decide ((slashAt T:Int)>9)=true:=decide_eq_true (by omega)
   rw [decide_eq_true h9] at eq;have eq2:qk r=false:=eq;rw [eq2];refine OkS.seq ?_;refine sZ 800 ?_;refine nwI e8 ?_;refine gwI kT ?_;refine ifI ?_;refine sR 900 ?_;refine rtI ?_;exact exact_res rfl IsPure.out
  have e8:decide ((slashAt T:Int)>9)=false:=decide_eq_false (by omega);rw [decide_eq_false h9] at eq
  by_cases h10:10<T.length - slashAt T
  ·rw [decide_eq_true h10] at eq eb
   have eq2:qk r=false:=eq;rw [eq2];refine OkS.seq ?_;refine sZ 800 ?_;refine nwI e8 ?_;refine gwI (ff4 kF hszA w8 eb) ?_;refine ifI ?_;refine sR 900 ?_;refine rtI ?_;exact exact_res rfl IsPure.out
  rw [decide_eq_false h10] at eq eb;have eq2:qk r=true:=eq;rw [eq2];refine OkS.seq ?_;refine sZ 800 ?_;refine nwI e8 ?_;refine gwI (ff4 kF hszA w8 eb) ?_;refine ifI ?_;refine skI ?_;have hd1:=dec_dig r.num.natAbs;have hd2:=dec_dig r.den;have c1:=value_r (Lib.decDigits r.num.natAbs) hd1.1 (by omega);rw [hd1.2.1] at c1;have e10:(sb T).extract 0 (slashAt T)=sb (Lib.decDigits r.num.natAbs):=by
   rw [sb_ext,List.drop_zero,← hn];rfl
  refine sZ 1000 ?_;refine gwI (ff2 hszA kN) ?_;refine gwI e10 ?_;refine CallO.same _ c1 inferInstance ?_;refine stI ?_;refine OkS.seqX (α:=Nat) (fun n=>⟨[(6,boo (decide (r.num<0))),(8,i64 (r.num.natAbs:Int)),(9,i64 (r.den:Int))],[],n⟩) (fun _=>True) ?_ ?_
  ·by_cases hden:r.den=1
   ·rw [decide_eq_true hden] at hh
    have e11:decide ((slashAt T:Int)<(T.length:Int))=false:=decide_eq_false (by have:=of_decide_eq_false (p:=slashAt T<T.length) hh;omega);rw [hden];refine sZ 1100 ?_;refine nwI (ff2 hszA e11) ?_;refine ifI ?_;refine skI ?_;exact ⟨rfl,_,trivial,wkI⟩
   ·rw [decide_eq_false hden] at hh
    rw [if_neg hden] at hd;have hlt:=of_decide_eq_true (p:=slashAt T<T.length) hh;have e11:decide ((slashAt T:Int)<(T.length:Int))=true:=decide_eq_true (by omega);have wk:IntKind.i64.wrap (((slashAt T:Nat):Int)+1)=((slashAt T+1:Nat):Int):=wI (by omega) (by omega);have e12:(sb T).extract (slashAt T+1) T.length=sb (Lib.decDigits r.den):=by
     rw [sb_ext,List.take_of_length_le (Nat.le_refl _),← hd];rfl
    have hdl:(Lib.decDigits r.den).length≤18:=by
     rw [← hd];unfold denT;rw [List.length_drop];omega
    have c2:=value_r (Lib.decDigits r.den) hd2.1 hdl;rw [hd2.2.1] at c2;refine sZ 1100 ?_;refine nwI (ff2 hszA e11) ?_;refine ifI ?_;refine OkS.reg w1 1200 (by kernel_rfl) ?_;refine gwI (ff3 hszA wk kN) ?_;refine gwI e12 ?_;refine CallO.same _ c2 inferInstance ?_;refine stI ?_;exact ⟨trivial,_,trivial,wkI⟩
  rintro n2 -;obtain ⟨b1,b2⟩:=qk_small eq2;refine OkS.seqX (α:=Nat) (fun n=>⟨[(8,i64 r.num),(9,i64 (r.den:Int))],[],n⟩) (fun _=>True) ?_ ?_
  ·refine sR 1300 ?_
   by_cases h:r.num<0
   ·have wn:IntKind.i64.wrap (0 - (r.num.natAbs:Int))=r.num:=by rw [wI (by omega) (by omega)];omega
    rw [decide_eq_true h];refine ifI ?_;refine OkS.reg w1 1400 (by kernel_rfl) ?_;refine nwI wn ?_;exact ⟨trivial,_,trivial,wkI⟩
   ·have en:(r.num.natAbs:Int)=r.num:=by omega
    rw [decide_eq_false h,en];refine ifI ?_;refine skI ?_;exact ⟨rfl,_,trivial,wkI⟩
  rintro n3 -;refine sR 1500 ?_;refine rtI ?_;exact exact_res rfl IsPure.out
end Go.Ide
namespace Go.Ide
open Go.Proofs Go.RowKit
set_option maxRecDepth 20000
set_option maxHeartbeats 2000000
theorem sg_natAbs (b:Bool)(n:Nat):(sg b n).natAbs=n:=by unfold sg;split<;>omega
theorem rof_z (z:Int)(d:Nat)(hz:z.natAbs≤4000000000000000000)(hd0:0<d)(hd:d≤4000000000000000000):ICalls C0 84 [i64 z,i64 (d:Int)] (rR (mkRat z d)):=by
 refine ICallP.walk w1 fok84 rfl fun F=>?_
 have hg:0<Nat.gcd z.natAbs d:=Nat.gcd_pos_of_pos_right _ hd0;have hgl:Nat.gcd z.natAbs d≤d:=Nat.gcd_le_right _ hd0;obtain ⟨qn,qd⟩:=qZ_parts (x:=z) (d:=d) (by omega);have etx:txt (mkRat z d)=if d / Nat.gcd z.natAbs d=1 then Lib.itoa (mkRat z d).num else Lib.itoa (mkRat z d).num++47::Lib.decDigits (d / Nat.gcd z.natAbs d):=by
  unfold txt;rw [qd]
 have q1:z.tdiv (Nat.gcd z.natAbs d:Nat)=(mkRat z d).num:=by
  rw [qn];obtain ⟨p,hp⟩:=Nat.gcd_dvd_left z.natAbs d;have e1:z.natAbs / Nat.gcd z.natAbs d=p:=Nat.div_eq_of_eq_mul_right hg hp;have e2:z=(Nat.gcd z.natAbs d:Int)*sg (decide (z<0)) p:=by
   have h0:(z.natAbs:Int)=(Nat.gcd z.natAbs d:Int)*(p:Int):=by rw [← Int.natCast_mul,← hp]
   unfold sg
   by_cases hx:z<0
   ·rw [decide_eq_true hx,if_pos rfl,Int.mul_neg,← h0];omega
   ·rw [decide_eq_false hx,if_neg (by decide),← h0];omega
  rw [e1]
  conv=>lhs;arg 1;rw [e2]
  rw [Int.mul_tdiv_cancel_left _ (by omega)]
 have q2:(d:Int).tdiv (Nat.gcd z.natAbs d:Nat)=((d / Nat.gcd z.natAbs d:Nat):Int):=rfl;have q5:(mkRat z d).num.natAbs≤4000000000000000000:=by
  rw [qn];rw [sg_natAbs];exact Nat.le_trans (Nat.div_le_self _ _) hz
 have q4:d / Nat.gcd z.natAbs d≤4000000000000000000:=Nat.le_trans (Nat.div_le_self _ _) hd;have hx:0<d / Nat.gcd z.natAbs d:=Nat.div_pos hgl hg;have ert:rR (mkRat z d)=str (sb (if d / Nat.gcd z.natAbs d=1 then Lib.itoa (mkRat z d).num else Lib.itoa (mkRat z d).num++47::Lib.decDigits (d / Nat.gcd z.natAbs d))):=by rw [← etx]
 rw [ert];clear etx ert qn qd;generalize (mkRat z d).num=pz at *;refine fR 0 ?_;refine OkS.seqW ⟨[(0,i64 z),(1,i64 d),(4,str ⟨#[]⟩)],[],50⟩ ?_ ?_
 ·refine OkS.seq ?_
  have l1:(decide (z < -4000000000000000000))=false:=by apply decide_eq_false;omega
  have l2:(decide (z>4000000000000000000))=false:=by apply decide_eq_false;omega
  have l3:(decide ((d:Int) < -4000000000000000000))=false:=by apply decide_eq_false;omega
  have l4:(decide ((d:Int)>4000000000000000000))=false:=by apply decide_eq_false;omega
  refine OkS.reg w1 100 (by kernel_rfl) ?_
  repeat' (first|(refine And.intro (by exact sdI) ?_;(refine dsI ?_);(try simp only [brB_t,brB_f,l1,l2,l3,l4]))|((refine brI (fun hb=>?_) (fun hb=>?_))<;>(try simp only [Bool.not_eq_true',Bool.not_eq_false'] at hb)<;>(try simp only [hb])<;>(refine dsI ?_)))
  refine ifI ?_;refine skI ?_;exact And.intro (by trivial) (wkI)
 refine OkS.seqW ⟨[(0,i64 z),(1,i64 d),(4,str ⟨#[]⟩)],[],100⟩ ?_ ?_
 ·refine fR 300 ?_
  refine ifI ?_;have e27:(decide ((d:Int)<0))=false:=by simp
  rw [e27];refine skI ?_;exact And.intro (by trivial) (wkI)
 refine OkS.seq ?_;have m1:max z (IntKind.i64.wrap (0 - z))=(z.natAbs:Int):=by rw [wI (by omega) (by omega)];omega
 refine OkS.reg w1 500 (by kernel_rfl) ?_;refine mwI m1 ?_;refine dI (rgcd_ok z.natAbs d (by omega) (by omega)) ?_;refine OkS.seq ?_;refine OkS.regD w1 600 [0,1,2,3,4,5,6] [7] (by kernel_rfl) ?_;refine nxI ?_;have w1p:IntKind.i64.wrap pz=pz:=wI (by omega) (by omega);rw [q1,q2,w1p,wN (Nat.le_trans q4 (by decide))];clear q1 q2 hg hgl;generalize d / Nat.gcd z.natAbs d=y at *;refine fR 700 ?_;have c1:=decimal_ok pz.natAbs 1 (by omega);have c2:=decimal_ok y 1 (by omega);rw [dec_one] at c1 c2;have s1:=decDigits_len 18 pz.natAbs (Nat.lt_of_le_of_lt q5 (by decide));have s2:=decDigits_len 18 y (Nat.lt_of_le_of_lt q4 (by decide));have z1:=ba_size (Lib.decDigits pz.natAbs);have z2:=ba_size (Lib.decDigits y);have m1:max pz (IntKind.i64.wrap (0 - pz))=(pz.natAbs:Int):=by rw [wI (by omega) (by omega)];omega
 refine OkS.seqX (α:=Nat) (fun n=>⟨[(0,i64 pz),(1,i64 (y:Int)),(4,str ⟨#[]⟩),(6,str (sb (if pz<0 then [45] else [])))],[],n⟩) (fun _=>True) ?_ ?_
 ·refine fR 800 ?_
  by_cases h:pz<0
  ·rw [decide_eq_true h,if_pos h]
   refine ifI ?_;refine fI 900 ?_;exact ⟨rfl,_,trivial,wkI⟩
  ·rw [decide_eq_false h,if_neg h]
   refine ifI ?_;refine skI ?_;exact ⟨rfl,_,trivial,wkI⟩
 rintro n0 -;have ei:(if pz<0 then [45] else [])++Lib.decDigits pz.natAbs=Lib.itoa pz:=by
  unfold Lib.itoa;split
  ·rfl
  ·rw [show pz.toNat=pz.natAbs by omega];rfl
 have z3:=sb_size (if pz<0 then [45] else []);have z4:(if pz<0 then [45] else []:List UInt8).length≤1:=by split<;>simp
 have z5:(Lib.itoa pz).length≤20:=by rw [← ei,List.length_append];omega
 refine sZ 1000 ?_;refine mwI m1 ?_;refine dI c1 ?_;rw [ba_app,ei];have z6:=ba_size (Lib.itoa pz);generalize Lib.itoa pz=t1 at *;clear ei z3 z4;refine OkS.seqX (α:=Nat) (fun n=>⟨[(6,str (sb (if y=1 then t1 else t1++47::Lib.decDigits y)))],[],n⟩) (fun _=>True) ?_ ?_
 ·refine fR 1100 ?_
  by_cases hy:y=1
  ·rw [if_pos hy]
   have e54:(decide ((y:Int)>1))=false:=by apply decide_eq_false;omega
   rw [e54];refine ifI ?_;refine skI ?_;exact ⟨rfl,_,trivial,wkI⟩
  ·rw [if_neg hy]
   have e54:(decide ((y:Int)>1))=true:=by apply decide_eq_true;omega
   have s3:(⟨#[47]⟩:ByteArray).size=1:=rfl;have sc:((⟨t1.toArray⟩:ByteArray)++(⟨#[47]⟩:ByteArray)).size=(⟨t1.toArray⟩:ByteArray).size+(⟨#[47]⟩:ByteArray).size:=ByteArray.size_append;rw [e54];refine ifI ?_;refine fI 1200 ?_;refine dI c2 ?_;have e47:(⟨#[47]⟩:ByteArray)=⟨([47]:List UInt8).toArray⟩:=rfl;rw [e47,ba_app,ba_app,List.append_assoc,List.cons_append,List.nil_append];exact ⟨rfl,_,trivial,wkI⟩
 rintro n1 -;refine fR 1300 ?_;refine rtI ?_;exact exact_res rfl IsPure.out
end Go.Ide
namespace Go.Ide
open Go.Proofs Go.RowKit
set_option maxRecDepth 20000
set_option maxHeartbeats 2000000
theorem lims_of {n k:Nat}(h:(limbs n).length≤k):(lims n).length≤3*k:=by
 refine r_limbs_len_le (Nat.lt_of_lt_of_le (lt_limbs n) ?_);rw [Nat.pow_mul];exact Nat.le_trans (Nat.pow_le_pow_right (by decide) h) (Nat.pow_le_pow_left (by decide) k)
theorem dec_of {n k:Nat}(h:(limbs n).length≤k):(Lib.decDigits n).length≤27*k+1:=by
 have h1:=dec_len (r_limbs_wd n);rw [r_val_limbs] at h1
 have:=lims_of h
 omega
theorem itoa_of {z:Int}{k:Nat}(h:(limbs z.natAbs).length≤k):(Lib.itoa z).length≤27*k+2:=by
 have:=dec_of h
 unfold Lib.itoa;split
 ·rw [List.length_cons];omega
 ·rw [show z.toNat=z.natAbs by omega];omega
theorem tfew_of {r:Rat}{k:Nat}(h:rk r k)(hk:k≤10000):tfew r:=by
 have h1:=itoa_of h.1;have h2:=dec_of h.2;unfold tfew txt;split
 ·omega
 ·rw [List.length_append,List.length_cons];omega
def LZ (x:Int)(p:Nat):Prop:=(lims x.natAbs).length≤p
theorem LZ.mul {x y:Int}{p q:Nat}(hx:LZ x p)(hy:LZ y q):LZ (x*y) (p+q):=by
 unfold LZ at *;rw [Int.natAbs_mul]
 have:=r_limbs_mul x.natAbs y.natAbs
 omega
theorem LZ.add {x y:Int}{p q:Nat}(hx:LZ x p)(hy:LZ y q):LZ (x+y) (p+q+1):=by
 unfold LZ at *;have h1:=r_limbs_len_mono (x+y).natAbs (x.natAbs+y.natAbs) (Int.natAbs_add_le x y);have h2:=r_limbs_add x.natAbs y.natAbs;omega
theorem LZ.few {x:Int}{p:Nat}(h:LZ x p)(hp:p<1000000):rfew x:=Nat.lt_of_le_of_lt h hp
theorem LZ.num {r:Rat}{k:Nat}(h:rk r k):LZ r.num (3*k):=lims_of h.1
theorem LZ.den {r:Rat}{k:Nat}(h:rk r k):LZ (r.den:Int) (3*k):=lims_of h.2
theorem qZ_add (a b:Rat):qZ (a.num*b.den+b.num*a.den) ((a.den:Int)*b.den)=a+b:=by
 unfold qZ;have h:¬ ((a.den:Int)*b.den<0):=by
  rw [← Int.natCast_mul];omega
 rw [if_neg h,← Int.natCast_mul,Int.natAbs_natCast,Rat.add_def',]
theorem small_mul {x y:Int}(hx:x.natAbs<10^9)(hy:y.natAbs<10^9):(x*y).natAbs<10^18:=by
 rw [Int.natAbs_mul];exact Nat.lt_of_lt_of_le (Nat.mul_lt_mul'' hx hy) (by decide)
theorem radd (a b:Rat)(i j:Nat)(ha:rk a i)(hb:rk b j)(hij:i+j≤10000):ICalls C0 32 [rR a,rR b] (rR (a+b)):=by
 refine ICallP.walk w1 fok32 rfl fun F=>?_
 have ta:=tfew_of ha (by omega);have tb:=tfew_of hb (by omega);have qa:=quick_r a ta;have qb:=quick_r b tb
 by_cases hq:qk a=true∧qk b=true
 ·obtain ⟨h1,h2⟩:=hq
  obtain ⟨n1,d1⟩:=qk_small h1;obtain ⟨n2,d2⟩:=qk_small h2;rw [h1,if_pos rfl,if_pos rfl] at qa;rw [h2,if_pos rfl,if_pos rfl] at qb;have p1:=small_mul n1 (y:=(b.den:Int)) (by omega);have p2:=small_mul n2 (y:=(a.den:Int)) (by omega);have p3:=small_mul (x:=(a.den:Int)) (y:=(b.den:Int)) (by omega) (by omega);have m1:IntKind.i64.wrap (a.num*(b.den:Int))=a.num*b.den:=wI (by omega) (by omega);have m2:IntKind.i64.wrap (b.num*(a.den:Int))=b.num*a.den:=wI (by omega) (by omega);have m3:IntKind.i64.wrap (a.num*(b.den:Int)+b.num*(a.den:Int))=a.num*b.den+b.num*a.den:=wI (by omega) (by omega);have m4:IntKind.i64.wrap ((a.den:Int)*(b.den:Int))=((a.den*b.den:Nat):Int):=by rw [wI (by omega) (by omega),Int.natCast_mul]
  have p4:a.den*b.den<10^18:=by rw [← Int.natCast_mul,Int.natAbs_natCast] at p3;exact p3
  have cf:=rof_z (a.num*b.den+b.num*a.den) (a.den*b.den) (by omega) (Nat.mul_pos a.den_pos b.den_pos) (by omega);rw [← Rat.add_def'] at cf;refine sR 0 ?_;refine sR 100 ?_;refine cI qa ?_;refine sR 200 ?_;refine cI qb ?_;refine OkS.seq ?_;refine sZ 300 ?_;refine gwI kT ?_;refine ifI ?_;refine sZ 400 ?_;refine nwI (ff4 m1 m2 m3 m4) ?_;refine cI cf ?_;refine rtI ?_;exact exact_res rfl IsPure.out
 ·refine sR 0 ?_
  refine sR 100 ?_;refine cI qa ?_;refine sR 200 ?_;refine cI qb ?_;refine OkS.seqX (α:=Nat) (fun n=>⟨[(0,rR a),(1,rR b)],[],n⟩) (fun _=>True) ?_ ?_
  ·cases h1:qk a
   ·refine sZ 300 ?_
    refine gwI h1 ?_;refine gwI kF ?_;refine ifI ?_;refine skI ?_;exact ⟨rfl,_,trivial,wkI⟩
   ·have h2:qk b=false:=by
     cases h2:qk b
     ·rfl
     ·exact absurd ⟨h1,h2⟩ hq
    rw [h2];refine sZ 300 ?_;refine gwI h1 ?_;refine gwI kT ?_;refine ifI ?_;refine skI ?_;exact ⟨rfl,_,trivial,wkI⟩
  rintro n0 -;clear qa qb hq;have pa:=parts_r (txt a) (txt_numD a) (txt_denD a) ta;have pb:=parts_r (txt b) (txt_numD b) (txt_denD b) tb;rw [txt_numZ,txt_denZ] at pa pb;have lan:=LZ.num ha;have lad:=LZ.den ha;have lbn:=LZ.num hb;have lbd:=LZ.den hb;have da:=a.den_pos;have db:=b.den_pos;have c1:=times_r a.num b.den (lan.few (by omega)) (lbd.few (by omega));have c2:=times_r b.num a.den (lbn.few (by omega)) (lad.few (by omega));have c3:=plus_r (a.num*b.den) (b.num*a.den) ((lan.mul lbd).few (by omega)) ((lbn.mul lad).few (by omega));have c4:=times_r (a.den:Int) b.den (lad.few (by omega)) (lbd.few (by omega));have c5:=fraction_r (a.num*b.den+b.num*a.den) ((a.den:Int)*b.den) (by rw [← Int.natCast_mul];have:=Nat.mul_pos da db;omega) (((lan.mul lbd).add (lbn.mul lad)).few (by omega)) ((lad.mul lbd).few (by omega));rw [qZ_add] at c5;refine sR 500 ?_;refine cI pa ?_;refine sR 600 ?_;refine cI pb ?_;refine OkS.seq ?_;refine OkS.regD w1 700 [0,1,2,3,4,5,6,7,8] [9,10,11] (by kernel_rfl) ?_;refine gwI kN ?_
  first|refine CallW.same _ c1 inferInstance ?_|refine CallO.same _ c1 inferInstance ?_
  refine gwI kN ?_
  first|refine CallW.same _ c2 inferInstance ?_|refine CallO.same _ c2 inferInstance ?_
  refine gwI kN ?_
  first|refine CallW.same _ c3 inferInstance ?_|refine CallO.same _ c3 inferInstance ?_
  refine gwI kN ?_
  first|refine CallW.same _ c4 inferInstance ?_|refine CallO.same _ c4 inferInstance ?_
  refine gwI kN ?_
  first|refine CallW.same _ c5 inferInstance ?_|refine CallO.same _ c5 inferInstance ?_
  refine gwI kN ?_;refine rtI ?_;exact exact_res rfl IsPure.out
theorem rsub (a b:Rat)(i j:Nat)(ha:rk a i)(hb:rk b j)(hij:i+j≤10000):ICalls C0 77 [rR a,rR b] (rR (a - b)):=by
 refine ICallP.walk w1 fok77 rfl fun F=>?_
 have c1:=neg_r b (tfew_of hb (by omega));have c2:=radd a (-b) i j ha (rk_neg hb) hij;rw [← Rat.sub_eq_add_neg] at c2;refine sR 0 ?_;refine sR 100 ?_;refine cI c1 ?_;refine cI c2 ?_;refine rtI ?_;exact exact_res rfl IsPure.out
theorem sgn_sub (a b:Rat):sgnQ (a - b)=cmpQ a b:=by
 unfold sgnQ cmpQ;have h1:(a - b).num<0↔a<b:=by
  have e:=Rat.lt_iff (a - b) 0;have e1:(a - b).num*((0:Rat).den:Int)<(0:Rat).num*((a - b).den:Int)↔(a - b).num<0:=by simp
  rw [← e1,← e];constructor<;>intro h<;>grind
 have h2:0<(a - b).num↔b<a:=by
  have e:=Rat.lt_iff 0 (a - b);have e1:(0:Rat).num*((a - b).den:Int)<(a - b).num*((0:Rat).den:Int)↔0<(a - b).num:=by simp
  rw [← e1,← e];constructor<;>intro h<;>grind
 by_cases h:a<b
 ·rw [if_pos h];have:=h1.2 h;omega
 ·rw [if_neg h]
  by_cases h':b<a
  ·rw [if_pos h'];have:=h2.2 h';omega
  ·rw [if_neg h']
   have:=mt h1.1 h
   have:=mt h2.1 h'
   omega
theorem rcmp (a b:Rat)(i j:Nat)(ha:rk a i)(hb:rk b j)(hij:i+j<10000):ICalls C0 34 [rR a,rR b] (i64 (cmpQ a b)):=by
 refine ICallP.walk w1 fok34 rfl fun F=>?_
 have c1:=rsub a b i j ha hb (by omega);have c2:=sign_r (a - b) (tfew_of (rk_sub ha hb) (by omega));rw [sgn_sub] at c2;refine sR 0 ?_;refine sR 100 ?_;refine cI c1 ?_;refine cI c2 ?_;refine rtI ?_;exact exact_res rfl IsPure.out
end Go.Ide
namespace Go.Ide
open Go.Proofs Go.RowKit
set_option maxRecDepth 20000
set_option maxHeartbeats 2000000
theorem isDig_eq (c:UInt8):isDig c=(!decide ((c.toNat:Int)<48) && !decide ((c.toNat:Int)>57)):=by
 unfold isDig;rw [Bool.eq_iff_iff,Bool.and_eq_true,Bool.and_eq_true];simp only [Bool.not_eq_true',decide_eq_false_iff_not,Nat.ble_eq];omega
theorem all_take_dig {l:List UInt8}{i:Nat}{c:UInt8}(hc:l[i]? = some c)(h:(l.take i).all isDig=true):(l.take (i+1)).all isDig=isDig c:=by
 rw [List.take_add_one,hc,List.all_append,h];simp
theorem all_no {l:List UInt8}{i:Nat}{c:UInt8}(hc:l[i]? = some c)(h:isDig c=false):l.all isDig=false:=by
 cases ha:l.all isDig
 ·rfl
 ·have:=List.all_eq_true.1 ha c (List.mem_of_getElem? hc)
  rw [h] at this;cases this
theorem digits_r (l:List UInt8)(hl:l.length≤1000000000):ICalls C0 161 [str (sb l)] (boo (l.all isDig)):=by
 refine ICallP.walk w1 fok161 rfl fun F=>?_
 have hsz:=sb_size l;refine sR 0 ?_;refine OkS.seq ?_;refine sR 100 ?_;refine OkS.block ?_;refine OkS.loop (α:=Nat × Nat) (fun p=>⟨[(0,str (sb l)),(3,i64 (p.1:Int))],[],p.2⟩) (fun p=>l.length - p.1) (fun p=>p.1≤l.length∧(l.take p.1).all isDig=true) (0,_) ⟨Nat.zero_le _,rfl⟩ wkI ?_;rintro ⟨i,n⟩ F ⟨hi,ha⟩;dsimp only at hi ha ⊢;refine OkS.seq ?_;refine sZ 200 ?_;refine nwI hsz ?_;refine ifI ?_
 (refine brI (fun hlt=>?_) (fun hlt=>?_))<;>(try simp only [Bool.not_eq_true',Bool.not_eq_false'] at hlt)<;>(try simp only [hlt])
 ·have hi2:i<l.length:=by
   have:=of_decide_eq_true hlt
   omega
  obtain ⟨c,hc⟩:∃ c,l[i]? = some c:=⟨l[i],List.getElem?_eq_getElem hi2⟩
  have hg:l.getD i 0=c:=by simp [hc]
  have wi:IntKind.i64.wrap ((i:Int)+1)=((i+1:Nat):Int):=wI (by omega) (by omega);have hid:=isDig_eq c;have hat:=all_take_dig hc ha;have hno:=all_no hc;refine skI ?_;refine OkS.seq ?_;refine OkS.block ?_;refine sZ 400 ?_;refine nwI (ff2 kN hg) ?_
  by_cases c1:(c.toNat:Int)<48
  ·rw [decide_eq_true c1] at hid
   have e4:=decide_eq_true c1;simp only [e4];refine gwI kT ?_;refine ifI ?_;refine sR 500 ?_;refine rtI ?_;exact exact_res (by rw [hno hid]) IsPure.out
  ·rw [decide_eq_false c1] at hid
   have e4:=decide_eq_false c1;simp only [e4];refine gwI (ff3 kF kN hg) ?_
   by_cases c2:(c.toNat:Int)>57
   ·rw [decide_eq_true c2] at hid ⊢
    refine ifI ?_;refine sR 500 ?_;refine rtI ?_;exact exact_res (by rw [hno hid]) IsPure.out
   ·rw [decide_eq_false c2] at hid ⊢
    refine ifI ?_;refine skI ?_;refine OkS.reg w1 300 (by kernel_rfl) ?_;refine nwI wi ?_;exact ⟨(i+1,_),⟨hi2,hat.trans hid⟩,by dsimp only;omega,wkI⟩
 ·have hi2:i=l.length:=by
   have:=of_decide_eq_false hlt
   omega
  subst hi2;rw [List.take_of_length_le (Nat.le_refl _)] at ha;refine exI ?_;refine sR 600 ?_;refine rtI ?_;exact exact_res (by rw [ha]) IsPure.out
theorem head_test (c : UInt8) : (((c.toNat : Nat) : Int) == 48) = decide (c = 48) := by
  rw [Bool.eq_iff_iff, beq_iff_eq, decide_eq_true_iff, ← UInt8.toNat_inj]
  exact ⟨fun h => by have : c.toNat = 48 := by omega
                     exact this, fun h => by rw [h]; rfl⟩
theorem form_r (l:List UInt8)(hl:l.length≤1000000000):ICalls C0 90 [str (sb l)] (boo (plainB l)):=by
 refine ICallP.walk w1 fok90 rfl fun F=>?_
 have hsz:=sb_size l;have cd:=digits_r l hl;refine sR 0 ?_;refine OkS.seq ?_;refine OkS.seq ?_
 match l,hl,hsz,cd with
 | [],_,hsz,_ =>
  have e1:((((sb []).size:Nat):Int)==0)=true:=rfl;refine OkS.reg w1 100 (by kernel_rfl) ?_;refine nwI e1 ?_;refine gwI kT ?_;refine ifI ?_;refine sR 200 ?_;refine rtI ?_;exact exact_res rfl IsPure.out
 | [c],hl,hsz,cd =>
  have e1:((((sb [c]).size:Nat):Int)==0)=false:=rfl;have e2:decide ((((sb [c]).size:Nat):Int)>1)=false:=rfl;have ep:plainB [c]=[c].all isDig:=by
   unfold plainB digB
   by_cases h:c=48
   ·subst h;rfl
   ·simp [h]
  rw [ep];refine OkS.reg w1 100 (by kernel_rfl) ?_;refine nwI e1 ?_;refine gwI kF ?_;simp only [e2];refine gwI kF ?_;refine ifI ?_;refine skI ?_;refine sR 300 ?_;refine cI cd ?_;refine rtI ?_;exact exact_res rfl IsPure.out
 | c::d::l,hl,hsz,cd =>
  have hs2:(sb (c::d::l)).size=l.length+2:=hsz;have e1:((((sb (c::d::l)).size:Nat):Int)==0)=false:=beq_eq_false_iff_ne.2 (by omega);have e2:decide ((((sb (c::d::l)).size:Nat):Int)>1)=true:=decide_eq_true (by omega);have e3:((((c::d::l).getD (Int.toNat 0) 0).toNat:Int)==48)=decide (c=48):=head_test c;have ep:plainB (c::d::l)=if c=48 then false else (c::d::l).all isDig:=by
   unfold plainB digB
   by_cases h:c=48
   ·subst h;simp
   ·simp [h]
  rw [ep];refine OkS.reg w1 100 (by kernel_rfl) ?_;refine nwI e1 ?_;refine gwI (ff2 kF e2) ?_;refine gwI (ff4 kT e2 e3 kF) ?_
  by_cases h:c=48
  ·rw [decide_eq_true h,if_pos h]
   refine ifI ?_;refine sR 200 ?_;refine rtI ?_;exact exact_res rfl IsPure.out
  ·rw [decide_eq_false h,if_neg h]
   refine ifI ?_;refine skI ?_;refine sR 300 ?_;refine cI cd ?_;refine rtI ?_;exact exact_res rfl IsPure.out
end Go.Ide
namespace Go.Ide
open Go.Proofs Go.RowKit
set_option maxRecDepth 20000
set_option maxHeartbeats 2000000
theorem slash_len (l:List UInt8):slashAt l=(numT l).length:=by
 have:=slashAt_le l
 unfold numT;rw [List.length_take];omega
theorem drop_parts (l:List UInt8):numT (dropNeg l)=sizeT l∧denT (dropNeg l)=denT l∧hasS (dropNeg l)=hasS l∧decide (numT l=[45,48])=(isNeg l&&decide (sizeT l=[48])):=by
 cases hb:isNeg l
 ·have ed:dropNeg l=l:=by unfold dropNeg;rw [hb];rfl
  have en:isNeg (numT l)=false:=by
   unfold numT;cases l with
   | nil=>rfl
   | cons c l =>
    cases hk:slashAt (c::l) with
    | zero=>rfl
    | succ k=>exact hb
  have es:sizeT l=numT l:=by unfold sizeT dropNeg;rw [en];rfl
  rw [ed,es];refine ⟨rfl,rfl,rfl,?_⟩;rw [Bool.false_and];refine decide_eq_false fun h=>?_
  rw [h] at en;cases en
 ·cases l with
  | nil=>cases hb
  | cons c m =>
   have hc:c=45:=by simpa [isNeg] using hb
   subst hc;have ed:dropNeg (45::m)=m:=rfl;have e1:slashAt (45::m)=slashAt m+1:=by
    unfold slashAt;rw [List.takeWhile_cons,if_pos (by decide),List.length_cons]
   have e2:numT (45::m)=45::numT m:=by unfold numT;rw [e1,List.take_succ_cons]
   have e3:denT (45::m)=denT m:=by unfold denT;rw [e1,List.drop_succ_cons]
   have e4:hasS (45::m)=hasS m:=by unfold hasS;rw [e1,List.length_cons];exact decide_eq_decide.2 (by omega)
   have e5:sizeT (45::m)=numT m:=by unfold sizeT;rw [e2];rfl
   rw [ed,e2,e3,e4,e5];refine ⟨rfl,rfl,rfl,?_⟩;rw [Bool.true_and];exact decide_eq_decide.2 (by simp)
theorem badForm_eq (l:List UInt8):badForm l=((!plainB (sizeT l)||(isNeg l&&decide (sizeT l=[48])))||(hasS l&&(!plainB (denT l)||decide (denT l=[48])||decide (denT l=[49])))):=by
 unfold badForm;rw [(drop_parts l).2.2.2]
theorem plain_ne {l:List UInt8}(h:plainB l=true):l≠[]:=(plain_dig h).1
theorem neg_at {l:List UInt8}(h:0<l.length):(((l.getD (Int.toNat 0) 0).toNat:Int)==45)=isNeg l:=by
 cases l with
 | nil=>cases h
 | cons c l=>exact neg_test c l
theorem rcheck (l:List UInt8)(hl:l.length≤100000):ICalls C0 33 [str (sb l)] (i64 (chk l)):=by
 refine ICallP.walk w1 fok33 rfl fun F=>?_
 have hsz:=sb_size l;obtain ⟨p1,p2,p3,-⟩:=drop_parts l;have hdl:(dropNeg l).length≤l.length:=by
  unfold dropNeg;split
  ·rw [List.length_drop];omega
  ·exact Nat.le_refl _
 have hbf:=badForm_eq l;have hchk1:(!plainB (sizeT l)||(isNeg l&&decide (sizeT l=[48])))=true→chk l=1:=fun h=>by
  unfold chk;rw [hbf,h,Bool.true_or,if_pos rfl]
 have hchk2:(hasS l&&(!plainB (denT l)||decide (denT l=[48])||decide (denT l=[49])))=true→chk l=1:=fun h=>by
  unfold chk;rw [hbf,h,Bool.or_true,if_pos rfl]
 have hne:plainB (sizeT l)=true→0<l.length:=fun h=>by
  cases l with
  | nil=>exact absurd rfl (plain_ne h)
  | cons c l=>rw [List.length_cons];omega
 refine sR 0 ?_;refine sR 100 ?_;refine OkS.seqX (α:=Nat) (fun n=>⟨[(0,str (sb l)),(3,str (sb (dropNeg l)))],[],n⟩) (fun _=>True) ?_ ?_
 ·rcases Nat.eq_zero_or_pos l.length with h0|h0
  ·have e0:l=[]:=List.eq_nil_of_length_eq_zero h0
   have e1:decide (((sb []).size:Int)>0)=false:=rfl;have ed:dropNeg l=l:=by rw [e0];rfl
   rw [ed,e0];refine sZ 200 ?_;refine nwI e1 ?_;refine gwI kF ?_;refine ifI ?_;refine skI ?_;exact ⟨rfl,_,trivial,wkI⟩
  ·have e0:decide (((sb l).size:Int)>0)=true:=decide_eq_true (by omega)
   have e1:=neg_at h0;refine sZ 200 ?_;refine gwI e0 ?_;refine gwI (ff3 kT e0 e1) ?_;cases hb:isNeg l
   ·have ed:dropNeg l=l:=by unfold dropNeg;rw [hb];rfl
    rw [ed];refine ifI ?_;refine skI ?_;exact ⟨rfl,_,trivial,wkI⟩
   ·have ed:dropNeg l=l.drop 1:=by unfold dropNeg;rw [hb];rfl
    have ee:(sb l).extract (Int.toNat 1) l.length=sb (dropNeg l):=by
     rw [sb_ext,List.take_of_length_le (Nat.le_refl _),ed];rfl
    refine ifI ?_;refine OkS.reg w1 300 (by kernel_rfl) ?_;refine gwI (ff2 hsz kN) ?_;rw [ee];exact ⟨trivial,_,trivial,wkI⟩
 rintro n0 -;have cs:=slash_r (dropNeg l) (by omega);have hle:=slashAt_le (dropNeg l);have hszS:=sb_size (dropNeg l);have hhs:hasS l=decide (slashAt (dropNeg l)<(dropNeg l).length):=p3.symm;have e10:(sb (dropNeg l)).extract 0 (slashAt (dropNeg l))=sb (sizeT l):=by rw [← p1,sb_ext,List.drop_zero];rfl
 have e11:(sb (dropNeg l)).extract (slashAt (dropNeg l)+1) (dropNeg l).length=sb (denT l):=by rw [← p2,sb_ext,List.take_of_length_le (Nat.le_refl _)];rfl
 have hNl:slashAt (dropNeg l)=(sizeT l).length:=by rw [← p1];exact slash_len _
 have hDl:(denT l).length=(dropNeg l).length - (slashAt (dropNeg l)+1):=by rw [← p2];unfold denT;rw [List.length_drop]
 have pp:=fun h1 h2=>parts_r (dropNeg l) h1 h2 (by omega)
 unfold numZ denZ at pp;rw [p1,p2,p3] at pp;have edef:chk l=if badForm l then 1 else if 600<(sizeT l).length∨600<(denT l).length then 4 else if hasS l=true∧Nat.gcd (dv (sizeT l)) (dv (denT l))≠1 then 1 else 0:=rfl
 rw [hbf] at edef;generalize hN:sizeT l=Nn at *;generalize hD:denT l=Dn at *;generalize hH:hasS l=hv at *;generalize hK:chk l=Kn at *;generalize dropNeg l=Sn at *;generalize slashAt Sn=k at *;clear p1 p2 p3 hbf hN hD hH hK;have cf:=form_r Nn (by omega);have cf2:=form_r Dn (by omega);have q0:=sb_eq Nn [48];have q1:=sb_eq Dn [48];have q2:=sb_eq Dn [49];refine sR 400 ?_;refine cI cs ?_;refine OkS.seqX (α:=Nat) (fun n=>⟨[(0,str (sb l)),(3,str (sb Sn)),(4,i64 (k:Int))],[],n⟩) (fun _=>(!plainB Nn||(isNeg l&&decide (Nn=[48])))=false) ?_ ?_
 ·refine sZ 500 ?_
  refine gwI (ff2 hszS kN) ?_;refine gwI e10 ?_;cases hp:plainB Nn
  ·rw [hp] at cf
   refine CallO.same _ cf inferInstance ?_;refine stI ?_;simp only [Bool.not_false];refine gwI kT ?_;refine ifI ?_;refine sR 600 ?_;refine rtI ?_;exact exact_res (by rw [hchk1 (by rw [hp];rfl)];rfl) IsPure.out
  ·rw [hp] at cf
   have hl0:=hne hp;have e1:=neg_at hl0;refine CallO.same _ cf inferInstance ?_;refine stI ?_;simp only [Bool.not_true];refine gwI (ff3 kF hsz e1) ?_;have q0':strEq (sb Nn) ⟨#[48]⟩=decide (Nn=[48]):=q0;cases hb:isNeg l
   ·refine gwI kF ?_
    refine ifI ?_;refine skI ?_;exact ⟨rfl,_,rfl,wkI⟩
   ·refine gwI (ff4 kT kF hszS kN) ?_
    refine gwI (ff4 kT kF e10 q0') ?_
    by_cases h0:Nn=[48]
    ·rw [decide_eq_true h0]
     refine ifI ?_;refine sR 600 ?_;refine rtI ?_;exact exact_res (by rw [hchk1 (by simp [hp,hb,h0])];rfl) IsPure.out
    ·rw [decide_eq_false h0]
     refine ifI ?_;refine skI ?_;exact ⟨rfl,_,by simp,wkI⟩
 rintro n1 hb1;clear hchk1 hne cf q0;refine OkS.seqX (α:=Nat) (fun n=>⟨[(0,str (sb l)),(3,str (sb Sn)),(4,i64 (k:Int))],[],n⟩) (fun _=>(hv&&(!plainB Dn||decide (Dn=[48])||decide (Dn=[49])))=false) ?_ ?_
 ·cases hv
  ·have e40:decide ((k:Int)<(Sn.length:Int))=false:=decide_eq_false (by have:=of_decide_eq_false hhs.symm;omega)
   refine sZ 700 ?_;refine nwI (ff2 hszS e40) ?_;refine gwI kF ?_;refine ifI ?_;refine skI ?_;exact ⟨rfl,_,rfl,wkI⟩
  ·have hkl:=of_decide_eq_true hhs.symm
   have e40:decide ((k:Int)<(Sn.length:Int))=true:=decide_eq_true (by omega);have wk:IntKind.i64.wrap ((k:Int)+1)=((k+1:Nat):Int):=wI (by omega) (by omega);have q1':strEq (sb Dn) ⟨#[48]⟩=decide (Dn=[48]):=q1;have q2':strEq (sb Dn) ⟨#[49]⟩=decide (Dn=[49]):=q2;refine sZ 700 ?_;refine nwI (ff2 hszS e40) ?_;refine gwI (ff4 kT wk hszS kN) ?_;simp only [e11];refine gcI kT ?_;cases hp:plainB Dn
   ·rw [hp] at cf2
    refine CallO.same _ cf2 inferInstance ?_;refine gwI kB ?_;refine gwI kT ?_;refine ifI ?_;refine sR 800 ?_;refine rtI ?_;exact exact_res (by rw [hchk2 (by simp [hp])];rfl) IsPure.out
   ·rw [hp] at cf2
    have e12:(sb Sn).extract (IntKind.i64.wrap ((k:Int)+1)).toNat (sb Sn).size=sb Dn:=by rw [wk,hszS,Int.toNat_natCast];exact e11
    refine CallO.same _ cf2 inferInstance ?_;refine gwI kB ?_;simp only [e12,q1']
    by_cases h48:Dn=[48]
    ·rw [decide_eq_true h48]
     refine gwI kT ?_;refine ifI ?_;refine sR 800 ?_;refine rtI ?_;exact exact_res (by rw [hchk2 (by simp [h48])];rfl) IsPure.out
    ·rw [decide_eq_false h48]
     refine gwI kB ?_;simp only [e12,q2']
     by_cases h49:Dn=[49]
     ·rw [decide_eq_true h49]
      refine ifI ?_;refine sR 800 ?_;refine rtI ?_;exact exact_res (by rw [hchk2 (by simp [h49])];rfl) IsPure.out
     ·rw [decide_eq_false h49]
      refine ifI ?_;refine skI ?_;exact ⟨rfl,_,by simp,wkI⟩
 rintro n2 hb2;clear hchk2 cf2 q1 q2 e10 e11 hsz;have hpN:plainB Nn=true:=by
  cases h:plainB Nn
  ·rw [h] at hb1;simp at hb1
  ·rfl
 have hpD:hv=true→plainB Dn=true:=fun h0=>by
  cases h:plainB Dn
  ·rw [h,h0] at hb2;simp at hb2
  ·rfl
 rw [hb1,hb2] at edef;rw [if_neg (by decide)] at edef;have wl1:IntKind.i64.wrap ((Sn.length:Int) - (k:Int))=(Sn.length:Int) - (k:Int):=wI (by omega) (by omega);have wl2:IntKind.i64.wrap ((Sn.length:Int) - (k:Int) - 1)=(Sn.length:Int) - (k:Int) - 1:=wI (by omega) (by omega);have e91:decide ((Sn.length:Int) - (k:Int) - 1>600)=decide (600<Dn.length):=decide_eq_decide.2 (by omega);refine OkS.seqX (α:=Nat) (fun n=>⟨[(3,str (sb Sn)),(4,i64 (k:Int))],[],n⟩) (fun _=>Nn.length≤600∧Dn.length≤600) ?_ ?_
 ·by_cases g1:600<k
  ·have e9:decide ((k:Int)>600)=true:=decide_eq_true (by omega)
   rw [if_pos (.inl (by omega))] at edef;refine sZ 900 ?_;refine nwI e9 ?_;refine gwI kT ?_;refine ifI ?_;refine sR 1000 ?_;refine rtI ?_;exact exact_res (by rw [edef];rfl) IsPure.out
  ·have e9:decide ((k:Int)>600)=false:=decide_eq_false (by omega)
   refine sZ 900 ?_;refine nwI e9 ?_;refine gwI (ff5 kF hszS wl1 wl2 e91) ?_
   by_cases g2:600<Dn.length
   ·rw [if_pos (.inr g2)] at edef
    rw [decide_eq_true g2];refine ifI ?_;refine sR 1000 ?_;refine rtI ?_;exact exact_res (by rw [edef];rfl) IsPure.out
   ·rw [decide_eq_false g2]
    refine ifI ?_;refine skI ?_;exact ⟨rfl,_,⟨by omega,by omega⟩,wkI⟩
 rintro n3 ⟨g1,g2⟩;rw [if_neg (by omega)] at edef;clear e91 wl1 wl2 hb1 hb2;obtain ⟨-,dN⟩:=plain_dig hpN;refine OkS.seqX (α:=Nat) (fun n=>⟨[],[],n⟩) (fun _=>Kn=0) ?_ ?_
 ·cases hv
  ·have e40:decide ((k:Int)<(Sn.length:Int))=false:=decide_eq_false (by have:=of_decide_eq_false hhs.symm;omega)
   rw [if_neg (by simp)] at edef;refine sZ 1100 ?_;refine nwI (ff2 hszS e40) ?_;refine ifI ?_;refine skI ?_;exact ⟨rfl,_,edef,wkI⟩
  ·have hkl:=of_decide_eq_true hhs.symm
   have e40:decide ((k:Int)<(Sn.length:Int))=true:=decide_eq_true (by omega);obtain ⟨-,dD⟩:=plain_dig (hpD rfl);have pa:=pp (by rw [dropNeg_dig dN];exact dN) (by rw [dropNeg_dig dD];exact dD);rw [if_pos rfl,rv_dig dN,rv_dig dD] at pa;have lN:(lims (dv Nn)).length<1000000:=Nat.lt_of_le_of_lt (r_limbs_len_le (Nat.lt_of_lt_of_le (dv_lt Nn dN) (Nat.pow_le_pow_left (by decide) Nn.length))) (by omega);have lD:(lims (dv Dn)).length<1000000:=Nat.lt_of_le_of_lt (r_limbs_len_le (Nat.lt_of_lt_of_le (dv_lt Dn dD) (Nat.pow_le_pow_left (by decide) Dn.length))) (by omega);have cg:ICalls C0 91 [rD ((dv Nn:Int)).natAbs,rD ((dv Dn:Int)).natAbs] (.sl false 1 ((lims (Nat.gcd (dv Nn) (dv Dn))).map i64n)):=common_r (dv Nn) (dv Dn) lN lD;have ht:=one_test (Nat.gcd (dv Nn) (dv Dn));have ed1:Nat.gcd (dv Nn) (dv Dn)≠1→Kn=1:=fun h=>by rw [if_pos ⟨rfl,h⟩] at edef;exact edef
   have ed0:Nat.gcd (dv Nn) (dv Dn)=1→Kn=0:=fun h=>by rw [if_neg (fun hh=>hh.2 h)] at edef;exact edef
   clear edef;generalize Nat.gcd (dv Nn) (dv Dn)=gg at *;refine sZ 1100 ?_;refine nwI (ff2 hszS e40) ?_;refine ifI ?_;refine sR 1200 ?_;refine cI pa ?_;refine sR 1300 ?_;refine cI cg ?_;rcases ht with ⟨t1,a,ha,t2⟩|⟨t1,t2⟩
   ·have ha':=r_at ha
    have t1n:((((lims gg).map i64n).length:Int) != 1)=false:=by unfold bne;rw [t1];rfl
    have t2n:((a:Int) != 1) = !decide (gg=1):=by unfold bne;rw [t2]
    refine sZ 1400 ?_;refine nwI t1n ?_;refine gwI kF ?_;refine ixI kF ha' ?_;refine gwI (ff2 kF t2n) ?_
    by_cases hg1:gg=1
    ·rw [decide_eq_true hg1]
     refine ifI ?_;refine skI ?_;exact ⟨rfl,_,ed0 hg1,wkI⟩
    ·rw [decide_eq_false hg1]
     refine ifI ?_;refine sR 1500 ?_;refine rtI ?_;exact exact_res (by rw [ed1 hg1];rfl) IsPure.out
   ·have edf:=ed1 t2
    have t1n:((((lims gg).map i64n).length:Int) != 1)=true:=by unfold bne;rw [t1];rfl
    refine sZ 1400 ?_;refine nwI t1n ?_;refine gwI kT ?_;refine ifI ?_;refine sR 1500 ?_;refine rtI ?_;exact exact_res (by rw [edf];rfl) IsPure.out
 rintro n4 h0;refine sR 1600 ?_;refine rtI ?_;exact exact_res (by rw [h0];rfl) IsPure.out
end Go.Ide
namespace Go.Ide
open Go.Proofs Go.RowKit
set_option maxRecDepth 20000
set_option maxHeartbeats 2000000
theorem dec_snoc {n k:Nat}(hn:n≠0)(hk:k<10):Lib.decDigits (n*10+k)=Lib.decDigits n++[UInt8.ofNat (48+k)]:=by
 rw [Lib.decDigits,dif_neg (by omega)]
 congr 2
 ·omega
 ·congr 2;omega
theorem dig_back {c:UInt8}(h:isDig c=true):UInt8.ofNat (48+(c.toNat - 48))=c:=by
 obtain ⟨h1,h2⟩:=dig_bounds h;rw [← UInt8.toNat_inj,digit_of _ (by omega)];omega
theorem dv_snoc (l:List UInt8)(c:UInt8):dv (l++[c])=dv l*10+(c.toNat - 48):=by
 rw [dv_append];simp [dv,dvF]
theorem dec_dv:∀ (n:Nat) (l:List UInt8),l.length=n→l≠[]→l.all isDig=true→l.head? ≠ some 48→dv l≠0∧Lib.decDigits (dv l)=l:=fun n=>by
 induction n with
 | zero=>intro l h0 h1;exact absurd (List.eq_nil_of_length_eq_zero h0) h1
 | succ n ih =>
  intro l h0 h1 h2 h3;rcases List.eq_nil_or_concat l with rfl|⟨m,c,rfl⟩
  ·exact absurd rfl h1
  ·rw [List.concat_eq_append] at h0 h1 h2 h3 ⊢
   rw [List.all_append,Bool.and_eq_true] at h2;have hc:isDig c=true:=by simpa using h2.2
   obtain ⟨c1,c2⟩:=dig_bounds hc;rw [dv_snoc]
   by_cases hm:m=[]
   ·subst hm
    have hc48:c≠48:=fun h=>h3 (by rw [h];rfl)
    have hcn:c.toNat≠48:=fun h=>hc48 (UInt8.toNat_inj.1 h)
    have e0:dv []*10+(c.toNat - 48)=c.toNat - 48:=by simp [dv,dvF]
    rw [e0];refine ⟨by omega,?_⟩;rw [Lib.decDigits,dif_pos (by omega),dig_back hc];rfl
   ·have hh:m.head? ≠ some 48:=by
     cases m with
     | nil=>exact absurd rfl hm
     | cons a m=>exact h3
    obtain ⟨i1,i2⟩:=ih m (by rw [List.length_append,List.length_singleton] at h0;omega) hm h2.1 hh;refine ⟨by omega,?_⟩;rw [dec_snoc i1 (by omega),i2,dig_back hc]
theorem plain_dec {l:List UInt8}(h:plainB l=true):Lib.decDigits (dv l)=l∧(l≠[48]→dv l≠0):=by
 obtain ⟨h1,h2⟩:=plain_dig h
 by_cases h0:l=[48]
 ·subst h0
  refine ⟨?_,fun hh=>absurd rfl hh⟩;show Lib.decDigits 0=[48];rw [Lib.decDigits,dif_pos (by decide)];rfl
 ·have h3:l.head? ≠ some 48:=by
   unfold plainB at h;rw [Bool.and_eq_true,decide_eq_false h0,Bool.false_or] at h
   have:=h.2
   simpa using this
  obtain ⟨a,b⟩:=dec_dv _ l rfl h1 h2 h3;exact ⟨b,fun _=>a⟩
theorem slash_at:∀ {l:List UInt8},slashAt l<l.length→l.drop (slashAt l)=47::l.drop (slashAt l+1)
 | [],h=>by cases h
 | c::l,h=>by
  by_cases hc:c=47
  ·subst hc;rfl
  ·have e1:slashAt (c::l)=slashAt l+1:=by
    unfold slashAt;rw [List.takeWhile_cons,if_pos (by simpa using hc),List.length_cons]
   rw [e1,List.length_cons] at h;rw [e1,List.drop_succ_cons,List.drop_succ_cons];exact slash_at (by omega)
def ratD (l:List UInt8):Nat:=if hasS l then dv (denT l) else 1
def ratOf (l:List UInt8):Rat:=mkRat (rv (numT l)) (ratD l)
theorem mkRat_red {n:Int}{d:Nat}(hd:d≠0)(h:Nat.gcd n.natAbs d=1):(mkRat n d).num=n∧(mkRat n d).den=d:=by
 obtain ⟨q1,q2⟩:=qZ_parts (x:=n) hd;rw [h,Nat.div_one] at q1 q2;rw [sg_abs] at q1;exact ⟨q1,q2⟩
theorem chk_zero {l:List UInt8}(h:chk l=0):badForm l=false∧(sizeT l).length≤600∧(denT l).length≤600∧(hasS l=true→Nat.gcd (dv (sizeT l)) (dv (denT l))=1):=by
 unfold chk at h;cases hb:badForm l
 ·rw [hb,if_neg (by decide)] at h
  split at h
  ·cases h
  ·rename_i h1
   split at h
   ·cases h
   ·rename_i h2
    refine ⟨rfl,by omega,by omega,fun h3=>?_⟩;rcases Nat.decEq (Nat.gcd (dv (sizeT l)) (dv (denT l))) 1 with h4|h4
    ·exact absurd ⟨h3,h4⟩ h2
    ·exact h4
 ·rw [hb,if_pos rfl] at h;cases h
theorem canon_txt {l:List UInt8}(h:chk l=0):(ratOf l).num=rv (numT l)∧(ratOf l).den=ratD l∧txt (ratOf l)=l∧(rv (numT l)).natAbs=dv (sizeT l):=by
 obtain ⟨h1,h2,h3,h4⟩:=chk_zero h;rw [badForm_eq] at h1;simp only [Bool.or_eq_false_iff] at h1;obtain ⟨⟨b1,b2⟩,b3⟩:=h1;have p1:plainB (sizeT l)=true:=by simpa using b1
 obtain ⟨d1,d2⟩:=plain_dec p1;have hab:(rv (numT l)).natAbs=dv (sizeT l):=by
  show (rv (numT l)).natAbs=dv (dropNeg (numT l));unfold rv;split<;>omega
 have hdd:hasS l=true→plainB (denT l)=true∧denT l≠[48]∧denT l≠[49]:=fun hs=>by
  rw [hs,Bool.true_and] at b3;simp only [Bool.or_eq_false_iff] at b3;exact ⟨by simpa using b3.1.1,of_decide_eq_false b3.1.2,of_decide_eq_false b3.2⟩
 have hd0:ratD l≠0:=by
  unfold ratD;cases hs:hasS l
  ·simp
  ·obtain ⟨e1,e2,e3⟩:=hdd hs
   simpa using (plain_dec e1).2 e2
 have hg:Nat.gcd (rv (numT l)).natAbs (ratD l)=1:=by
  rw [hab];unfold ratD;cases hs:hasS l
  ·simp
  ·simpa using h4 hs
 obtain ⟨m1,m2⟩:=mkRat_red hd0 hg;refine ⟨m1,m2,?_,hab⟩;have hi:Lib.itoa (rv (numT l))=numT l:=by
  cases hb:isNeg (numT l)
  ·have e1:sizeT l=numT l:=by unfold sizeT dropNeg;rw [hb];rfl
   rw [e1] at d1;have e2:rv (numT l)=(dv (numT l):Int):=by unfold rv dropNeg;rw [hb];rfl
   rw [e2];unfold Lib.itoa;rw [if_neg (by omega)];exact d1
  ·obtain ⟨m,hm⟩:∃ m,numT l=45::m:=by
    cases hn:numT l with
    | nil=>rw [hn] at hb;cases hb
    | cons c m =>
     rw [hn] at hb;exact ⟨m,by rw [show c=45 by simpa [isNeg] using hb]⟩
   have e1:sizeT l=m:=by unfold sizeT;rw [hm];rfl
   have hne:sizeT l≠[48]:=fun h=>by
    have:=(drop_parts l).2.2.2
    rw [b2,hm] at this;have h2:=of_decide_eq_false this;rw [e1] at h;exact h2 (by rw [h])
   have hpos:=d2 hne;rw [e1] at d1 hpos;have e2:rv (numT l) = -(dv m:Int):=by rw [hm];rfl
   rw [e2];unfold Lib.itoa;rw [if_pos (by omega),Int.natAbs_neg,Int.natAbs_natCast,d1,hm]
 unfold txt;rw [show (ratOf l).num=rv (numT l) from m1,show (ratOf l).den=ratD l from m2,hi];have hle:=slashAt_le l;cases hs:hasS l
 ·have e1:ratD l=1:=by unfold ratD;rw [hs];rfl
  have e2:=of_decide_eq_false (p:=slashAt l<l.length) hs;rw [if_pos e1];unfold numT;exact List.take_of_length_le (by omega)
 ·obtain ⟨e1,e2,e3⟩:=hdd hs
  have e4:ratD l=dv (denT l):=by unfold ratD;rw [hs];rfl
  have e5:=(plain_dec e1).1;have e6:dv (denT l)≠1:=fun h=>by
   rw [h,Lib.decDigits,dif_pos (by decide)] at e5;exact e3 e5.symm
  rw [e4,if_neg e6,e5];unfold numT denT;rw [← slash_at (of_decide_eq_true hs),List.take_append_drop]
theorem plain_parts {l:List UInt8}(h:chk l=0):(sizeT l).all isDig=true∧(hasS l=true→(denT l).all isDig=true):=by
 obtain ⟨h1,-,-,-⟩:=chk_zero h;rw [badForm_eq] at h1;simp only [Bool.or_eq_false_iff] at h1;obtain ⟨⟨b1,-⟩,b3⟩:=h1;refine ⟨(plain_dig (by simpa using b1)).2,fun hs=>?_⟩;rw [hs,Bool.true_and] at b3;simp only [Bool.or_eq_false_iff] at b3;exact (plain_dig (by simpa using b3.1.1)).2
theorem chk_rk {l:List UInt8}(h:chk l=0):rk (ratOf l) 600:=by
 obtain ⟨m1,m2,-,m4⟩:=canon_txt h;obtain ⟨-,h2,h3,-⟩:=chk_zero h;obtain ⟨p1,p2⟩:=plain_parts h;have hb:∀ k,(10:Nat)^k≤BB^k:=fun k=>Nat.pow_le_pow_left (by decide) k
 refine ⟨?_,?_⟩
 ·rw [m1,m4]
  exact Nat.le_trans (limbs_len_le (Nat.lt_of_lt_of_le (dv_lt _ p1) (hb _))) h2
 ·rw [m2]
  unfold ratD;cases hs:hasS l
  ·exact Nat.le_trans (limbs_len_le (n:=1) (k:=1) (by decide)) (by decide)
  ·exact Nat.le_trans (limbs_len_le (Nat.lt_of_lt_of_le (dv_lt _ (p2 hs)) (hb _))) h3
theorem chk_fr {l:List UInt8}(h:chk l=0):FR (ratOf l) (fromF l) 600:=by
 obtain ⟨m1,m2,-,-⟩:=canon_txt h;refine ⟨⟨mkG_wf _,?_,?_⟩,chk_rk h⟩
 ·show (mkG (rv (numT l))).z=_
  rw [mkG_z,m1]
 ·show (if hasS l then dv (denT l) else 1)=_
  rw [m2];rfl
theorem from_c {l:List UInt8}(hl:l.length≤100000)(h:chk l=0):ICalls C0 70 [str (sb l)] (fromF l).D:=from_ok l hl (plain_parts h).1 (plain_parts h).2
end Go.Ide
namespace Go.Ide
open Go.Proofs Go.RowKit
set_option maxRecDepth 20000
set_option maxHeartbeats 2000000
def chkRow:List (List UInt8)→Nat
 | []=>0
 | l::r=>if chk l≠0 then chk l else chkRow r
theorem chkRow_take {v:List (List UInt8)}{i:Nat}(h:∀ (j:Nat) (l:List UInt8),j<i→v[j]? = some l→chk l=0):chkRow v=chkRow (v.drop i):=by
 induction i generalizing v with
 | zero=>rfl
 | succ i ih =>
  cases v with
  | nil=>rfl
  | cons l r =>
   have h0:=h 0 l (Nat.succ_pos i) rfl;rw [List.drop_succ_cons];show (if chk l≠0 then chk l else chkRow r)=_;rw [if_neg (fun hh=>hh h0)];exact ih fun j m hj hm=>h (j+1) m (by omega) hm
theorem rrow (v:List (List UInt8))(hv:∀ l∈v,l.length≤100000)(hl:v.length≤1000000):ICalls C0 31 [.sl false 1 (v.map fun l=>str (sb l))] (i64 (chkRow v)):=by
 refine ICallP.walk w1 fok31 rfl fun F=>?_
 have el:(((v.map fun l=>str (sb l)).length:Nat):Int)=(v.length:Int):=by rw [List.length_map]
 refine sR 0 ?_;refine OkS.seq ?_;refine sR 100 ?_;refine OkS.block ?_;refine OkS.loop (α:=Nat × Nat) (fun p=>⟨[(0,.sl false 1 (v.map fun l=>str (sb l))),(3,i64 (p.1:Int))],[],p.2⟩) (fun p=>v.length - p.1) (fun p=>p.1≤v.length∧∀ (j:Nat) (l:List UInt8),j<p.1→v[j]? = some l→chk l=0) (0,_) ⟨Nat.zero_le _,fun j l hj=>absurd hj (Nat.not_lt_zero j)⟩ wkI ?_;rintro ⟨i,n⟩ F ⟨hi,ha⟩;dsimp only at hi ha ⊢;refine OkS.seq ?_;refine sZ 200 ?_;refine nwI el ?_;refine ifI ?_
 (refine brI (fun hlt=>?_) (fun hlt=>?_))<;>(try simp only [Bool.not_eq_true',Bool.not_eq_false'] at hlt)<;>(try simp only [hlt])
 ·have hi2:i<v.length:=by
   have:=of_decide_eq_true hlt
   omega
  obtain ⟨l,hl'⟩:∃ l,v[i]? = some l:=⟨v[i],List.getElem?_eq_getElem hi2⟩
  have hm:(v.map fun l=>str (sb l))[i]? = some (str (sb l)):=by rw [List.getElem?_map,hl'];rfl
  have cl:=rcheck l (hv l (List.mem_of_getElem? hl'));have hd:chkRow v=chkRow (v.drop i):=chkRow_take ha;have hdd:v.drop i=l::v.drop (i+1):=by
   rw [List.drop_eq_getElem_cons hi2];rw [List.getElem?_eq_getElem hi2] at hl';rw [Option.some.inj hl']
  have wi:IntKind.i64.wrap ((i:Int)+1)=((i+1:Nat):Int):=wI (by omega) (by omega);refine skI ?_;refine OkS.seq ?_;refine OkS.block ?_;refine sZ 400 ?_;refine gwI kN ?_;refine ixI kT hm ?_;refine gwI kN ?_;refine CallO.same _ cl inferInstance ?_;refine stI ?_
  by_cases g:chk l=0
  ·have e5:(((chk l:Nat):Int) != 0)=false:=by rw [g];rfl
   refine sZ 500 ?_;refine nwI e5 ?_;refine ifI ?_;refine skI ?_;refine OkS.reg w1 300 (by kernel_rfl) ?_;refine nwI wi ?_;refine ⟨(i+1,_),⟨hi2,fun j m hj hjm=>?_⟩,by dsimp only;omega,wkI⟩;rcases Nat.lt_or_ge j i with h|h
   ·exact ha j m h hjm
   ·have:j=i:=by dsimp only at hj;omega
    subst this;rw [hl'] at hjm;cases hjm;exact g
  ·have e5:(((chk l:Nat):Int) != 0)=true:=by
    have:(((chk l:Nat):Int)==0)=false:=beq_eq_false_iff_ne.2 (by omega)
    unfold bne;rw [this];rfl
   refine sZ 500 ?_;refine nwI e5 ?_;refine ifI ?_;refine sR 600 ?_;refine rtI ?_;refine exact_res ?_ IsPure.out;rw [hd,hdd];show _=i64 ((if chk l≠0 then chk l else chkRow (v.drop (i+1)):Nat):Int);rw [if_pos g]
 ·have hi2:i=v.length:=by
   have:=of_decide_eq_false hlt
   omega
  subst hi2;refine exI ?_;refine sR 700 ?_;refine rtI ?_;refine exact_res ?_ IsPure.out;rw [chkRow_take ha,List.drop_of_length_le (Nat.le_refl _)];rfl
end Go.Ide
namespace Go.Ide
open Go.Proofs Go.RowKit
set_option maxRecDepth 20000
set_option maxHeartbeats 2000000
theorem rname7cls (c:Nat):(97≤c∧c≤122)∨(122<c)∨(65≤c∧c≤90)∨((91≤c∧c≤96)∧c≠95)∨(c=95)∨(58≤c∧c≤64)∨(48≤c∧c≤57)∨(c<48∧c≠45∧c≠46)∨(c=45)∨(c=46):=by omega
theorem rname (l:List UInt8)(hl:l.length≤1000000):ICalls C0 141 [str (sb l)] (boo (isNameL l)):=by
 refine ICallP.walk w1 fok141 rfl fun F=>?_
 have hsz:=sb_size l;refine sR 0 ?_;refine OkS.seqX (α:=Nat) (fun n=>⟨[(0,str (sb l))],[],n⟩) (fun _=>1≤l.length∧l.length≤24) ?_ ?_
 ·by_cases h1:l.length<1
  ·have e1:decide ((l.length:Int)<1)=true:=decide_eq_true (by omega)
   refine sZ 100 ?_;refine nwI (ff2 hsz e1) ?_;refine gwI kT ?_;refine ifI ?_;refine sR 200 ?_;refine rtI ?_;exact exact_res (by unfold isNameL;rw [decide_eq_false (show ¬ 1≤l.length by omega)];simp) IsPure.out
  ·have e1:decide ((l.length:Int)<1)=false:=decide_eq_false (by omega)
   have e2:decide ((l.length:Int)>24)=decide (24<l.length):=decide_eq_decide.2 (by omega);refine sZ 100 ?_;refine nwI (ff2 hsz e1) ?_;refine gwI (ff3 kF hsz e2) ?_
   by_cases h2:24<l.length
   ·rw [decide_eq_true h2]
    refine ifI ?_;refine sR 200 ?_;refine rtI ?_;exact exact_res (by unfold isNameL;rw [decide_eq_false (show ¬ l.length≤24 by omega)];simp) IsPure.out
   ·rw [decide_eq_false h2]
    refine ifI ?_;refine skI ?_;exact ⟨rfl,_,⟨by omega,by omega⟩,wkI⟩
 rintro n0 ⟨l1,l2⟩;refine OkS.seq ?_;refine sR 300 ?_;refine OkS.block ?_;refine OkS.loop (α:=Nat × Nat) (fun p=>⟨[(0,str (sb l)),(3,i64 (p.1:Int))],[],p.2⟩) (fun p=>l.length - p.1) (fun p=>p.1≤l.length∧(l.take p.1).all (fun b=>nameB b.toNat)=true) (0,_) ⟨Nat.zero_le _,rfl⟩ wkI ?_;rintro ⟨i,n⟩ F ⟨hi,ha⟩;dsimp only at hi ha ⊢;refine OkS.seq ?_;refine sZ 400 ?_;refine nwI hsz ?_;refine ifI ?_
 (refine brI (fun hlt=>?_) (fun hlt=>?_))<;>(try simp only [Bool.not_eq_true',Bool.not_eq_false'] at hlt)<;>(try simp only [hlt])
 ·have hi2:i<l.length:=by
   have:=of_decide_eq_true hlt
   omega
  obtain ⟨c,hc⟩:∃ c,l[i]? = some c:=⟨l[i],List.getElem?_eq_getElem hi2⟩
  have hg:l.getD i 0=c:=by simp [hc]
  have wi:IntKind.i64.wrap ((i:Int)+1)=((i+1:Nat):Int):=wI (by omega) (by omega);refine skI ?_;refine OkS.seq ?_;refine OkS.block ?_;refine sZ 600 ?_;refine nwI (ff2 kN hg) ?_;have hcl:nameB c.toNat=false→isNameL l=false:=fun h=>by
   unfold isNameL;cases hall:l.all (fun b=>nameB b.toNat)
   ·rfl
   ·have:=List.all_eq_true.1 hall c (List.mem_of_getElem? hc)
    rw [h] at this;cases this
  have hsn:nameB c.toNat=true→(l.take (i+1)).all (fun b=>nameB b.toNat)=true:=fun h=>by
   rw [List.take_add_one,hc,List.all_append,ha];simpa using h
  have hc9:c.toNat<256:=c.toNat_lt;generalize c.toNat=c at *;refine OkS.seqX (α:=Nat) (fun n=>⟨[(0,str (sb l)),(3,i64 (i:Int)),(56,boo (!nameB c))],[],n⟩) (fun _=>True) ?_ ?_
  ·clear hcl hsn
   rcases rname7cls c with h|h|h|h|h|h|h|h|h|h
   ·skip
    have f1:decide ((c:Int)≥97)=true:=decide_eq_true (by omega);have f2:decide ((c:Int)≤122)=true:=decide_eq_true (by omega);have f3:decide ((c:Int)≥65)=true:=decide_eq_true (by omega);have f4:decide ((c:Int)≤90)=false:=decide_eq_false (by omega);have f5:decide ((c:Int)≥48)=true:=decide_eq_true (by omega);have f6:decide ((c:Int)≤57)=false:=decide_eq_false (by omega);have f7:((c:Int)==45)=false:=beq_eq_false_iff_ne.2 (by omega);have f8:((c:Int)==95)=false:=beq_eq_false_iff_ne.2 (by omega);have f9:((c:Int)==46)=false:=beq_eq_false_iff_ne.2 (by omega);have hnb:nameB c=true:=by
     unfold nameB;simp;omega
    rw [hnb];refine OkS.reg w1 700 (by kernel_rfl) ?_;refine gwI kB ?_
    try simp only [f1,f2,f3,f4,f5,f6,f7,f8,f9]
    refine gwI kB ?_
    try simp only [f1,f2,f3,f4,f5,f6,f7,f8,f9]
    refine gwI kB ?_
    try simp only [f1,f2,f3,f4,f5,f6,f7,f8,f9]
    refine gwI kB ?_
    try simp only [f1,f2,f3,f4,f5,f6,f7,f8,f9]
    refine gwI kB ?_
    try simp only [f1,f2,f3,f4,f5,f6,f7,f8,f9]
    refine gwI kB ?_
    try simp only [f1,f2,f3,f4,f5,f6,f7,f8,f9]
    refine gwI kB ?_
    try simp only [f1,f2,f3,f4,f5,f6,f7,f8,f9]
    refine gwI kB ?_
    try simp only [f1,f2,f3,f4,f5,f6,f7,f8,f9]
    refine gwI kB ?_
    try simp only [f1,f2,f3,f4,f5,f6,f7,f8,f9]
    exact ⟨by first|exact trivial|rfl|simp,_,trivial,wkI⟩
   ·skip
    have f1:decide ((c:Int)≥97)=true:=decide_eq_true (by omega);have f2:decide ((c:Int)≤122)=false:=decide_eq_false (by omega);have f3:decide ((c:Int)≥65)=true:=decide_eq_true (by omega);have f4:decide ((c:Int)≤90)=false:=decide_eq_false (by omega);have f5:decide ((c:Int)≥48)=true:=decide_eq_true (by omega);have f6:decide ((c:Int)≤57)=false:=decide_eq_false (by omega);have f7:((c:Int)==45)=false:=beq_eq_false_iff_ne.2 (by omega);have f8:((c:Int)==95)=false:=beq_eq_false_iff_ne.2 (by omega);have f9:((c:Int)==46)=false:=beq_eq_false_iff_ne.2 (by omega);have hnb:nameB c=false:=by
     unfold nameB;simp;omega
    rw [hnb];refine OkS.reg w1 700 (by kernel_rfl) ?_;refine gwI kB ?_
    try simp only [f1,f2,f3,f4,f5,f6,f7,f8,f9]
    refine gwI kB ?_
    try simp only [f1,f2,f3,f4,f5,f6,f7,f8,f9]
    refine gwI kB ?_
    try simp only [f1,f2,f3,f4,f5,f6,f7,f8,f9]
    refine gwI kB ?_
    try simp only [f1,f2,f3,f4,f5,f6,f7,f8,f9]
    refine gwI kB ?_
    try simp only [f1,f2,f3,f4,f5,f6,f7,f8,f9]
    refine gwI kB ?_
    try simp only [f1,f2,f3,f4,f5,f6,f7,f8,f9]
    refine gwI kB ?_
    try simp only [f1,f2,f3,f4,f5,f6,f7,f8,f9]
    refine gwI kB ?_
    try simp only [f1,f2,f3,f4,f5,f6,f7,f8,f9]
    refine gwI kB ?_
    try simp only [f1,f2,f3,f4,f5,f6,f7,f8,f9]
    exact ⟨by first|exact trivial|rfl|simp,_,trivial,wkI⟩
   ·skip
    have f1:decide ((c:Int)≥97)=false:=decide_eq_false (by omega);have f2:decide ((c:Int)≤122)=true:=decide_eq_true (by omega);have f3:decide ((c:Int)≥65)=true:=decide_eq_true (by omega);have f4:decide ((c:Int)≤90)=true:=decide_eq_true (by omega);have f5:decide ((c:Int)≥48)=true:=decide_eq_true (by omega);have f6:decide ((c:Int)≤57)=false:=decide_eq_false (by omega);have f7:((c:Int)==45)=false:=beq_eq_false_iff_ne.2 (by omega);have f8:((c:Int)==95)=false:=beq_eq_false_iff_ne.2 (by omega);have f9:((c:Int)==46)=false:=beq_eq_false_iff_ne.2 (by omega);have hnb:nameB c=true:=by
     unfold nameB;simp;omega
    rw [hnb];refine OkS.reg w1 700 (by kernel_rfl) ?_;refine gwI kB ?_
    try simp only [f1,f2,f3,f4,f5,f6,f7,f8,f9]
    refine gwI kB ?_
    try simp only [f1,f2,f3,f4,f5,f6,f7,f8,f9]
    refine gwI kB ?_
    try simp only [f1,f2,f3,f4,f5,f6,f7,f8,f9]
    refine gwI kB ?_
    try simp only [f1,f2,f3,f4,f5,f6,f7,f8,f9]
    refine gwI kB ?_
    try simp only [f1,f2,f3,f4,f5,f6,f7,f8,f9]
    refine gwI kB ?_
    try simp only [f1,f2,f3,f4,f5,f6,f7,f8,f9]
    refine gwI kB ?_
    try simp only [f1,f2,f3,f4,f5,f6,f7,f8,f9]
    refine gwI kB ?_
    try simp only [f1,f2,f3,f4,f5,f6,f7,f8,f9]
    refine gwI kB ?_
    try simp only [f1,f2,f3,f4,f5,f6,f7,f8,f9]
    exact ⟨by first|exact trivial|rfl|simp,_,trivial,wkI⟩
   ·skip
    have f1:decide ((c:Int)≥97)=false:=decide_eq_false (by omega);have f2:decide ((c:Int)≤122)=true:=decide_eq_true (by omega);have f3:decide ((c:Int)≥65)=true:=decide_eq_true (by omega);have f4:decide ((c:Int)≤90)=false:=decide_eq_false (by omega);have f5:decide ((c:Int)≥48)=true:=decide_eq_true (by omega);have f6:decide ((c:Int)≤57)=false:=decide_eq_false (by omega);have f7:((c:Int)==45)=false:=beq_eq_false_iff_ne.2 (by omega);have f8:((c:Int)==95)=false:=beq_eq_false_iff_ne.2 (by omega);have f9:((c:Int)==46)=false:=beq_eq_false_iff_ne.2 (by omega);have hnb:nameB c=false:=by
     unfold nameB;simp;omega
    rw [hnb];refine OkS.reg w1 700 (by kernel_rfl) ?_;refine gwI kB ?_
    try simp only [f1,f2,f3,f4,f5,f6,f7,f8,f9]
    refine gwI kB ?_
    try simp only [f1,f2,f3,f4,f5,f6,f7,f8,f9]
    refine gwI kB ?_
    try simp only [f1,f2,f3,f4,f5,f6,f7,f8,f9]
    refine gwI kB ?_
    try simp only [f1,f2,f3,f4,f5,f6,f7,f8,f9]
    refine gwI kB ?_
    try simp only [f1,f2,f3,f4,f5,f6,f7,f8,f9]
    refine gwI kB ?_
    try simp only [f1,f2,f3,f4,f5,f6,f7,f8,f9]
    refine gwI kB ?_
    try simp only [f1,f2,f3,f4,f5,f6,f7,f8,f9]
    refine gwI kB ?_
    try simp only [f1,f2,f3,f4,f5,f6,f7,f8,f9]
    refine gwI kB ?_
    try simp only [f1,f2,f3,f4,f5,f6,f7,f8,f9]
    exact ⟨by first|exact trivial|rfl|simp,_,trivial,wkI⟩
   ·skip
    have f1:decide ((c:Int)≥97)=false:=decide_eq_false (by omega);have f2:decide ((c:Int)≤122)=true:=decide_eq_true (by omega);have f3:decide ((c:Int)≥65)=true:=decide_eq_true (by omega);have f4:decide ((c:Int)≤90)=false:=decide_eq_false (by omega);have f5:decide ((c:Int)≥48)=true:=decide_eq_true (by omega);have f6:decide ((c:Int)≤57)=false:=decide_eq_false (by omega);have f7:((c:Int)==45)=false:=beq_eq_false_iff_ne.2 (by omega);have f8:((c:Int)==95)=true:=beq_iff_eq.2 (by omega);have f9:((c:Int)==46)=false:=beq_eq_false_iff_ne.2 (by omega);have hnb:nameB c=true:=by
     unfold nameB;simp;omega
    rw [hnb];refine OkS.reg w1 700 (by kernel_rfl) ?_;refine gwI kB ?_
    try simp only [f1,f2,f3,f4,f5,f6,f7,f8,f9]
    refine gwI kB ?_
    try simp only [f1,f2,f3,f4,f5,f6,f7,f8,f9]
    refine gwI kB ?_
    try simp only [f1,f2,f3,f4,f5,f6,f7,f8,f9]
    refine gwI kB ?_
    try simp only [f1,f2,f3,f4,f5,f6,f7,f8,f9]
    refine gwI kB ?_
    try simp only [f1,f2,f3,f4,f5,f6,f7,f8,f9]
    refine gwI kB ?_
    try simp only [f1,f2,f3,f4,f5,f6,f7,f8,f9]
    refine gwI kB ?_
    try simp only [f1,f2,f3,f4,f5,f6,f7,f8,f9]
    refine gwI kB ?_
    try simp only [f1,f2,f3,f4,f5,f6,f7,f8,f9]
    refine gwI kB ?_
    try simp only [f1,f2,f3,f4,f5,f6,f7,f8,f9]
    exact ⟨by first|exact trivial|rfl|simp,_,trivial,wkI⟩
   ·skip
    have f1:decide ((c:Int)≥97)=false:=decide_eq_false (by omega);have f2:decide ((c:Int)≤122)=true:=decide_eq_true (by omega);have f3:decide ((c:Int)≥65)=false:=decide_eq_false (by omega);have f4:decide ((c:Int)≤90)=true:=decide_eq_true (by omega);have f5:decide ((c:Int)≥48)=true:=decide_eq_true (by omega);have f6:decide ((c:Int)≤57)=false:=decide_eq_false (by omega);have f7:((c:Int)==45)=false:=beq_eq_false_iff_ne.2 (by omega);have f8:((c:Int)==95)=false:=beq_eq_false_iff_ne.2 (by omega);have f9:((c:Int)==46)=false:=beq_eq_false_iff_ne.2 (by omega);have hnb:nameB c=false:=by
     unfold nameB;simp;omega
    rw [hnb];refine OkS.reg w1 700 (by kernel_rfl) ?_;refine gwI kB ?_
    try simp only [f1,f2,f3,f4,f5,f6,f7,f8,f9]
    refine gwI kB ?_
    try simp only [f1,f2,f3,f4,f5,f6,f7,f8,f9]
    refine gwI kB ?_
    try simp only [f1,f2,f3,f4,f5,f6,f7,f8,f9]
    refine gwI kB ?_
    try simp only [f1,f2,f3,f4,f5,f6,f7,f8,f9]
    refine gwI kB ?_
    try simp only [f1,f2,f3,f4,f5,f6,f7,f8,f9]
    refine gwI kB ?_
    try simp only [f1,f2,f3,f4,f5,f6,f7,f8,f9]
    refine gwI kB ?_
    try simp only [f1,f2,f3,f4,f5,f6,f7,f8,f9]
    refine gwI kB ?_
    try simp only [f1,f2,f3,f4,f5,f6,f7,f8,f9]
    refine gwI kB ?_
    try simp only [f1,f2,f3,f4,f5,f6,f7,f8,f9]
    exact ⟨by first|exact trivial|rfl|simp,_,trivial,wkI⟩
   ·skip
    have f1:decide ((c:Int)≥97)=false:=decide_eq_false (by omega);have f2:decide ((c:Int)≤122)=true:=decide_eq_true (by omega);have f3:decide ((c:Int)≥65)=false:=decide_eq_false (by omega);have f4:decide ((c:Int)≤90)=true:=decide_eq_true (by omega);have f5:decide ((c:Int)≥48)=true:=decide_eq_true (by omega);have f6:decide ((c:Int)≤57)=true:=decide_eq_true (by omega);have f7:((c:Int)==45)=false:=beq_eq_false_iff_ne.2 (by omega);have f8:((c:Int)==95)=false:=beq_eq_false_iff_ne.2 (by omega);have f9:((c:Int)==46)=false:=beq_eq_false_iff_ne.2 (by omega);have hnb:nameB c=true:=by
     unfold nameB;simp;omega
    rw [hnb];refine OkS.reg w1 700 (by kernel_rfl) ?_;refine gwI kB ?_
    try simp only [f1,f2,f3,f4,f5,f6,f7,f8,f9]
    refine gwI kB ?_
    try simp only [f1,f2,f3,f4,f5,f6,f7,f8,f9]
    refine gwI kB ?_
    try simp only [f1,f2,f3,f4,f5,f6,f7,f8,f9]
    refine gwI kB ?_
    try simp only [f1,f2,f3,f4,f5,f6,f7,f8,f9]
    refine gwI kB ?_
    try simp only [f1,f2,f3,f4,f5,f6,f7,f8,f9]
    refine gwI kB ?_
    try simp only [f1,f2,f3,f4,f5,f6,f7,f8,f9]
    refine gwI kB ?_
    try simp only [f1,f2,f3,f4,f5,f6,f7,f8,f9]
    refine gwI kB ?_
    try simp only [f1,f2,f3,f4,f5,f6,f7,f8,f9]
    refine gwI kB ?_
    try simp only [f1,f2,f3,f4,f5,f6,f7,f8,f9]
    exact ⟨by first|exact trivial|rfl|simp,_,trivial,wkI⟩
   ·skip
    have f1:decide ((c:Int)≥97)=false:=decide_eq_false (by omega);have f2:decide ((c:Int)≤122)=true:=decide_eq_true (by omega);have f3:decide ((c:Int)≥65)=false:=decide_eq_false (by omega);have f4:decide ((c:Int)≤90)=true:=decide_eq_true (by omega);have f5:decide ((c:Int)≥48)=false:=decide_eq_false (by omega);have f6:decide ((c:Int)≤57)=true:=decide_eq_true (by omega);have f7:((c:Int)==45)=false:=beq_eq_false_iff_ne.2 (by omega);have f8:((c:Int)==95)=false:=beq_eq_false_iff_ne.2 (by omega);have f9:((c:Int)==46)=false:=beq_eq_false_iff_ne.2 (by omega);have hnb:nameB c=false:=by
     unfold nameB;simp;omega
    rw [hnb];refine OkS.reg w1 700 (by kernel_rfl) ?_;refine gwI kB ?_
    try simp only [f1,f2,f3,f4,f5,f6,f7,f8,f9]
    refine gwI kB ?_
    try simp only [f1,f2,f3,f4,f5,f6,f7,f8,f9]
    refine gwI kB ?_
    try simp only [f1,f2,f3,f4,f5,f6,f7,f8,f9]
    refine gwI kB ?_
    try simp only [f1,f2,f3,f4,f5,f6,f7,f8,f9]
    refine gwI kB ?_
    try simp only [f1,f2,f3,f4,f5,f6,f7,f8,f9]
    refine gwI kB ?_
    try simp only [f1,f2,f3,f4,f5,f6,f7,f8,f9]
    refine gwI kB ?_
    try simp only [f1,f2,f3,f4,f5,f6,f7,f8,f9]
    refine gwI kB ?_
    try simp only [f1,f2,f3,f4,f5,f6,f7,f8,f9]
    refine gwI kB ?_
    try simp only [f1,f2,f3,f4,f5,f6,f7,f8,f9]
    exact ⟨by first|exact trivial|rfl|simp,_,trivial,wkI⟩
   ·skip
    have f1:decide ((c:Int)≥97)=false:=decide_eq_false (by omega);have f2:decide ((c:Int)≤122)=true:=decide_eq_true (by omega);have f3:decide ((c:Int)≥65)=false:=decide_eq_false (by omega);have f4:decide ((c:Int)≤90)=true:=decide_eq_true (by omega);have f5:decide ((c:Int)≥48)=false:=decide_eq_false (by omega);have f6:decide ((c:Int)≤57)=true:=decide_eq_true (by omega);have f7:((c:Int)==45)=true:=beq_iff_eq.2 (by omega);have f8:((c:Int)==95)=false:=beq_eq_false_iff_ne.2 (by omega);have f9:((c:Int)==46)=false:=beq_eq_false_iff_ne.2 (by omega);have hnb:nameB c=true:=by
     unfold nameB;simp;omega
    rw [hnb];refine OkS.reg w1 700 (by kernel_rfl) ?_;refine gwI kB ?_
    try simp only [f1,f2,f3,f4,f5,f6,f7,f8,f9]
    refine gwI kB ?_
    try simp only [f1,f2,f3,f4,f5,f6,f7,f8,f9]
    refine gwI kB ?_
    try simp only [f1,f2,f3,f4,f5,f6,f7,f8,f9]
    refine gwI kB ?_
    try simp only [f1,f2,f3,f4,f5,f6,f7,f8,f9]
    refine gwI kB ?_
    try simp only [f1,f2,f3,f4,f5,f6,f7,f8,f9]
    refine gwI kB ?_
    try simp only [f1,f2,f3,f4,f5,f6,f7,f8,f9]
    refine gwI kB ?_
    try simp only [f1,f2,f3,f4,f5,f6,f7,f8,f9]
    refine gwI kB ?_
    try simp only [f1,f2,f3,f4,f5,f6,f7,f8,f9]
    refine gwI kB ?_
    try simp only [f1,f2,f3,f4,f5,f6,f7,f8,f9]
    exact ⟨by first|exact trivial|rfl|simp,_,trivial,wkI⟩
   ·skip
    have f1:decide ((c:Int)≥97)=false:=decide_eq_false (by omega);have f2:decide ((c:Int)≤122)=true:=decide_eq_true (by omega);have f3:decide ((c:Int)≥65)=false:=decide_eq_false (by omega);have f4:decide ((c:Int)≤90)=true:=decide_eq_true (by omega);have f5:decide ((c:Int)≥48)=false:=decide_eq_false (by omega);have f6:decide ((c:Int)≤57)=true:=decide_eq_true (by omega);have f7:((c:Int)==45)=false:=beq_eq_false_iff_ne.2 (by omega);have f8:((c:Int)==95)=false:=beq_eq_false_iff_ne.2 (by omega);have f9:((c:Int)==46)=true:=beq_iff_eq.2 (by omega);have hnb:nameB c=true:=by
     unfold nameB;simp;omega
    rw [hnb];refine OkS.reg w1 700 (by kernel_rfl) ?_;refine gwI kB ?_
    try simp only [f1,f2,f3,f4,f5,f6,f7,f8,f9]
    refine gwI kB ?_
    try simp only [f1,f2,f3,f4,f5,f6,f7,f8,f9]
    refine gwI kB ?_
    try simp only [f1,f2,f3,f4,f5,f6,f7,f8,f9]
    refine gwI kB ?_
    try simp only [f1,f2,f3,f4,f5,f6,f7,f8,f9]
    refine gwI kB ?_
    try simp only [f1,f2,f3,f4,f5,f6,f7,f8,f9]
    refine gwI kB ?_
    try simp only [f1,f2,f3,f4,f5,f6,f7,f8,f9]
    refine gwI kB ?_
    try simp only [f1,f2,f3,f4,f5,f6,f7,f8,f9]
    refine gwI kB ?_
    try simp only [f1,f2,f3,f4,f5,f6,f7,f8,f9]
    refine gwI kB ?_
    try simp only [f1,f2,f3,f4,f5,f6,f7,f8,f9]
    exact ⟨by first|exact trivial|rfl|simp,_,trivial,wkI⟩
  rintro n1 -;cases hb:nameB c
  ·refine ifI ?_
   refine sR 800 ?_;refine rtI ?_;exact exact_res (by rw [hcl hb]) IsPure.out
  ·refine ifI ?_
   refine skI ?_;refine OkS.reg w1 500 (by kernel_rfl) ?_;refine nwI wi ?_;exact ⟨(i+1,_),⟨hi2,hsn hb⟩,by dsimp only;omega,wkI⟩
 ·have hi2:i=l.length:=by
   have:=of_decide_eq_false hlt
   omega
  subst hi2;rw [List.take_of_length_le (Nat.le_refl _)] at ha;refine exI ?_;refine sR 900 ?_;refine rtI ?_;exact exact_res (by unfold isNameL;rw [ha,decide_eq_true l1,decide_eq_true l2];rfl) IsPure.out
end Go.Ide
namespace Go.Ide
open Go.Proofs Go.RowKit
set_option maxRecDepth 20000
set_option maxHeartbeats 2000000
def firstE:List Int→Int
 | []=>0
 | e::r=>if e≠0 then e else firstE r
theorem firstE_drop {v:List Int}{i:Nat}(h:∀ (j:Nat) (e:Int),j<i→v[j]? = some e→e=0):firstE v=firstE (v.drop i):=by
 induction i generalizing v with
 | zero=>rfl
 | succ i ih =>
  cases v with
  | nil=>rfl
  | cons l r =>
   have h0:=h 0 l (Nat.succ_pos i) rfl;rw [List.drop_succ_cons];show (if l≠0 then l else firstE r)=_;rw [if_neg (fun hh=>hh h0)];exact ih fun j m hj hm=>h (j+1) m (by omega) hm
theorem bne_int {a:Int}(h:a≠0):(a != 0)=true:=by
 have:(a==0)=false:=beq_eq_false_iff_ne.2 h
 unfold bne;rw [this];rfl
theorem first_g (v:List Int)(hl:v.length≤1000):ICalls C0 96 [.sl true 1 (v.map fun e=>i64 e)] (i64 (firstE v)):=by
 refine ICallP.walk w1 fok96 rfl fun F=>?_
 have el:(((v.map fun e=>i64 e).length:Nat):Int)=(v.length:Int):=by rw [List.length_map]
 refine sR 0 ?_;refine OkS.seq ?_;refine sZ 100 ?_;refine nwI el ?_;refine OkS.block ?_;refine OkS.loop (α:=Nat × Nat) (fun p=>⟨[(5,.sl true 1 (v.map fun e=>i64 e)),(6,i64 v.length),(7,i64 (p.1:Int))],[],p.2⟩) (fun p=>v.length - p.1) (fun p=>p.1≤v.length∧∀ (j:Nat) (e:Int),j<p.1→v[j]? = some e→e=0) (0,_) ⟨Nat.zero_le _,fun j l hj=>absurd hj (Nat.not_lt_zero j)⟩ wkI ?_;rintro ⟨i,n⟩ F ⟨hi,ha⟩;dsimp only at hi ha ⊢;refine sR 200 ?_;refine OkS.seq ?_;refine ifI ?_
 (refine brI (fun hlt=>?_) (fun hlt=>?_))<;>(try simp only [Bool.not_eq_true',Bool.not_eq_false'] at hlt)<;>(try simp only [hlt])
 ·have hi2:i<v.length:=by
   have:=of_decide_eq_true hlt
   omega
  obtain ⟨l,hl'⟩:∃ l,v[i]? = some l:=⟨v[i],List.getElem?_eq_getElem hi2⟩
  have hm:(v.map fun e=>i64 e)[i]? = some (i64 l):=by rw [List.getElem?_map,hl'];rfl
  have hd:firstE v=firstE (v.drop i):=firstE_drop ha;have hdd:v.drop i=l::v.drop (i+1):=by
   rw [List.drop_eq_getElem_cons hi2];rw [List.getElem?_eq_getElem hi2] at hl';rw [Option.some.inj hl']
  have wi:IntKind.i64.wrap ((i:Int)+1)=((i+1:Nat):Int):=wI (by omega) (by omega);refine skI ?_;refine OkS.seq ?_;refine OkS.block ?_;refine sZ 300 ?_;refine gwI kN ?_;refine ixI kT hm ?_;refine gwI kN ?_
  by_cases g:l=0
  ·have e5:(l != 0)=false:=by rw [g];rfl
   refine sZ 400 ?_;refine nwI e5 ?_;refine ifI ?_;refine skI ?_;refine OkS.reg w1 600 (by kernel_rfl) ?_;refine nwI wi ?_;refine ⟨(i+1,_),⟨hi2,fun j m hj hjm=>?_⟩,by dsimp only;omega,wkI⟩;rcases Nat.lt_or_ge j i with h|h
   ·exact ha j m h hjm
   ·have:j=i:=by dsimp only at hj;omega
    subst this;rw [hl'] at hjm;cases hjm;exact g
  ·have e5:(l != 0)=true:=bne_int g
   refine sZ 400 ?_;refine nwI e5 ?_;refine ifI ?_;refine sR 500 ?_;refine rtI ?_;refine exact_res ?_ IsPure.out;rw [hd,hdd];show _=i64 (if l≠0 then l else firstE (v.drop (i+1)));rw [if_pos g]
 ·have hi2:i=v.length:=by
   have:=of_decide_eq_false hlt
   omega
  subst hi2;refine exI ?_;refine sR 700 ?_;refine rtI ?_;refine exact_res ?_ IsPure.out;rw [firstE_drop ha,List.drop_of_length_le (Nat.le_refl _)];rfl
def isKind (s:ByteArray):Bool:=strEq s ⟨#[100,111,119,110]⟩||(strEq s ⟨#[117,112]⟩||(strEq s ⟨#[104,97,108,102,45,117,112]⟩||strEq s ⟨#[104,97,108,102,45,101,118,101,110]⟩))
def chkRule (k st:List UInt8):Nat:=if isKind (sb k) then (if chk st≠0 then chk st else if sgnQ (ratOf st)≤0 then 3 else 0) else 20
theorem chk_few {l:List UInt8}(h:chk l=0):tfew (ratOf l):=tfew_of (chk_rk h) (by decide)
theorem rsign_c {l:List UInt8}(h:chk l=0):ICalls C0 78 [str (sb l)] (i64 (sgnQ (ratOf l))):=by
 have:=sign_r (ratOf l) (chk_few h)
 unfold rR at this;rw [(canon_txt h).2.2.1] at this;exact this
theorem rcmp_c {a b:List UInt8}(ha:chk a=0)(hb:chk b=0):ICalls C0 34 [str (sb a),str (sb b)] (i64 (cmpQ (ratOf a) (ratOf b))):=by
 have cc:=rcmp (ratOf a) (ratOf b) 600 600 (chk_rk ha) (chk_rk hb) (by decide);unfold rR at cc;rw [(canon_txt ha).2.2.1,(canon_txt hb).2.2.1] at cc;exact cc
theorem rrule (k st:List UInt8)(h1:st.length≤100000):ICalls C0 142 [.agg [str (sb k),str (sb st)]] (i64 (chkRule k st)):=by
 refine ICallP.walk w1 fok142 rfl fun F=>?_
 have c1:=rcheck st h1;refine sR 0 ?_;refine OkS.seqX (α:=Nat) (fun n=>⟨[(1,.optr 0 0 2 0 0)],[⟨0,0,94,2,[.agg [str (sb k),str (sb st)]]⟩],n⟩) (fun _=>isKind (sb k)=true) ?_ ?_
 ·unfold chkRule isKind
  obtain ⟨b1,e1⟩:∃ b,strEq (sb k) ⟨#[100,111,119,110]⟩=b:=⟨_,rfl⟩
  obtain ⟨b2,e2⟩:∃ b,strEq (sb k) ⟨#[117,112]⟩=b:=⟨_,rfl⟩
  obtain ⟨b3,e3⟩:∃ b,strEq (sb k) ⟨#[104,97,108,102,45,117,112]⟩=b:=⟨_,rfl⟩
  obtain ⟨b4,e4⟩:∃ b,strEq (sb k) ⟨#[104,97,108,102,45,101,118,101,110]⟩=b:=⟨_,rfl⟩
  rw [e1,e2,e3,e4];refine OkS.seq ?_;cases b1
  ·cases b2
   ·cases b3
    ·cases b4
     ·refine OkS.reg w1 100 (by kernel_rfl) ?_
      refine nwI (ff6 e1 e2 e3 e4 kT kF) ?_;refine gwI (ff6 e1 e2 e3 e4 kT kF) ?_;refine gwI (ff6 e1 e2 e3 e4 kT kF) ?_;refine gwI (ff6 e1 e2 e3 e4 kT kF) ?_;refine ifI ?_;refine sR 200 ?_;refine rtI ?_;exact exact_res rfl IsPure.out
     ·refine OkS.reg w1 100 (by kernel_rfl) ?_
      refine nwI (ff6 e1 e2 e3 e4 kT kF) ?_;refine gwI (ff6 e1 e2 e3 e4 kT kF) ?_;refine gwI (ff6 e1 e2 e3 e4 kT kF) ?_;refine gwI (ff6 e1 e2 e3 e4 kT kF) ?_;refine ifI ?_;refine skI ?_;exact ⟨rfl,_,rfl,wkI⟩
    ·refine OkS.reg w1 100 (by kernel_rfl) ?_
     refine nwI (ff6 e1 e2 e3 e4 kT kF) ?_;refine gwI (ff6 e1 e2 e3 e4 kT kF) ?_;refine gwI (ff6 e1 e2 e3 e4 kT kF) ?_;refine gwI (ff6 e1 e2 e3 e4 kT kF) ?_;refine ifI ?_;refine skI ?_;exact ⟨rfl,_,rfl,wkI⟩
   ·refine OkS.reg w1 100 (by kernel_rfl) ?_
    refine nwI (ff6 e1 e2 e3 e4 kT kF) ?_;refine gwI (ff6 e1 e2 e3 e4 kT kF) ?_;refine gwI (ff6 e1 e2 e3 e4 kT kF) ?_;refine gwI (ff6 e1 e2 e3 e4 kT kF) ?_;refine ifI ?_;refine skI ?_;exact ⟨rfl,_,rfl,wkI⟩
  ·refine OkS.reg w1 100 (by kernel_rfl) ?_
   refine nwI (ff6 e1 e2 e3 e4 kT kF) ?_;refine gwI (ff6 e1 e2 e3 e4 kT kF) ?_;refine gwI (ff6 e1 e2 e3 e4 kT kF) ?_;refine gwI (ff6 e1 e2 e3 e4 kT kF) ?_;refine ifI ?_;refine skI ?_;exact ⟨rfl,_,rfl,wkI⟩
 rintro n0 hk;unfold chkRule;rw [if_pos hk];refine sR 300 ?_;refine cI c1 ?_
 by_cases g1:chk st=0
 ·have e8:(((chk st:Nat):Int)==0)=true:=by rw [g1];rfl
  have cs:=rsign_c g1;rw [if_neg (fun h=>h g1)];refine OkS.seq ?_;refine sZ 400 ?_;refine nwI e8 ?_;refine gwI kT ?_;refine gcI kT ?_;refine CallO.same _ cs inferInstance ?_;refine gwI kT ?_
  by_cases g3:sgnQ (ratOf st)≤0
  ·rw [decide_eq_true g3,if_pos g3]
   refine ifI ?_;refine sR 500 ?_;refine rtI ?_;exact exact_res rfl IsPure.out
  ·rw [decide_eq_false g3,if_neg g3]
   refine ifI ?_;refine skI ?_;refine sR 600 ?_;refine rtI ?_;exact exact_res (by rw [g1]) IsPure.out
 ·have e8:(((chk st:Nat):Int)==0)=false:=beq_eq_false_iff_ne.2 (by omega)
  rw [if_pos g1];refine OkS.seq ?_;refine sZ 400 ?_;refine nwI e8 ?_;refine gwI kF ?_;refine ifI ?_;refine skI ?_;refine sR 600 ?_;refine rtI ?_;exact exact_res rfl IsPure.out
structure FacT where
 name:List UInt8
 tol:List UInt8
 kind:List UInt8
 step:List UInt8
 deriving Inhabited
def FacT.D (f:FacT):D:=.agg [str (sb f.name),str (sb f.tol),str (sb f.kind),str (sb f.step)]
def FacT.few (f:FacT):Prop:=f.name.length≤100000∧f.tol.length≤100000∧f.kind.length≤100000∧f.step.length≤100000
instance  (f:FacT):CellsPure f.D:=by unfold FacT.D;exact inferInstance
instance  (f:FacT):IsPure f.D:=by unfold FacT.D;exact inferInstance
def chkFactor (f:FacT):Nat:=if isNameL f.name then (if chk f.tol≠0 then chk f.tol else if sgnQ (ratOf f.tol)<0 then 3 else chkRule f.kind f.step) else 8
theorem rfactor (f:FacT)(hf:f.few):ICalls C0 75 [f.D] (i64 (chkFactor f)):=by
 refine ICallP.walk w1 fok75 rfl fun F=>?_
 have cn:=rname f.name (by have:=hf.1;omega);have c1:=rcheck f.tol hf.2.1;have cr:=rrule f.kind f.step hf.2.2.2;unfold FacT.D chkFactor;refine sR 0 ?_;refine OkS.seq ?_;refine sR 100 ?_;refine cI cn ?_;cases hn:isNameL f.name
 ·rw [if_neg (by decide)]
  refine ifI ?_;refine sR 200 ?_;refine rtI ?_;exact exact_res rfl IsPure.out
 rw [if_pos rfl];refine ifI ?_;refine skI ?_;refine sR 300 ?_;refine cI c1 ?_
 by_cases g1:chk f.tol=0
 ·have e8:(((chk f.tol:Nat):Int)==0)=true:=by rw [g1];rfl
  have cs:=rsign_c g1;rw [if_neg (fun h=>h g1)];refine OkS.seq ?_;refine sZ 400 ?_;refine nwI e8 ?_;refine gwI kT ?_;refine gcI kT ?_;refine CallO.same _ cs inferInstance ?_;refine gwI kT ?_
  by_cases g3:sgnQ (ratOf f.tol)<0
  ·rw [decide_eq_true g3,if_pos g3]
   refine ifI ?_;refine rI 500 ?_;refine OkS.seq ?_;refine sR 600 ?_;refine ifI ?_;refine skI ?_;refine sR 800 ?_;refine rtI ?_;exact exact_res rfl IsPure.out
  ·rw [decide_eq_false g3,if_neg g3]
   refine ifI ?_;refine skI ?_;refine OkS.seq ?_;refine sZ 600 ?_;refine nwI e8 ?_;refine ifI ?_;refine rI 700 ?_;refine cI cr ?_;refine sR 800 ?_;refine rtI ?_;exact exact_res rfl IsPure.out
 ·have e8:(((chk f.tol:Nat):Int)==0)=false:=beq_eq_false_iff_ne.2 (by omega)
  rw [if_pos g1];refine OkS.seq ?_;refine sZ 400 ?_;refine nwI e8 ?_;refine gwI kF ?_;refine ifI ?_;refine skI ?_;refine OkS.seq ?_;refine sZ 600 ?_;refine nwI e8 ?_;refine ifI ?_;refine skI ?_;refine sR 800 ?_;refine rtI ?_;exact exact_res rfl IsPure.out
end Go.Ide
namespace Go.Ide
open Go.Proofs Go.RowKit
set_option maxRecDepth 20000
set_option maxHeartbeats 2000000
theorem strEq_sb (a b:List UInt8):strEq (sb a) (sb b)=decide (a=b):=by
 unfold strEq
 by_cases h:a=b
 ·subst h;simp
 ·rw [decide_eq_false h]
  apply beq_eq_false_iff_ne.2;intro hh;apply h;simpa [sb] using hh
theorem strEq_nil (l:List UInt8):strEq (sb l) ⟨#[]⟩=decide (l=[]):=strEq_sb l []
def limE (l:List UInt8):Nat:=if l=[] then 0 else chk l
theorem limE_chk {l:List UInt8}(h:limE l=0)(h0:l≠[]):chk l=0:=by
 unfold limE at h;rw [if_neg h0] at h;exact h
def ordOk (a b c d:List UInt8):Bool :=
 (decide (a=[])||(!decide (c=[]) && !decide (cmpQ (ratOf c) (ratOf a)<0)))&&(decide (b=[])||(!decide (d=[])&&decide (cmpQ (ratOf d) (ratOf b)≤0)))
theorem rlimit (l:List UInt8)(h:l.length≤100000):ICalls C0 143 [str (sb l)] (i64 (limE l)):=by
 refine ICallP.walk w1 fok143 rfl fun F=>?_
 have c1:=rcheck l h;have e1:=strEq_nil l;unfold limE;refine sR 0 ?_;refine OkS.seq ?_
 by_cases g:l=[]
 ·rw [decide_eq_true g] at e1
  rw [if_pos g];refine sZ 100 ?_;refine nwI (ff3 e1 kT kF) ?_;refine ifI ?_;refine sR 200 ?_;refine rtI ?_;exact exact_res rfl IsPure.out
 ·rw [decide_eq_false g] at e1
  rw [if_neg g];refine sZ 100 ?_;refine nwI (ff3 e1 kT kF) ?_;refine ifI ?_;refine skI ?_;refine sR 300 ?_;refine cI c1 ?_;refine rtI ?_;exact exact_res rfl IsPure.out
theorem rcontains (a b c d:List UInt8)(ha:limE a=0)(hb:limE b=0)(hc:limE c=0)(hd:limE d=0) :
  ICalls C0 144 [str (sb a),str (sb b),str (sb c),str (sb d)] (boo (ordOk a b c d)):=by
 refine ICallP.walk w1 fok144 rfl fun F=>?_
 have ea:=strEq_nil a;have eb:=strEq_nil b;have ec:=strEq_nil c;have ed:=strEq_nil d;refine sR 0 ?_;refine OkS.seqX (α:=Nat) (fun n=>⟨[(0,str (sb a)),(1,str (sb b)),(2,str (sb c)),(3,str (sb d))],[],n⟩) (fun _=>(decide (a=[])||(!decide (c=[]) && !decide (cmpQ (ratOf c) (ratOf a)<0)))=true) ?_ ?_
 ·unfold ordOk
  by_cases ga:a=[]
  ·rw [decide_eq_true ga] at ea ⊢
   refine sZ 100 ?_;refine nwI (ff4 ea eb kT kF) ?_;refine gwI kB ?_
   try simp only [ec,ed,Bool.not_true,Bool.not_false]
   refine ifI ?_;refine skI ?_;exact ⟨rfl,_,rfl,wkI⟩
  rw [decide_eq_false ga] at ea ⊢
  by_cases gc:c=[]
  ·rw [decide_eq_true gc] at ec ⊢
   refine sZ 100 ?_;refine nwI (ff4 ea eb kT kF) ?_;refine gwI kB ?_
   try simp only [ec,ed,Bool.not_true,Bool.not_false]
   refine gwI kB ?_
   try simp only [ec,ed,Bool.not_true,Bool.not_false]
   refine ifI ?_;refine sR 200 ?_;refine rtI ?_;exact exact_res rfl IsPure.out
  rw [decide_eq_false gc] at ec ⊢;have cc:=rcmp_c (limE_chk hc gc) (limE_chk ha ga);refine sZ 100 ?_;refine nwI (ff4 ea eb kT kF) ?_;refine gwI kB ?_
  try simp only [ec,ed,Bool.not_true,Bool.not_false]
  refine gwI kB ?_;refine gcI kB ?_;refine CallO.same _ cc inferInstance ?_;refine gwI kB ?_
  try simp only [ec,ed,Bool.not_true,Bool.not_false]
  by_cases g3:cmpQ (ratOf c) (ratOf a)<0
  ·rw [decide_eq_true g3]
   refine ifI ?_;refine sR 200 ?_;refine rtI ?_;exact exact_res rfl IsPure.out
  ·rw [decide_eq_false g3]
   refine ifI ?_;refine skI ?_;exact ⟨rfl,_,rfl,wkI⟩
 rintro n0 h1;unfold ordOk;rw [h1]
 by_cases gb:b=[]
 ·rw [decide_eq_true gb] at eb ⊢
  refine sZ 300 ?_;refine nwI (ff4 ea eb kT kF) ?_;refine gwI kB ?_
  try simp only [ec,ed,Bool.not_true,Bool.not_false]
  refine rtI ?_;exact exact_res rfl IsPure.out
 rw [decide_eq_false gb] at eb ⊢
 by_cases gd:d=[]
 ·rw [decide_eq_true gd] at ed ⊢
  refine sZ 300 ?_;refine nwI (ff4 ea eb kT kF) ?_;refine gwI kB ?_
  try simp only [ec,ed,Bool.not_true,Bool.not_false]
  refine gwI kB ?_
  try simp only [ec,ed,Bool.not_true,Bool.not_false]
  refine rtI ?_;exact exact_res rfl IsPure.out
 rw [decide_eq_false gd] at ed ⊢;have cc:=rcmp_c (limE_chk hd gd) (limE_chk hb gb);refine sZ 300 ?_;refine nwI (ff4 ea eb kT kF) ?_;refine gwI kB ?_
 try simp only [ec,ed,Bool.not_true,Bool.not_false]
 refine gwI kB ?_;refine gcI kB ?_;refine CallO.same _ cc inferInstance ?_;refine gwI kB ?_
 try simp only [ec,ed,Bool.not_true,Bool.not_false]
 refine rtI ?_;exact exact_res rfl IsPure.out
end Go.Ide
namespace Go.Ide
open Go.Proofs Go.RowKit
set_option maxRecDepth 20000
set_option maxHeartbeats 2000000
def fstE (f:Nat→Nat):Nat→Nat
 | 0=>0
 | n+1=>if fstE f n≠0 then fstE f n else f n
theorem fstE_zero {f:Nat→Nat}{n:Nat}(h:∀ j,j<n→f j=0):fstE f n=0:=by
 induction n with
 | zero=>rfl
 | succ n ih =>
  have:=ih fun j hj=>h j (by omega)
  unfold fstE;rw [if_neg (fun hh=>hh this)];exact h n (by omega)
theorem fstE_at {f:Nat→Nat}{i n:Nat}(h:∀ j,j<i→f j=0)(hi:i<n)(h0:f i≠0):fstE f n=f i:=by
 induction n with
 | zero=>omega
 | succ n ih =>
  unfold fstE;rcases Nat.lt_or_ge i n with hlt|hge
  ·have:=ih hlt
   rw [if_pos (by rw [this];exact h0),this]
  ·have:i=n:=by omega
   subst this;rw [if_neg (fun hh=>hh (fstE_zero h))]
theorem fstE_all {f:Nat→Nat}{n:Nat}(h:fstE f n=0):∀ j,j<n→f j=0:=by
 induction n with
 | zero=>intro j hj;omega
 | succ n ih =>
  unfold fstE at h
  by_cases h0:fstE f n=0
  ·rw [if_neg (fun hh=>hh h0)] at h
   intro j hj;rcases Nat.lt_or_ge j n with hl|hg
   ·exact ih h0 j hl
   ·have:j=n:=by omega
    subst this;exact h
  ·rw [if_pos h0] at h
   exact absurd h h0
structure GraT where
 name:List UInt8
 least:List (List UInt8)
 most:List (List UInt8)
 deriving Inhabited
def GraT.D (g:GraT):D:=.agg [str (sb g.name),.sl false 1 (g.least.map fun l=>str (sb l)),.sl false 1 (g.most.map fun l=>str (sb l))]
instance  (g:GraT):CellsPure g.D:=by unfold GraT.D;exact inferInstance
instance  (g:GraT):IsPure g.D:=by unfold GraT.D;exact inferInstance
def GraT.few (g:GraT):Prop:=g.name.length≤100000∧g.least.length≤100000∧g.most.length≤100000∧(∀ l∈g.least,l.length≤100000)∧(∀ l∈g.most,l.length≤100000)
structure SchT where
 fs:List FacT
 gs:List GraT
def SchT.D (s:SchT):D:=.agg [.sl false 4 (s.fs.map FacT.D),.sl false 3 (s.gs.map GraT.D)]
instance  (s:SchT):CellsPure s.D:=by unfold SchT.D;exact inferInstance
instance  (s:SchT):IsPure s.D:=by unfold SchT.D;exact inferInstance
def SchT.few (s:SchT):Prop:=s.fs.length≤100000∧s.gs.length≤100000∧(∀ f∈s.fs,f.few)∧(∀ g∈s.gs,g.few)
def chkLim (a b:List UInt8)(p:Option (List UInt8 × List UInt8)):Nat :=
 if limE a≠0 then limE a else if limE b≠0 then limE b else if a≠[]∧b≠[]∧cmpQ (ratOf a) (ratOf b)>0 then 3 else match p with
  | none=>0
  | some (c,d)=>if ordOk a b c d then 0 else 11
def lv (l:List (List UInt8))(k:Nat):List UInt8:=l.getD k []
def before (gs:List GraT)(i k:Nat):Option (List UInt8 × List UInt8):=if i=0 then none else some (lv (gs.getD (i - 1) default).least k,lv (gs.getD (i - 1) default).most k)
def chkGrade (n:Nat)(gs:List GraT)(i:Nat):Nat :=
 let g:=gs.getD i default
 if isNameL g.name then
  (if (gs.take i).any (fun x=>decide (x.name=g.name)) then 9
  else if g.least.length=n∧g.most.length=n then fstE (fun k=>chkLim (lv g.least k) (lv g.most k) (before gs i k)) n
  else 2)
 else 8
def chkFac (fs:List FacT)(i:Nat):Nat :=
 if chkFactor (fs.getD i default)≠0 then chkFactor (fs.getD i default) else if (fs.take i).any (fun x=>decide (x.name=(fs.getD i default).name)) then 9 else 0
def cntF (n:Nat):Nat:=if n=0 then 2 else if n>8 then 5 else 0
def cntG (n:Nat):Nat:=if n=0 then 2 else if n>16 then 5 else 0
def chkScheme (s:SchT):Nat :=
 if cntF s.fs.length≠0 then cntF s.fs.length
 else if fstE (chkFac s.fs) s.fs.length≠0 then fstE (chkFac s.fs) s.fs.length
 else if cntG s.gs.length≠0 then cntG s.gs.length
 else fstE (chkGrade s.fs.length s.gs) s.gs.length
def gOk (n:Nat)(g:GraT):Prop:=g.least.length=n∧g.most.length=n∧∀ k,k<n→limE (lv g.least k)=0∧limE (lv g.most k)=0
theorem chkLim_ok {a b:List UInt8}{p:Option (List UInt8 × List UInt8)}(h:chkLim a b p=0):limE a=0∧limE b=0:=by
 unfold chkLim at h
 by_cases ha:limE a=0
 ·rw [if_neg (fun hh=>hh ha)] at h
  by_cases hb:limE b=0
  ·exact ⟨ha,hb⟩
  ·rw [if_pos hb] at h
   exact absurd h hb
 ·rw [if_pos ha] at h
  exact absurd h ha
theorem chkGrade_ok {n:Nat}{gs:List GraT}{i:Nat}(h:chkGrade n gs i=0):gOk n (gs.getD i default):=by
 unfold chkGrade at h;dsimp only at h;split at h
 ·split at h
  ·cases h
  ·split at h
   ·rename_i hh
    exact ⟨hh.1,hh.2,fun k hk=>chkLim_ok (fstE_all h k hk)⟩
   ·cases h
 ·cases h
theorem lv_some {l:List (List UInt8)}{k:Nat}(h:k<l.length):l[k]? = some (lv l k):=by
 unfold lv;rw [List.getD_eq_getElem?_getD,List.getElem?_eq_getElem h];rfl
theorem lv_map {l:List (List UInt8)}{k:Nat}(h:k<l.length):(l.map fun x=>str (sb x))[k]? = some (str (sb (lv l k))):=by
 rw [List.getElem?_map,lv_some h];rfl
theorem lv_few {l:List (List UInt8)}{k:Nat}(h:k<l.length)(hf:∀ x∈l,x.length≤100000):(lv l k).length≤100000:=hf _ (List.mem_of_getElem? (lv_some h))
theorem gv_some {gs:List GraT}{i:Nat}(h:i<gs.length):gs[i]? = some (gs.getD i default):=by
 rw [List.getD_eq_getElem?_getD,List.getElem?_eq_getElem h];rfl
theorem gv_map {gs:List GraT}{i:Nat}(h:i<gs.length):(gs.map GraT.D)[i]? = some (.agg [str (sb (gs.getD i default).name),.sl false 1 ((gs.getD i default).least.map fun l=>str (sb l)),.sl false 1 ((gs.getD i default).most.map fun l=>str (sb l))]):=by
 rw [List.getElem?_map,gv_some h];rfl
theorem fv_some {fs:List FacT}{i:Nat}(h:i<fs.length):fs[i]? = some (fs.getD i default):=by
 rw [List.getD_eq_getElem?_getD,List.getElem?_eq_getElem h];rfl
theorem fv_map {fs:List FacT}{i:Nat}(h:i<fs.length):(fs.map FacT.D)[i]? = some (.agg [str (sb (fs.getD i default).name),str (sb (fs.getD i default).tol),str (sb (fs.getD i default).kind),str (sb (fs.getD i default).step)]):=by
 rw [List.getElem?_map,fv_some h];rfl
theorem any_take_none {α:Type}{l:List α}{p:α→Bool}{i:Nat}(h:∀ (j:Nat) (x:α),j<i→l[j]? = some x→p x=false):(l.take i).any p=false:=by
 rw [List.any_eq_false];intro x hx;obtain ⟨j,hj,e⟩:=List.mem_iff_getElem.1 hx;have hj2:j<i:=by rw [List.length_take] at hj;omega
 have:l[j]? = some x:=by
  rw [← e,List.getElem_take];exact List.getElem?_eq_getElem _
 rw [h j x hj2 this];simp
theorem any_take_some {α:Type}{l:List α}{p:α→Bool}{i j:Nat}{x:α}(hj:j<i)(hx:l[j]? = some x)(h:p x=true):(l.take i).any p=true:=by
 rw [List.any_eq_true];refine ⟨x,?_,h⟩;exact List.mem_of_getElem? (i:=j) (by rw [List.getElem?_take,if_pos hj,hx])
end Go.Ide
namespace Go.Ide
open Go.Proofs Go.RowKit
set_option maxRecDepth 20000
set_option maxHeartbeats 2000000
theorem look_kind (s:ByteArray):(isKind s=true→∃ f,lookS s (mpK kindsD) (mpV kindsD)=some (some (.agg [.clo (.func f) [] []])))∧(isKind s=false→lookS s (mpK kindsD) (mpV kindsD)=some none):=by
 unfold isKind;simp only [kindsD,mpK,mpV,lookS];cases strEq s ⟨#[100,111,119,110]⟩<;>cases strEq s ⟨#[117,112]⟩<;>cases strEq s ⟨#[104,97,108,102,45,117,112]⟩<;>cases strEq s ⟨#[104,97,108,102,45,101,118,101,110]⟩<;>simp
section
attribute [local irreducible] wpQ
theorem rule_ok (k st:List UInt8)(h1:st.length≤100000):ICalls C0 171 [.agg [str (sb k),str (sb st)]] (i64 (chkRule k st)):=by
 refine ICallP.walk w1 fok171 rfl fun F=>?_
 have dk:ICalls C0 216 [] (.mp (mpK kindsD) (mpV kindsD)):=kinds_ok;have dp:IsPure (D.mp (mpK kindsD) (mpV kindsD)):=⟨pureB_ok (n:=20) (by kernel_rfl)⟩
 have c1:=check_ok st h1;unfold chkRule;refine fR 0 ?_;cases hk:isKind (sb k)
 ·have hlk:=(look_kind (sb k)).2 hk
  refine OkS.seq ?_;refine OkS.seq ?_;refine OkS.regWa w1 100 [0,1,2,3,4,5,6,7,8] [9] 8 7 [4,3,2,1,0,5,7] (by kernel_rfl) (by kernel_rfl) ?_;refine nxI ?_;refine CallW.same _ dk inferInstance ?_;refine wpQ_of (evQ_look0 (s:=sb k) (a:=9) (b:=289) (z:=.agg #[.nilFunc]) (by kernel_rfl) rfl rfl hlk) ?_;dsimp only [okD];refine nxI ?_;refine nxI ?_;refine fR 200 ?_;refine ifI ?_;refine fR 300 ?_;refine rtI ?_;exact exact_res rfl IsPure.out
 obtain ⟨fn,hlk⟩:=(look_kind (sb k)).1 hk;rw [if_pos rfl];refine OkS.seq ?_;refine OkS.seq ?_;refine OkS.regWa w1 100 [0,1,2,3,4,5,6,7,8] [9] 8 7 [4,3,2,1,0,5,7] (by kernel_rfl) (by kernel_rfl) ?_;refine nxI ?_;refine CallW.same _ dk inferInstance ?_;refine wpQ_of (evQ_look (s:=sb k) (a:=9) (b:=289) (z:=.agg #[.nilFunc]) (by kernel_rfl) rfl rfl hlk) ?_;dsimp only [okD];refine nxI ?_;refine nxI ?_;refine fR 200 ?_;refine ifI ?_;refine skI ?_;refine OkS.seq ?_;refine fR 400 ?_;refine dI c1 ?_
 by_cases g1:chk st=0
 ·have e8:(((chk st:Nat):Int) != 0)=false:=by rw [g1];rfl
  have cf:=from_c h1 g1;have cs:=fsign_g (chk_fr g1).is;have cp:IsPure (fromF st).D:=inferInstance;rw [if_neg (fun h=>h g1)];refine fR 500 ?_;rw [e8];refine ifI ?_;refine skI ?_;refine OkS.seq ?_;refine fR 700 ?_;refine dI cf ?_;refine dI cs ?_
  by_cases g3:sgnQ (ratOf st)≤0
  ·rw [decide_eq_true g3,if_pos g3]
   refine ifI ?_;refine fR 800 ?_;refine rtI ?_;exact exact_res rfl IsPure.out
  ·rw [decide_eq_false g3,if_neg g3]
   refine ifI ?_;refine skI ?_;refine fR 900 ?_;refine rtI ?_;exact exact_res rfl IsPure.out
 ·have e8:(((chk st:Nat):Int) != 0)=true:=bne_int (by omega)
  rw [if_pos g1];refine fR 500 ?_;rw [e8];refine ifI ?_;refine fR 600 ?_;refine rtI ?_;exact exact_res rfl IsPure.out
end
theorem factor_ok (f:FacT)(hf:f.few):ICalls C0 103 [f.D] (i64 (chkFactor f)):=by
 refine ICallP.walk w1 fok103 rfl fun F=>?_
 have cn:ICalls C0 170 [str (sb f.name)] (boo (isNameL f.name)):=isName_ok (sb f.name);have c1:=check_ok f.tol hf.2.1;have cr:=rule_ok f.kind f.step hf.2.2.2;unfold FacT.D chkFactor;refine fR 0 ?_;refine OkS.seq ?_;refine fR 100 ?_;refine dI cn ?_;cases hn:isNameL f.name
 ·rw [if_neg (by decide)]
  refine ifI ?_;refine fR 200 ?_;refine rtI ?_;exact exact_res rfl IsPure.out
 rw [if_pos rfl];refine ifI ?_;refine skI ?_;refine OkS.seq ?_;refine fR 300 ?_;refine dI c1 ?_
 by_cases g1:chk f.tol=0
 ·have e8:(((chk f.tol:Nat):Int) != 0)=false:=by rw [g1];rfl
  have cf:=from_c hf.2.1 g1;have cs:=fsign_g (chk_fr g1).is;have cw:=when_ok (decide (sgnQ (ratOf f.tol)<0)) 3;have c2:ICalls C0 96 [.sl true 1 [i64 (if decide (sgnQ (ratOf f.tol)<0) then 3 else 0),i64 (chkRule f.kind f.step)]] (i64 (firstE [if decide (sgnQ (ratOf f.tol)<0) then 3 else 0,(chkRule f.kind f.step:Int)])):=first_g [if decide (sgnQ (ratOf f.tol)<0) then 3 else 0,(chkRule f.kind f.step:Int)] (by simp);have cp:IsPure (fromF f.tol).D:=inferInstance;rw [if_neg (fun h=>h g1)];refine fR 400 ?_;rw [e8];refine ifI ?_;refine skI ?_;refine OkS.seq ?_;refine OkS.regD w1 600 [0,1,2,3,4,5,6,7] [8,9,10,11] (by kernel_rfl) ?_;refine nxI ?_;refine CallW.same _ (cf) inferInstance ?_;refine nxI ?_;refine CallW.same _ (cs) inferInstance ?_;refine nxI ?_;refine CallW.same _ (cw) inferInstance ?_;refine nxI ?_;refine dI cr ?_;refine dI c2 ?_;refine rtI ?_;refine exact_res ?_ IsPure.out;unfold firstE firstE firstE
  by_cases g3:sgnQ (ratOf f.tol)<0
  ·simp [g3]
  ·by_cases g4:chkRule f.kind f.step=0
   ·simp [g3,g4]
   ·simp [g3,g4]
 ·have e8:(((chk f.tol:Nat):Int) != 0)=true:=bne_int (by omega)
  rw [if_pos g1];refine fR 400 ?_;rw [e8];refine ifI ?_;refine fR 500 ?_;refine rtI ?_;exact exact_res rfl IsPure.out
end Go.Ide
namespace Go.Ide
open Go.Proofs Go.RowKit
set_option maxRecDepth 20000
set_option maxHeartbeats 2000000
def fidx {α:Type}(p:α→Bool)(l:List α):Int:=if l.any p then (l.findIdx p:Int) else -1
theorem fidx_at {α:Type}{p:α→Bool}{l:List α}{i:Nat}{x:α}(hx:l[i]? = some x)(h:p x=true)(ha:∀ (j:Nat) (y:α),j<i→l[j]? = some y→p y=false):fidx p l=i:=by
 unfold fidx;obtain ⟨hi,e⟩:=List.getElem?_eq_some_iff.1 hx;rw [if_pos (List.any_eq_true.2 ⟨x,List.mem_of_getElem? hx,h⟩)]
 have:l.findIdx p=i:=(List.findIdx_eq hi).2 ⟨by rw [e];exact h,fun j hj=>ha j _ hj (List.getElem?_eq_getElem _)⟩
 rw [this]
theorem fidx_none {α:Type}{p:α→Bool}{l:List α}(ha:∀ (j:Nat) (y:α),j<l.length→l[j]? = some y→p y=false):fidx p l = -1:=by
 unfold fidx
 have:=any_take_none (l:=l) (p:=p) (i:=l.length) ha
 rw [List.take_length] at this;rw [this];rfl
theorem fidx_ge {α:Type}(p:α→Bool)(l:List α):decide (fidx p l≥0)=l.any p:=by
 unfold fidx;cases l.any p
 ·rfl
 ·exact decide_eq_true (by simp)
def sameG (y x:GraT):Bool:=decide (x.name=y.name)
def sameF (y x:FacT):Bool:=decide (x.name=y.name)
theorem nameG (x y:GraT):ICalls C0 273 [x.D,.pptr y.D] (boo (sameG y x)):=by
 refine ICallP.walk w1 fok273 rfl fun F=>?_
 have e1:=strEq_sb x.name y.name;unfold GraT.D sameG;refine sR 0 ?_;refine sZ 100 ?_;refine nwI e1 ?_;refine rtI ?_;exact exact_res rfl IsPure.out
theorem nameF (x y:FacT):ICalls C0 240 [x.D,.pptr y.D] (boo (sameF y x)):=by
 refine ICallP.walk w1 fok240 rfl fun F=>?_
 have e1:=strEq_sb x.name y.name;unfold FacT.D sameF;refine sR 0 ?_;refine sZ 100 ?_;refine nwI e1 ?_;refine rtI ?_;exact exact_res rfl IsPure.out
theorem idxG (l:List GraT)(y:GraT)(hl:l.length≤1000000):ICalls C0 304 [.sl false 3 (l.map GraT.D),.clo (.func 273) [] [.pptr y.D]] (i64 (fidx (sameG y) l)):=by
 refine ICallP.walk w1 fok304 rfl fun F=>?_
 have el:(((l.map GraT.D).length:Nat):Int)=(l.length:Int):=by rw [List.length_map]
 refine sR 0 ?_;refine OkS.seq ?_;refine sZ 100 ?_;refine nwI el ?_;refine OkS.block ?_;refine OkS.loop (α:=Nat × Nat) (fun p=>⟨[(0,.sl false 3 (l.map GraT.D)),(1,.clo (.func 273) [] [.pptr y.D]),(7,i64 l.length),(8,i64 (p.1:Int))],[],p.2⟩) (fun p=>l.length - p.1) (fun p=>p.1≤l.length∧∀ (j:Nat) (x:GraT),j<p.1→l[j]? = some x→sameG y x=false) (0,_) ⟨Nat.zero_le _,fun j x hj=>absurd hj (Nat.not_lt_zero j)⟩ wkI ?_;rintro ⟨i,n⟩ F ⟨hi,ha⟩;dsimp only at hi ha ⊢;refine sR 200 ?_;refine OkS.seq ?_;refine ifI ?_
 (refine brI (fun hlt=>?_) (fun hlt=>?_))<;>(try simp only [Bool.not_eq_true',Bool.not_eq_false'] at hlt)<;>(try simp only [hlt])
 ·have hi2:i<l.length:=by
   have:=of_decide_eq_true hlt
   omega
  obtain ⟨x,hx⟩:∃ x,l[i]? = some x:=⟨l[i],List.getElem?_eq_getElem hi2⟩
  have hm:(l.map GraT.D)[i]? = some x.D:=by rw [List.getElem?_map,hx];rfl
  have cn:=nameG x y;have wi:IntKind.i64.wrap ((i:Int)+1)=((i+1:Nat):Int):=wI (by omega) (by omega);unfold GraT.D at hm;unfold GraT.D at cn;refine skI ?_;refine OkS.seq ?_;refine OkS.block ?_;refine sR 300 ?_;refine sZ 400 ?_;refine gwI kN ?_;refine ixI kT hm ?_;refine gwI kN ?_;refine CallO.same _ cn inferInstance ?_;refine stI ?_;cases hb:sameG y x
  ·refine ifI ?_
   refine skI ?_;refine OkS.reg w1 600 (by kernel_rfl) ?_;refine nwI wi ?_;refine ⟨(i+1,_),⟨hi2,fun j z hj hjz=>?_⟩,by dsimp only;omega,wkI⟩;rcases Nat.lt_or_ge j i with h|h
   ·exact ha j z h hjz
   ·have:j=i:=by dsimp only at hj;omega
    subst this;rw [hx] at hjz;cases hjz;exact hb
  ·refine ifI ?_
   refine sR 500 ?_;refine rtI ?_;exact exact_res (by rw [fidx_at hx hb ha]) IsPure.out
 ·have hi2:i=l.length:=by
   have:=of_decide_eq_false hlt
   omega
  subst hi2;refine exI ?_;refine sR 700 ?_;refine rtI ?_;exact exact_res (by rw [fidx_none ha]) IsPure.out
theorem idxF (l:List FacT)(y:FacT)(hl:l.length≤1000000):ICalls C0 271 [.sl false 4 (l.map FacT.D),.clo (.func 240) [] [.pptr y.D]] (i64 (fidx (sameF y) l)):=by
 refine ICallP.walk w1 fok271 rfl fun F=>?_
 have el:(((l.map FacT.D).length:Nat):Int)=(l.length:Int):=by rw [List.length_map]
 refine sR 0 ?_;refine OkS.seq ?_;refine sZ 100 ?_;refine nwI el ?_;refine OkS.block ?_;refine OkS.loop (α:=Nat × Nat) (fun p=>⟨[(0,.sl false 4 (l.map FacT.D)),(1,.clo (.func 240) [] [.pptr y.D]),(7,i64 l.length),(8,i64 (p.1:Int))],[],p.2⟩) (fun p=>l.length - p.1) (fun p=>p.1≤l.length∧∀ (j:Nat) (x:FacT),j<p.1→l[j]? = some x→sameF y x=false) (0,_) ⟨Nat.zero_le _,fun j x hj=>absurd hj (Nat.not_lt_zero j)⟩ wkI ?_;rintro ⟨i,n⟩ F ⟨hi,ha⟩;dsimp only at hi ha ⊢;refine sR 200 ?_;refine OkS.seq ?_;refine ifI ?_
 (refine brI (fun hlt=>?_) (fun hlt=>?_))<;>(try simp only [Bool.not_eq_true',Bool.not_eq_false'] at hlt)<;>(try simp only [hlt])
 ·have hi2:i<l.length:=by
   have:=of_decide_eq_true hlt
   omega
  obtain ⟨x,hx⟩:∃ x,l[i]? = some x:=⟨l[i],List.getElem?_eq_getElem hi2⟩
  have hm:(l.map FacT.D)[i]? = some x.D:=by rw [List.getElem?_map,hx];rfl
  have cn:=nameF x y;have wi:IntKind.i64.wrap ((i:Int)+1)=((i+1:Nat):Int):=wI (by omega) (by omega);unfold FacT.D at hm;unfold FacT.D at cn;refine skI ?_;refine OkS.seq ?_;refine OkS.block ?_;refine sR 300 ?_;refine sZ 400 ?_;refine gwI kN ?_;refine ixI kT hm ?_;refine gwI kN ?_;refine CallO.same _ cn inferInstance ?_;refine stI ?_;cases hb:sameF y x
  ·refine ifI ?_
   refine skI ?_;refine OkS.reg w1 600 (by kernel_rfl) ?_;refine nwI wi ?_;refine ⟨(i+1,_),⟨hi2,fun j z hj hjz=>?_⟩,by dsimp only;omega,wkI⟩;rcases Nat.lt_or_ge j i with h|h
   ·exact ha j z h hjz
   ·have:j=i:=by dsimp only at hj;omega
    subst this;rw [hx] at hjz;cases hjz;exact hb
  ·refine ifI ?_
   refine sR 500 ?_;refine rtI ?_;exact exact_res (by rw [fidx_at hx hb ha]) IsPure.out
 ·have hi2:i=l.length:=by
   have:=of_decide_eq_false hlt
   omega
  subst hi2;refine exI ?_;refine sR 700 ?_;refine rtI ?_;exact exact_res (by rw [fidx_none ha]) IsPure.out
theorem hasG (l:List GraT)(y:GraT)(hl:l.length≤1000000):ICalls C0 272 [.sl false 3 (l.map GraT.D),.clo (.func 273) [] [.pptr y.D]] (boo (l.any (sameG y))):=by
 refine ICallP.walk w1 fok272 rfl fun F=>?_
 have c1:=idxG l y hl;have e1:=fidx_ge (sameG y) l;refine sR 0 ?_;refine sR 100 ?_;refine cI c1 ?_
 try rw [e1]
 refine rtI ?_;exact exact_res (by first|rfl|(rw [← e1])) IsPure.out
theorem hasF (l:List FacT)(y:FacT)(hl:l.length≤1000000):ICalls C0 239 [.sl false 4 (l.map FacT.D),.clo (.func 240) [] [.pptr y.D]] (boo (l.any (sameF y))):=by
 refine ICallP.walk w1 fok239 rfl fun F=>?_
 have c1:=idxF l y hl;have e1:=fidx_ge (sameF y) l;refine sR 0 ?_;refine sR 100 ?_;refine cI c1 ?_
 try rw [e1]
 refine rtI ?_;exact exact_res (by first|rfl|(rw [← e1])) IsPure.out
end Go.Ide
namespace Go.Ide
open Go.Proofs Go.RowKit
set_option maxRecDepth 20000
set_option maxHeartbeats 4000000
def limF (l:List UInt8):GF:=if l=[] then ⟨mkG 0,0⟩ else fromF l
abbrev limL (l:List UInt8):List D:=[boo (decide (l=[])),i64 (limF l).n.s,(limF l).n.w,i64 (mkG ((limF l).d:Int)).s,(mkG ((limF l).d:Int)).w]
abbrev limsQ (p q:Bool)(a b:List UInt8):List D:=[boo p,i64 (limF a).n.s,(limF a).n.w,i64 (mkG ((limF a).d:Int)).s,(mkG ((limF a).d:Int)).w,boo q,i64 (limF b).n.s,(limF b).n.w,i64 (mkG ((limF b).d:Int)).s,(mkG ((limF b).d:Int)).w]
theorem limF_fr {l:List UInt8}(h:limE l=0)(h0:l≠[]):FR (ratOf l) (limF l) 600:=by
 unfold limF;rw [if_neg h0];exact chk_fr (limE_chk h h0)
theorem limcmp {a b:List UInt8}(ha:limE a=0)(hb:limE b=0)(ga:a≠[])(gb:b≠[]):ICalls C0 121 [(limF a).D,(limF b).D] (i64 (cmpQ (ratOf a) (ratOf b))) :=
 fcmp_g (limF_fr ha ga) (limF_fr hb gb) (by decide)
instance  (l:List UInt8):IsPure (.agg (limL l)):=inferInstance
theorem read_g (l:List UInt8)(hl:l.length≤100000)(h:limE l=0):ICalls C0 163 [str (sb l)] (.agg (limL l)):=by
 refine ICallP.walk w1 fok163 rfl fun F=>?_
 have e1:=strEq_nil l;refine sR 0 ?_;refine OkS.seq ?_
 by_cases g:l=[]
 ·rw [decide_eq_true g] at e1
  unfold limL limF;rw [if_pos g,decide_eq_true g];refine sZ 100 ?_;refine nwI e1 ?_;refine ifI ?_;refine sR 200 ?_;refine rtI ?_;exact exact_res rfl IsPure.out
 ·have cf:ICalls C0 70 [str (sb l)] (limF l).D:=by
   unfold limF;rw [if_neg g];exact from_c hl (limE_chk h g)
  rw [decide_eq_false g] at e1;unfold limL;rw [decide_eq_false g];have cp:IsPure (limF l).D:=inferInstance;dsimp only [GF.D] at cf cp;refine sZ 100 ?_;refine nwI e1 ?_;refine ifI ?_;refine skI ?_;refine sR 300 ?_;refine cI cf ?_;refine rtI ?_;exact exact_res rfl IsPure.out
def preD:Option GraT→D
 | none=>.prim (.pointer none)
 | some g=>.pptr g.D
instance  (p:Option GraT):IsPure (preD p):=by
 cases p<;>unfold preD<;>exact inferInstance
def preK (p:Option GraT)(k:Nat):Option (List UInt8 × List UInt8):=p.map fun g=>(lv g.least k,lv g.most k)
theorem cmp_gt (a b:Rat):decide (cmpQ a b>0)=decide (cmpQ b a<0):=decide_eq_decide.2 (by
 unfold cmpQ
 by_cases h1:a<b
 ·have h2:¬ b<a:=by grind
  rw [if_pos h1,if_neg h2,if_pos h1];decide
 ·by_cases h2:b<a
  ·rw [if_neg h1,if_pos h2,if_pos h2];decide
  ·rw [if_neg h1,if_neg h2,if_neg h2,if_neg h1])
theorem cmp_le (a b:Rat):(!decide (cmpQ a b<0))=decide (cmpQ b a≤0):=by
 rw [← cmp_gt]
 by_cases h:cmpQ b a>0
 ·rw [decide_eq_true h,decide_eq_false (by omega)];rfl
 ·rw [decide_eq_false h,decide_eq_true (by omega)];rfl
theorem lims_ok (g:GraT)(k:Nat)(p:Option GraT)(hg:g.few)(k1:k<g.least.length)(k2:k<g.most.length)
  (hp:∀ y,p=some y→y.few∧k<y.least.length∧k<y.most.length∧limE (lv y.least k)=0∧limE (lv y.most k)=0) :
  ICalls C0 274 [g.D,i64 (k:Int),preD p] (i64 (chkLim (lv g.least k) (lv g.most k) (preK p k))):=by
 refine ICallP.walk w1 fok274 rfl fun F=>?_
 have m1:=lv_map k1;have m2:=lv_map k2;have f1:=lv_few k1 hg.2.2.2.1;have f2:=lv_few k2 hg.2.2.2.2;obtain ⟨a,ea⟩:∃ a,lv g.least k=a:=⟨_,rfl⟩
 obtain ⟨b,eb⟩:∃ b,lv g.most k=b:=⟨_,rfl⟩
 rw [ea] at m1 f1 ⊢;rw [eb] at m2 f2 ⊢;unfold GraT.D;refine sR 0 ?_;refine OkS.seq ?_;refine OkS.regD w1 100 [0,1,2,3,4,5,6,7,8,9,10] [11] (by kernel_rfl) ?_;refine gwI kN ?_;refine ixI kT m1 ?_;refine gwI kN ?_;refine ixI kT m2 ?_;refine gwI kN ?_;refine OkS.seqX (α:=Nat) (fun n=>⟨[(1,i64 (k:Int)),(2,preD p),(7,str (sb a)),(8,str (sb b))],[],n⟩) (fun _=>limE a=0∧limE b=0) ?_ ?_
 ·refine sR 200 ?_
  refine OkS.block ?_;refine OkS.loopF (α:=Nat × Nat) (fun q=>⟨[(1,i64 (k:Int)),(2,preD p),(7,str (sb a)),(8,str (sb b)),(26,.sl true 1 [str (sb a),str (sb b)]),(27,i64 2),(28,i64 (q.1:Int))],[],q.2⟩) (fun q=>2 - q.1) (fun q F'=>F'=F∧q.1≤2∧∀ j,j<q.1→limE (lv [a,b] j)=0) (0,_) ⟨rfl,Nat.zero_le _,fun j hj=>absurd hj (Nat.not_lt_zero j)⟩ wkI ?_;rintro ⟨i,n⟩ F' ⟨rfl,hi,ha⟩;dsimp only at hi ha ⊢;refine sR 300 ?_;refine OkS.seq ?_;refine ifI ?_
  (refine brI (fun hlt=>?_) (fun hlt=>?_))<;>(try simp only [Bool.not_eq_true',Bool.not_eq_false'] at hlt)<;>(try simp only [hlt])
  ·have hi2:i<2:=by
    have:=of_decide_eq_true hlt
    omega
   have hm:[str (sb a),str (sb b)][i]? = some (str (sb (lv [a,b] i))):=lv_map (l:=[a,b]) hi2;have wi:IntKind.i64.wrap ((i:Int)+1)=((i+1:Nat):Int):=wI (by omega) (by omega);have hx:(lv [a,b] i).length≤100000:=lv_few (l:=[a,b]) hi2 (fun x hx=>by
    simp only [List.mem_cons,List.not_mem_nil,or_false] at hx;rcases hx with rfl|rfl
    ·exact f1
    ·exact f2)
   have hret:limE (lv [a,b] i)≠0→chkLim a b (preK p k)=limE (lv [a,b] i):=fun h=>by
    have hc:i=0∨i=1:=by omega
    unfold chkLim;rcases hc with rfl|rfl
    ·exact if_pos h
    ·have h0:limE a=0:=ha 0 (by omega)
     rw [if_neg (fun hh=>hh h0)];exact if_pos h
   obtain ⟨x,ex⟩:∃ x,lv [a,b] i=x:=⟨_,rfl⟩
   have hnext:limE x=0→∀ j,j<i+1→limE (lv [a,b] j)=0:=fun h j hj=>by
    rcases Nat.lt_or_ge j i with h2|h2
    ·exact ha j h2
    ·have:j=i:=by omega
     rw [this,ex];exact h
   rw [ex] at hm hx hret;have c1:=check_ok x hx;have e1:=strEq_nil x;refine skI ?_;refine OkS.seq ?_;refine OkS.block ?_;refine sZ 400 ?_;refine gwI kN ?_;refine ixI kT hm ?_;refine gwI kN ?_
   by_cases g0:x=[]
   ·have l0:limE x=0:=by unfold limE;rw [if_pos g0]
    rw [decide_eq_true g0] at e1;refine sZ 500 ?_;refine nwI (ff2 e1 kT) ?_;refine ifI ?_;refine skI ?_;refine OkS.reg w1 900 (by kernel_rfl) ?_;refine nwI wi ?_;exact ⟨(i+1,_),⟨trivial,hi2,hnext l0⟩,by dsimp only;omega,wkI⟩
   ·have l0:limE x=chk x:=by unfold limE;rw [if_neg g0]
    rw [decide_eq_false g0] at e1;refine sZ 500 ?_;refine nwI (ff2 e1 kF) ?_;refine ifI ?_;refine sR 600 ?_;refine cI c1 ?_
    by_cases g:chk x=0
    ·have e5:(((chk x:Nat):Int) != 0)=false:=by rw [g];rfl
     refine sZ 700 ?_;refine nwI e5 ?_;refine ifI ?_;refine skI ?_;refine OkS.reg w1 900 (by kernel_rfl) ?_;refine nwI wi ?_;exact ⟨(i+1,_),⟨trivial,hi2,hnext (by rw [l0];exact g)⟩,by dsimp only;omega,wkI⟩
    ·have e5:(((chk x:Nat):Int) != 0)=true:=bne_int (by omega)
     refine sZ 700 ?_;refine nwI e5 ?_;refine ifI ?_;refine sR 800 ?_;refine rtI ?_;exact exact_res (by rw [hret (by rw [l0];exact g),l0]) IsPure.out
  ·have hi2:i=2:=by
    have:=of_decide_eq_false hlt
    omega
   subst hi2;refine exI ?_;exact ⟨rfl,_,⟨ha 0 (by omega),ha 1 (by omega)⟩,wkI⟩
 rintro n0 ⟨la,lb⟩;have ra:=read_g a f1 la;have rb:=read_g b f2 lb;obtain ⟨qa,hqa⟩:∃ q,decide (a=[])=q:=⟨_,rfl⟩
 obtain ⟨qb,hqb⟩:∃ q,decide (b=[])=q:=⟨_,rfl⟩
 dsimp only [limL] at ra rb;rw [hqa] at ra;rw [hqb] at rb;refine sR 1000 ?_;refine cI ra ?_;refine cI rb ?_;refine OkS.seqX (α:=Nat × Nat) (fun q=>⟨[(1,i64 (k:Int)),(2,preD p),(12,.optr 1005 q.1 10 0 0)],[⟨1005,q.1,140,10,[.agg (limsQ qa qb a b)]⟩],q.2⟩) (fun _=>¬ (a≠[]∧b≠[]∧cmpQ (ratOf a) (ratOf b)>0)) ?_ ?_
 ·cases qa
  rotate_left
  ·refine sZ 1100 ?_
   refine nwI kB ?_;refine gwI kB ?_;refine gwI kB ?_;refine ifI ?_;refine skI ?_;exact ⟨rfl,(_,_),fun h=>h.1 (of_decide_eq_true hqa),wkI⟩
  have ga:=of_decide_eq_false hqa;cases qb
  rotate_left
  ·refine sZ 1100 ?_
   refine nwI kB ?_;refine gwI kB ?_;refine gwI kB ?_;refine ifI ?_;refine skI ?_;exact ⟨rfl,(_,_),fun h=>h.2.1 (of_decide_eq_true hqb),wkI⟩
  have gb:=of_decide_eq_false hqb;have cc:=limcmp la lb ga gb;refine sZ 1100 ?_;refine nwI kB ?_;refine gwI kB ?_;refine gwI kB ?_;refine gcI kB ?_;refine CallO.same _ cc inferInstance ?_;refine gwI kB ?_
  by_cases g3:cmpQ (ratOf a) (ratOf b)>0
  ·rw [decide_eq_true g3]
   refine ifI ?_;refine sR 1200 ?_;refine rtI ?_;refine exact_res ?_ IsPure.out;unfold chkLim;rw [if_neg (fun h=>h la),if_neg (fun h=>h lb),if_pos ⟨ga,gb,g3⟩];rfl
  ·rw [decide_eq_false g3]
   refine ifI ?_;refine skI ?_;exact ⟨rfl,(_,_),fun h=>g3 h.2.2,wkI⟩
 rintro ⟨h0,n1⟩ hcmp;have hck:chkLim a b (preK p k)=match preK p k with|none=>0|some (c,d)=>if ordOk a b c d then 0 else 11:=by
  unfold chkLim;rw [if_neg (fun h=>h la),if_neg (fun h=>h lb),if_neg hcmp]
  all_goals (cases preK p k<;>rfl)
 rw [hck];cases p with
 | none =>
  dsimp only [preD,preK,Option.map];refine OkS.seq ?_;refine sR 1300 ?_;refine ifI ?_;refine sR 1400 ?_;refine rtI ?_;exact exact_res rfl IsPure.out
 | some y =>
  obtain ⟨yf,y1,y2,lc,ld⟩:=hp y rfl;have m3:=lv_map y1;have m4:=lv_map y2;have f3:=lv_few y1 yf.2.2.2.1;have f4:=lv_few y2 yf.2.2.2.2;dsimp only [preD,preK,Option.map];obtain ⟨c,ec⟩:∃ c,lv y.least k=c:=⟨_,rfl⟩
  obtain ⟨d,ed⟩:∃ d,lv y.most k=d:=⟨_,rfl⟩
  rw [ec] at m3 f3 lc ⊢;rw [ed] at m4 f4 ld ⊢;have rc:=read_g c f3 lc;have rd:=read_g d f4 ld;obtain ⟨qc,hqc⟩:∃ q,decide (c=[])=q:=⟨_,rfl⟩
  obtain ⟨qd,hqd⟩:∃ q,decide (d=[])=q:=⟨_,rfl⟩
  have hord:ordOk a b c d=((qa||(!qc && !decide (cmpQ (ratOf a) (ratOf c)>0)))&&(qb||(!qd && !decide (cmpQ (ratOf b) (ratOf d)<0)))):=by
   unfold ordOk;rw [hqa,hqb,hqc,hqd,cmp_gt (ratOf a) (ratOf c),cmp_le (ratOf b) (ratOf d)]
  dsimp only [limL] at rc rd;rw [hqc] at rc;rw [hqd] at rd;unfold GraT.D;refine OkS.seq ?_;refine sR 1300 ?_;refine ifI ?_;refine skI ?_;refine OkS.seq ?_;refine OkS.regD w1 1500 [0,1,2,3,4,5,6,7,8,9,10,11,12,13,14,15,16,17] [18] (by kernel_rfl) ?_;refine gwI kN ?_;refine ixI kT m3 ?_;refine gwI kN ?_;refine CallW.same _ rc inferInstance ?_;refine gwI kN ?_;refine ixI kT m4 ?_;refine gwI kN ?_;refine CallW.same _ rd inferInstance ?_;refine gwI kN ?_;refine OkS.seq ?_;cases qa
  rotate_left
  ·skip
   cases qb
   rotate_left
   ·refine sZ 1600 ?_
    refine nwI kB ?_;refine gwI kB ?_;refine gwI kB ?_;refine ifI ?_;refine skI ?_;refine sR 1800 ?_;refine rtI ?_;exact exact_res (by rw [hord];simp []) IsPure.out
   have gb:=of_decide_eq_false hqb;cases qd
   rotate_left
   ·refine sZ 1600 ?_
    refine nwI kB ?_;refine gwI kB ?_;refine gwI kB ?_;refine gwI kB ?_;refine ifI ?_;refine sR 1700 ?_;refine rtI ?_;exact exact_res (by rw [hord];simp []) IsPure.out
   have gd:=of_decide_eq_false hqd;have cc2:=limcmp lb ld gb gd;refine sZ 1600 ?_;refine nwI kB ?_;refine gwI kB ?_;refine gwI kB ?_;refine gwI kB ?_;refine gcI kB ?_;refine CallO.same _ cc2 inferInstance ?_;refine gwI kB ?_;refine gwI kB ?_
   by_cases g4:cmpQ (ratOf b) (ratOf d)<0
   ·rw [decide_eq_true g4]
    refine ifI ?_;refine sR 1700 ?_;refine rtI ?_;exact exact_res (by rw [hord];simp [g4]) IsPure.out
   ·rw [decide_eq_false g4]
    refine ifI ?_;refine skI ?_;refine sR 1800 ?_;refine rtI ?_;exact exact_res (by rw [hord];simp [g4]) IsPure.out
  have ga:=of_decide_eq_false hqa;cases qc
  rotate_left
  ·refine sZ 1600 ?_
   refine nwI kB ?_;refine gwI kB ?_;refine gwI kB ?_;refine ifI ?_;refine sR 1700 ?_;refine rtI ?_;exact exact_res (by rw [hord];simp) IsPure.out
  have gc:=of_decide_eq_false hqc;have cc:=limcmp la lc ga gc;refine sZ 1600 ?_;refine nwI kB ?_;refine gwI kB ?_;refine gwI kB ?_;refine gcI kB ?_;refine CallO.same _ cc inferInstance ?_;refine gwI kB ?_
  by_cases g3:cmpQ (ratOf a) (ratOf c)>0
  ·rw [decide_eq_true g3]
   refine gwI kB ?_;refine gwI kB ?_;refine ifI ?_;refine sR 1700 ?_;refine rtI ?_;exact exact_res (by rw [hord];simp [g3]) IsPure.out
  ·rw [decide_eq_false g3]
   cases qb
   rotate_left
   ·skip
    refine gwI kB ?_;refine gwI kB ?_;refine ifI ?_;refine skI ?_;refine sR 1800 ?_;refine rtI ?_;exact exact_res (by rw [hord];simp [g3]) IsPure.out
   have gb:=of_decide_eq_false hqb;cases qd
   rotate_left
   ·skip
    refine gwI kB ?_;refine gwI kB ?_;refine gwI kB ?_;refine ifI ?_;refine sR 1700 ?_;refine rtI ?_;exact exact_res (by rw [hord];simp [g3]) IsPure.out
   have gd:=of_decide_eq_false hqd;have cc2:=limcmp lb ld gb gd;refine gwI kB ?_;refine gwI kB ?_;refine gwI kB ?_;refine gcI kB ?_;refine CallO.same _ cc2 inferInstance ?_;refine gwI kB ?_;refine gwI kB ?_
   by_cases g4:cmpQ (ratOf b) (ratOf d)<0
   ·rw [decide_eq_true g4]
    refine ifI ?_;refine sR 1700 ?_;refine rtI ?_;exact exact_res (by rw [hord];simp [g3,g4]) IsPure.out
   ·rw [decide_eq_false g4]
    refine ifI ?_;refine skI ?_;refine sR 1800 ?_;refine rtI ?_;exact exact_res (by rw [hord];simp [g3,g4]) IsPure.out
end Go.Ide
namespace Go.Ide
open Go.Proofs Go.RowKit
set_option maxRecDepth 20000
set_option maxHeartbeats 4000000
theorem any_sameG (l:List GraT)(g:GraT):l.any (sameG g)=l.any (fun x=>decide (x.name=g.name)):=rfl
def prevG (gs:List GraT)(i:Nat):Option GraT:=if i=0 then none else some (gs.getD (i - 1) default)
theorem prev_before (gs:List GraT)(i k:Nat):preK (prevG gs i) k=before gs i k:=by
 unfold preK prevG before
 by_cases h:i=0
 ·rw [if_pos h,if_pos h];rfl
 ·rw [if_neg h,if_neg h];rfl
theorem pgrade (s:SchT)(i:Nat)(hs:s.few)(hi:i<s.gs.length)(hp:0<i→gOk s.fs.length (s.gs.getD (i - 1) default)) :
  ICalls C0 241 [s.D,i64 (i:Int)] (i64 (chkGrade s.fs.length s.gs i)):=by
 refine ICallP.walk w1 fok241 rfl fun F=>?_
 have hm:=gv_map hi;have hgf:=hs.2.2.2 _ (List.mem_of_getElem? (gv_some hi));have hmp:0<i→(s.gs.map GraT.D)[i - 1]? = some (s.gs.getD (i - 1) default).D:=fun h=>by
  rw [List.getElem?_map,gv_some (by omega)];rfl
 have hpf:0<i→(s.gs.getD (i - 1) default).few:=fun h=>hs.2.2.2 _ (List.mem_of_getElem? (gv_some (by omega)))
 have hpre:∀ k,preK (prevG s.gs i) k=before s.gs i k:=prev_before s.gs i;have hprev:∀ y,prevG s.gs i=some y→y=s.gs.getD (i - 1) default∧0<i:=fun y h=>by
  unfold prevG at h
  by_cases h0:i=0
  ·rw [if_pos h0] at h;cases h
  ·rw [if_neg h0] at h;cases h;exact ⟨rfl,by omega⟩
 have el1:(((s.fs.map FacT.D).length:Nat):Int)=(s.fs.length:Int):=by rw [List.length_map]
 have ls:=hs.1;have lg:=hs.2.1;have hcg:∀ g,s.gs.getD i default=g→chkGrade s.fs.length s.gs i=if isNameL g.name then
  (if (s.gs.take i).any (fun x=>decide (x.name=g.name)) then 9
  else if g.least.length=s.fs.length∧g.most.length=s.fs.length then fstE (fun k=>chkLim (lv g.least k) (lv g.most k) (before s.gs i k)) s.fs.length
  else 2)
 else 8:=fun g h=>by unfold chkGrade;rw [h]
 obtain ⟨g,hg⟩:∃ g,s.gs.getD i default=g:=⟨_,rfl⟩
 rw [hcg g hg];rw [hg] at hm hgf;have cn:ICalls C0 170 [str (sb g.name)] (boo (isNameL g.name)):=isName_ok (sb g.name);have ca:ICalls C0 272 [.sl false 3 ((s.gs.map GraT.D).take i),.clo (.func 273) [] [.pptr g.D]] (boo ((s.gs.take i).any (sameG g))):=by
  have:=hasG (s.gs.take i) g (by rw [List.length_take];omega)
  rw [List.map_take] at this;exact this
 rw [any_sameG] at ca;obtain ⟨n,hn⟩:∃ n,s.fs.length=n:=⟨_,rfl⟩
 rw [hn] at el1 hp ls ⊢;obtain ⟨fsD,hfsD⟩:∃ x,s.fs.map FacT.D=x:=⟨_,rfl⟩
 obtain ⟨gsD,hgsD⟩:∃ x,s.gs.map GraT.D=x:=⟨_,rfl⟩
 have pf:IsPure (.sl false 4 fsD):=by rw [← hfsD];exact inferInstance
 have pg:IsPure (.sl false 3 gsD):=by rw [← hgsD];exact inferInstance
 have pgt:IsPure (.sl false 3 (gsD.take i)):=by
  rw [← hgsD,← List.map_take];exact inferInstance
 have gl:gsD.length=s.gs.length:=by rw [← hgsD,List.length_map]
 unfold SchT.D;rw [hfsD,hgsD];rw [hfsD] at el1;rw [hgsD] at hm hmp ca;unfold GraT.D at ca;refine sR 0 ?_;refine sZ 100 ?_;refine gwI kN ?_;refine ixI kT hm ?_;refine gwI kN ?_;refine OkS.seq ?_;refine sR 200 ?_;refine cI cn ?_;cases hnm:isNameL g.name
 ·rw [if_neg (by decide)]
  refine ifI ?_;refine sR 300 ?_;refine rtI ?_;exact exact_res rfl IsPure.out
 rw [if_pos rfl];refine ifI ?_;refine skI ?_;refine OkS.seq ?_;refine sZ 400 ?_;refine gwI kN ?_;simp only [Nat.sub_zero,List.drop_zero];refine CallO.own _ (ICallH.lendS ca rfl (fzS2 (FzS.refl _ _) (.clo1 (.ptr rfl rfl rfl rfl))) inferInstance (.prim _)) ?_;rintro d H2 n2 ⟨rfl,rfl,rfl⟩;refine stI ?_;cases hany:(s.gs.take i).any (fun x=>decide (x.name=g.name))
 rotate_left
 ·rw [if_pos rfl]
  refine ifI ?_;refine sR 500 ?_;refine rtI ?_;exact exact_res rfl IsPure.out
 rw [if_neg (by decide)];refine ifI ?_;refine skI ?_;have el2:(((g.least.map fun l=>str (sb l)).length:Nat):Int)=(g.least.length:Int):=by rw [List.length_map]
 have el3:(((g.most.map fun l=>str (sb l)).length:Nat):Int)=(g.most.length:Int):=by rw [List.length_map]
 by_cases h1:g.least.length=n
 rotate_left
 ·have e3:(((g.least.length:Nat):Int) != ((n:Nat):Int))=true:=by
   have:(((g.least.length:Nat):Int)==((n:Nat):Int))=false:=beq_eq_false_iff_ne.2 (by omega)
   unfold bne;rw [this];rfl
  rw [if_neg (fun h=>h1 h.1)];refine OkS.seq ?_;refine sZ 600 ?_;refine nwI (ff5 el1 el2 e3 kT kF) ?_;refine gwI kB ?_;refine ifI ?_;refine sR 700 ?_;refine rtI ?_;exact exact_res rfl IsPure.out
 have e3:(((g.least.length:Nat):Int) != ((n:Nat):Int))=false:=by rw [h1];simp
 by_cases h2:g.most.length=n
 rotate_left
 ·have e4:(((g.most.length:Nat):Int) != ((n:Nat):Int))=true:=by
   have:(((g.most.length:Nat):Int)==((n:Nat):Int))=false:=beq_eq_false_iff_ne.2 (by omega)
   unfold bne;rw [this];rfl
  rw [if_neg (fun h=>h2 h.2)];refine OkS.seq ?_;refine sZ 600 ?_;refine nwI (ff5 el1 el2 e3 kT kF) ?_;refine gwI kB ?_;simp only [el1,el3,e4];refine ifI ?_;refine sR 700 ?_;refine rtI ?_;exact exact_res rfl IsPure.out
 have e4:(((g.most.length:Nat):Int) != ((n:Nat):Int))=false:=by rw [h2];simp
 rw [if_pos ⟨h1,h2⟩];refine OkS.seq ?_;refine sZ 600 ?_;refine nwI (ff5 el1 el2 e3 kT kF) ?_;refine gwI kB ?_;simp only [el1,el3,e4];refine ifI ?_;refine skI ?_;refine sR 800 ?_;obtain ⟨P,hP⟩:∃ P,preD (prevG s.gs i)=P:=⟨_,rfl⟩
 have pP:IsPure P:=by rw [← hP];exact inferInstance
 refine OkS.seqX (α:=Nat) (fun m=>⟨[(2,.optr 0 0 2 0 0),(5,.optr 105 7 3 0 0),(6,P)],[⟨105,7,56,3,[.agg [str (sb g.name),.sl false 1 (g.least.map fun l=>str (sb l)),.sl false 1 (g.most.map fun l=>str (sb l))]]⟩,⟨0,0,39,2,[.agg [.sl false 4 fsD,.sl false 3 gsD]]⟩],m⟩) (fun _=>True) ?_ ?_
 ·by_cases h0:i=0
  ·have e5:decide ((i:Int)>0)=false:=decide_eq_false (by omega)
   have:P=.prim (.pointer none):=by rw [← hP];unfold prevG;rw [if_pos h0];rfl
   subst this;refine sZ 900 ?_;refine nwI e5 ?_;refine ifI ?_;refine skI ?_;exact ⟨rfl,_,trivial,wkI⟩
  ·have e5:decide ((i:Int)>0)=true:=decide_eq_true (by omega)
   have:P=.pptr (s.gs.getD (i - 1) default).D:=by rw [← hP];unfold prevG;rw [if_neg h0];rfl
   subst this;have ws:IntKind.i64.wrap ((i:Int) - 1)=((i - 1:Nat):Int):=by
    rw [show (i:Int) - 1=((i - 1:Nat):Int) by omega];exact wI (by omega) (by omega)
   have hm1:=hmp (by omega);refine sZ 900 ?_;refine nwI e5 ?_;refine ifI ?_;refine OkS.reg w1 1000 (by kernel_rfl) ?_;refine gwI (ff2 ws kN) ?_
   try simp only [ws]
   refine ixI kT hm1 ?_;refine gwI (ff2 ws kN) ?_;exact ⟨trivial,_,trivial,wkI⟩
 rintro n3 -;refine OkS.seq ?_;refine sZ 1100 ?_;refine nwI el1 ?_;refine OkS.block ?_;refine OkS.loop (α:=Nat × Nat) (fun q=>⟨[(5,.optr 105 7 3 0 0),(6,P),(49,i64 (n:Int)),(50,i64 (q.1:Int))],[⟨105,7,56,3,[.agg [str (sb g.name),.sl false 1 (g.least.map fun l=>str (sb l)),.sl false 1 (g.most.map fun l=>str (sb l))]]⟩],q.2⟩) (fun q=>n - q.1) (fun q=>q.1≤n∧∀ j,j<q.1→chkLim (lv g.least j) (lv g.most j) (before s.gs i j)=0) (0,_) ⟨Nat.zero_le _,fun j hj=>absurd hj (Nat.not_lt_zero j)⟩ wkI ?_;rintro ⟨k,m⟩ F ⟨hk,ha⟩;dsimp only at hk ha ⊢;refine sR 1200 ?_;refine OkS.seq ?_;refine ifI ?_
 (refine brI (fun hlt=>?_) (fun hlt=>?_))<;>(try simp only [Bool.not_eq_true',Bool.not_eq_false'] at hlt)<;>(try simp only [hlt])
 ·have hk2:k<n:=by
   have:=of_decide_eq_true hlt
   omega
  have wi:IntKind.i64.wrap ((k:Int)+1)=((k+1:Nat):Int):=wI (by omega) (by omega);have cl:=lims_ok g k (prevG s.gs i) hgf (by omega) (by omega) (fun y hy=>by
   obtain ⟨rfl,hi0⟩:=hprev y hy;obtain ⟨q1,q2,q3⟩:=hp hi0
   have:=q3 k hk2
   exact ⟨hpf hi0,by omega,by omega,this.1,this.2⟩)
  rw [hP,hpre k] at cl;unfold GraT.D at cl;obtain ⟨c,hc⟩:∃ c,chkLim (lv g.least k) (lv g.most k) (before s.gs i k)=c:=⟨_,rfl⟩
  rw [hc] at cl;refine skI ?_;refine OkS.seq ?_;refine OkS.block ?_;refine sR 1300 ?_;refine sR 1400 ?_;refine cI cl ?_
  by_cases g1:c=0
  ·have e5:(((c:Nat):Int) != 0)=false:=by rw [g1];rfl
   refine sZ 1500 ?_;refine nwI e5 ?_;refine ifI ?_;refine skI ?_;refine OkS.reg w1 1700 (by kernel_rfl) ?_;refine nwI wi ?_;refine ⟨(k+1,_),⟨hk2,fun j hj=>?_⟩,by dsimp only;omega,wkI⟩;rcases Nat.lt_or_ge j k with h|h
   ·exact ha j h
   ·have:j=k:=by dsimp only at hj;omega
    rw [this,hc];exact g1
  ·have e5:(((c:Nat):Int) != 0)=true:=bne_int (by omega)
   refine sZ 1500 ?_;refine nwI e5 ?_;refine ifI ?_;refine sR 1600 ?_;refine rtI ?_;refine exact_res ?_ IsPure.out;rw [fstE_at (f:=fun k=>chkLim (lv g.least k) (lv g.most k) (before s.gs i k)) ha hk2 (by show chkLim (lv g.least k) (lv g.most k) (before s.gs i k)≠0;rw [hc];exact g1)]
   try dsimp only
   rw [hc]
 ·have hk2:k=n:=by
   have:=of_decide_eq_false hlt
   omega
  subst hk2;refine exI ?_;refine sR 1800 ?_;refine rtI ?_;exact exact_res (by rw [fstE_zero ha];rfl) IsPure.out
end Go.Ide
namespace Go.Ide
open Go.Proofs Go.RowKit
set_option maxRecDepth 20000
set_option maxHeartbeats 4000000
def VisN (N:Hp):Prop:=N=[]∨∃ g es,N=[⟨303,g,96,4,es⟩]
def VisO (e:Int)(Ha Hb:Hp)(j:Option Code)(H':Hp):Prop:=(e=0→j=none∧H'=Ha)∧(e≠0→j=some .ret∧H'=Hb)
theorem cntF_first (n:Nat):firstE [if ((n:Int)==0) then 2 else 0,if decide ((n:Int)>8) then 5 else 0]=((cntF n:Nat):Int):=by
 unfold cntF
 by_cases h:n=0
 ·subst h;decide
 ·have e1:((n:Int)==0)=false:=beq_eq_false_iff_ne.2 (by omega)
  rw [e1,if_neg h]
  by_cases h2:n>8
  ·have e2:decide ((n:Int)>8)=true:=decide_eq_true (by omega)
   rw [e2,if_pos h2];rfl
  ·have e2:decide ((n:Int)>8)=false:=decide_eq_false (by omega)
   rw [e2,if_neg h2];rfl
theorem cntG_first (n:Nat):firstE [if ((n:Int)==0) then 2 else 0,if decide ((n:Int)>16) then 5 else 0]=((cntG n:Nat):Int):=by
 unfold cntG
 by_cases h:n=0
 ·subst h;decide
 ·have e1:((n:Int)==0)=false:=beq_eq_false_iff_ne.2 (by omega)
  rw [e1,if_neg h]
  by_cases h2:n>16
  ·have e2:decide ((n:Int)>16)=true:=decide_eq_true (by omega)
   rw [e2,if_pos h2];rfl
  ·have e2:decide ((n:Int)>16)=false:=decide_eq_false (by omega)
   rw [e2,if_neg h2];rfl
theorem chkFac_first (fs:List FacT)(i:Nat):firstE [(chkFactor (fs.getD i default):Int),if (fs.take i).any (sameF (fs.getD i default)) then 9 else 0]=((chkFac fs i:Nat):Int):=by
 unfold chkFac
 have:(fs.take i).any (sameF (fs.getD i default))=(fs.take i).any (fun x=>decide (x.name=(fs.getD i default).name)):=rfl
 rw [this]
 by_cases h:chkFactor (fs.getD i default)=0
 ·rw [h]
  cases (fs.take i).any (fun x=>decide (x.name=(fs.getD i default).name))<;>simp [firstE]
 ·rw [if_pos h]
  show (if (chkFactor (fs.getD i default):Int)≠0 then _ else _)=_;rw [if_pos (by omega)]
theorem iter_g {E:Since}{l:Nat}{R:LR}(hE:Since.ok E)(s:SchT)(hs:s.few)(H0:Hp)(H1:Int→Hp)(n0:Nat)
  (hY:∀ (e:Int) (N:Hp) (n:Nat),VisN N→IYield C0 E l R [i64 e] (N++H0) n (fun j H' n'=>VisO e (N++H0) (N++H1 e) j H')) :
  ICallX C0 E 238 [.clo (.yield l) [] [],.pptr s.D] l R H0 n0 (fun j d H' n'=>VisO (chkScheme s:Int) H0 (H1 (chkScheme s:Int)) j H'):=by
 refine ICallX.walk w1 hE fok238 rfl fun B F hR=>?_
 have hsc:chkScheme s=if cntF s.fs.length≠0 then cntF s.fs.length
  else if fstE (chkFac s.fs) s.fs.length≠0 then fstE (chkFac s.fs) s.fs.length
  else if cntG s.gs.length≠0 then cntG s.gs.length
  else fstE (chkGrade s.fs.length s.gs) s.gs.length:=rfl
 have hpg:∀ i,i<s.gs.length→(∀ j,j<i→chkGrade s.fs.length s.gs j=0)→ICalls C0 241 [s.D,i64 (i:Int)] (i64 (chkGrade s.fs.length s.gs i)):=fun i hi ha=>pgrade s i hs hi (fun h=>chkGrade_ok (ha (i - 1) (by omega)))
 have fl:(s.fs.map FacT.D).length=s.fs.length:=List.length_map _;have gl:(s.gs.map GraT.D).length=s.gs.length:=List.length_map _;have ls:=hs.1;have lg:=hs.2.1;have hmf:∀ i,i<s.fs.length→(s.fs.map FacT.D)[((i:Nat):Int).toNat]? = some (.agg [str (sb (s.fs.getD i default).name),str (sb (s.fs.getD i default).tol),str (sb (s.fs.getD i default).kind),str (sb (s.fs.getD i default).step)]):=fun i hi=>by
  rw [Int.toNat_natCast];exact fv_map hi
 have hcf:∀ i,i<s.fs.length→ICalls C0 103 [.agg [str (sb (s.fs.getD i default).name),str (sb (s.fs.getD i default).tol),str (sb (s.fs.getD i default).kind),str (sb (s.fs.getD i default).step)]] (i64 (chkFactor (s.fs.getD i default))):=fun i hi=>factor_ok _ (hs.2.2.1 _ (List.mem_of_getElem? (fv_some hi)))
 have hca:∀ i,i<s.fs.length→ICalls C0 239 [.sl false 4 ((s.fs.map FacT.D).take i),.clo (.func 240) [] [.pptr (.agg [str (sb (s.fs.getD i default).name),str (sb (s.fs.getD i default).tol),str (sb (s.fs.getD i default).kind),str (sb (s.fs.getD i default).step)])]] (boo ((s.fs.take i).any (sameF (s.fs.getD i default)))):=fun i hi=>by
  have:=hasF (s.fs.take i) (s.fs.getD i default) (by rw [List.length_take];omega)
  rw [List.map_take] at this;exact this
 have hc2:∀ i,ICalls C0 96 [.sl true 1 [i64 (chkFactor (s.fs.getD i default)),i64 (if (s.fs.take i).any (sameF (s.fs.getD i default)) then 9 else 0)]] (i64 (chkFac s.fs i)):=fun i=>by
  have:=first_g [(chkFactor (s.fs.getD i default):Int),if (s.fs.take i).any (sameF (s.fs.getD i default)) then 9 else 0] (by simp)
  rw [chkFac_first] at this;exact this
 have c0:ICalls C0 96 [.sl true 1 [i64 (if (((s.fs.map FacT.D).length:Int)==0) then 2 else 0),i64 (if decide (((s.fs.map FacT.D).length:Int)>8) then 5 else 0)]] (i64 (cntF s.fs.length)):=by
  have:=first_g [if (((s.fs.map FacT.D).length:Int)==0) then 2 else 0,if decide (((s.fs.map FacT.D).length:Int)>8) then 5 else 0] (by simp)
  rw [cntF_first,fl] at this;rw [fl];exact this
 have c7:ICalls C0 96 [.sl true 1 [i64 (if (((s.gs.map GraT.D).length:Int)==0) then 2 else 0),i64 (if decide (((s.gs.map GraT.D).length:Int)>16) then 5 else 0)]] (i64 (cntG s.gs.length)):=by
  have:=first_g [if (((s.gs.map GraT.D).length:Int)==0) then 2 else 0,if decide (((s.gs.map GraT.D).length:Int)>16) then 5 else 0] (by simp)
  rw [cntG_first,gl] at this;rw [gl];exact this
 obtain ⟨v,hv⟩:∃ v,chkScheme s=v:=⟨_,rfl⟩
 rw [hv] at hsc ⊢;unfold SchT.D at hpg;unfold SchT.D;obtain ⟨fsD,hfsD⟩:∃ x,s.fs.map FacT.D=x:=⟨_,rfl⟩
 obtain ⟨gsD,hgsD⟩:∃ x,s.gs.map GraT.D=x:=⟨_,rfl⟩
 have pf:IsPure (.sl false 4 fsD):=by rw [← hfsD];exact inferInstance
 have pg:IsPure (.sl false 3 gsD):=by rw [← hgsD];exact inferInstance
 have pft:∀ i,IsPure (.sl false 4 (fsD.take i)):=fun i=>by
  rw [← hfsD,← List.map_take];exact inferInstance
 have pp:IsPure (.pptr (.agg [.sl false 4 fsD,.sl false 3 gsD])):=by
  rw [← hfsD,← hgsD];exact inferInstance
 rw [hfsD] at fl hmf hca c0 hpg ⊢;rw [hgsD] at gl c7 hpg ⊢;refine OkS.seq ?_;refine OkS.seq ?_;refine OkS.regDY w1 0 [0,1,2,3,4,5,6,7,8,9,10,11,12] [] 13 [14] (chkC_ok [(14,[13,0,12,11,10,5,4,3,2,1,9,8,7,6]),(13,[0,12,11,10,5,4,3,2,1,9,8,7,6]),(12,[11,10,5,4,3,2,1,9,8,7,6]),(11,[5,10,4,3,2,1,9,8,7,6]),(10,[9,5,8,7,6,4,3,2,1]),(9,[8,7,6]),(8,[7,6]),(7,[6]),(6,[]),(5,[4,3,2,1]),(4,[3,2,1]),(3,[2,1]),(2,[1]),(1,[]),(0,[])] (by kernel_rfl)) hR ?_;refine nxI ?_;refine CallW.same _ (when_ok _ 2) inferInstance ?_;refine nxI ?_;refine CallW.same _ (when_ok _ 5) inferInstance ?_;refine nxI ?_;refine CallW.same _ (c0) inferInstance ?_;refine nxI ?_;refine ⟨rfl,_,hY _ [] _ (.inl rfl),?_,?_⟩
 rotate_left
 ·rintro c H' n1 hO F2 hst
  have hne:((cntF s.fs.length:Nat):Int)≠0:=fun h=>by have:=(hO.1 h).1;cases this
  obtain ⟨hc,rfl⟩:=hO.2 hne;cases hc;have hv2:v=cntF s.fs.length:=by rw [hsc,if_pos (by omega)]
  rw [← hv2] at hne ⊢;refine nxI ?_;refine ifI ?_;refine OkS.weak ⟨[],H1 ((v:Nat):Int),_⟩ wkI ?_;refine OkS.ret ?_;exact ⟨_,hst,trivial,⟨fun h=>absurd h hne,fun _=>⟨rfl,rfl⟩⟩⟩
 rintro H' n1 hO;have hz:cntF s.fs.length=0:=Classical.byContradiction fun h=>by have:=(hO.2 (by omega)).1;cases this
 obtain ⟨_,hh⟩:=hO.1 (by omega);rw [hh];rw [if_neg (fun h=>h hz)] at hsc;dsimp only [List.nil_append];refine nxI ?_;refine ifI ?_;refine skI ?_;refine OkS.seq ?_;refine fR 100 ?_;refine OkS.block ?_;rw [fl];refine OkS.loopF (α:=Nat × Nat) (fun p=>⟨[(0,.clo (.yield l) [] []),(1,.pptr (.agg [.sl false 4 fsD,.sl false 3 gsD])),(23,.sl false 4 fsD),(24,i64 (s.fs.length:Int)),(25,i64 (p.1:Int))],H0,p.2⟩) (fun p=>s.fs.length - p.1)
  (fun p F=>Ready C0 E B F l R∧p.1≤s.fs.length∧∀ j,j<p.1→chkFac s.fs j=0) (0,_) ⟨hR,Nat.zero_le _,fun j hj=>absurd hj (Nat.not_lt_zero j)⟩ wkI ?_
 clear hR;rintro ⟨i,m⟩ F ⟨hR,hi,ha⟩;dsimp only at hi hR ha ⊢;refine fR 200 ?_;refine OkS.seq ?_;refine ifI ?_
 (refine brI (fun hlt=>?_) (fun hlt=>?_))<;>(try simp only [Bool.not_eq_true',Bool.not_eq_false'] at hlt)<;>(try simp only [hlt])
 ·have hi2:i<s.fs.length:=by
   have:=of_decide_eq_true hlt
   omega
  have hi3:i<fsD.length:=by omega
  have hm:=hmf i hi2;have cf:=hcf i hi2;have ca:=hca i hi2;have c2:=hc2 i;obtain ⟨e,he⟩:∃ e,chkFac s.fs i=e:=⟨_,rfl⟩
  rw [he] at c2;have hve:e≠0→v=e:=fun h=>by
   have:=fstE_at (f:=chkFac s.fs) ha hi2 (by rw [he];exact h)
   rw [he] at this;rw [this,if_pos h] at hsc;exact hsc
  have wi:IntKind.i64.wrap ((i:Int)+1)=((i+1:Nat):Int):=wI (by omega) (by omega);refine skI ?_;refine OkS.seq ?_;refine OkS.block ?_;refine fR 300 ?_;refine ⟨⟨rfl,by omega⟩,_,hm,?_⟩;refine dsI ?_
  try dsimp only [D.cells,spot]
  refine nxI ?_;refine fR 400 ?_;simp only [Int.toNat_natCast,Nat.sub_zero,List.drop_zero];refine CallO.own _ (ICallH.lendS ca rfl (fzS2 (FzS.refl _ _) (.clo1 (.ptr rfl rfl rfl rfl))) inferInstance (.prim _)) ?_;rintro d H2 n2 ⟨rfl,rfl,rfl⟩;refine nxI ?_;refine OkS.seq ?_;refine OkS.regY w1 500 [0,1,2,3,4,5,6] 7 [8] rfl (by kernel_rfl) hR ?_;refine nxI ?_;refine CallO.same _ cf inferInstance ?_;refine nxI ?_;refine dI (when_ok _ 9) ?_;refine dI c2 ?_;refine ⟨rfl,_,hY _ [_] _ (.inr ⟨_,_,rfl⟩),?_,?_⟩
  rotate_left
  ·rintro c H' n1 hO F2 hst
   have hne:((e:Nat):Int)≠0:=fun h=>by have:=(hO.1 h).1;cases this
   obtain ⟨hc,rfl⟩:=hO.2 hne;cases hc;have hv2:v=e:=hve (by omega);subst hv2;refine nxI ?_;refine ifI ?_;refine OkS.weak ⟨[],H1 ((v:Nat):Int),_⟩ wkI ?_;refine OkS.ret ?_;exact ⟨_,hst,trivial,⟨fun h=>absurd h hne,fun _=>⟨rfl,rfl⟩⟩⟩
  rintro H' n1 hO;have hz:e=0:=Classical.byContradiction fun h=>by have:=(hO.2 (by omega)).1;cases this
  obtain ⟨_,hh⟩:=hO.1 (by omega);rw [hh];refine nxI ?_;refine ifI ?_;refine skI ?_;refine OkS.reg w1 600 (by kernel_rfl) ?_;refine mwI wi ?_;refine ⟨(i+1,_),⟨hR,hi2,fun j hj=>?_⟩,(by dsimp only;omega),wkI⟩;rcases Nat.lt_or_ge j i with h|h
  ·exact ha j h
  ·have:j=i:=by dsimp only at hj;omega
   rw [this,he];exact hz
 have hi2:i=s.fs.length:=by
  have:=of_decide_eq_false hlt
  omega
 subst hi2;rw [fstE_zero ha,if_neg (by decide)] at hsc;refine exI ?_;refine OkS.seq ?_;refine OkS.seq ?_;refine OkS.regDY w1 700 [0,1,2,3,4,5,6,7,8,9,10,11,12] [] 13 [14] (chkC_ok [(14,[13,0,12,11,10,5,4,3,2,1,9,8,7,6]),(13,[0,12,11,10,5,4,3,2,1,9,8,7,6]),(12,[11,10,5,4,3,2,1,9,8,7,6]),(11,[5,10,4,3,2,1,9,8,7,6]),(10,[9,5,8,7,6,4,3,2,1]),(9,[8,7,6]),(8,[7,6]),(7,[6]),(6,[]),(5,[4,3,2,1]),(4,[3,2,1]),(3,[2,1]),(2,[1]),(1,[]),(0,[])] (by kernel_rfl)) hR ?_;refine nxI ?_;refine CallW.same _ (when_ok _ 2) inferInstance ?_;refine nxI ?_;refine CallW.same _ (when_ok _ 5) inferInstance ?_;refine nxI ?_;refine CallW.same _ (c7) inferInstance ?_;refine nxI ?_;refine ⟨rfl,_,hY _ [] _ (.inl rfl),?_,?_⟩
 rotate_left
 ·rintro c H' n1 hO F2 hst
  have hne:((cntG s.gs.length:Nat):Int)≠0:=fun h=>by have:=(hO.1 h).1;cases this
  obtain ⟨hc,rfl⟩:=hO.2 hne;cases hc;have hv2:v=cntG s.gs.length:=by rw [hsc,if_pos (by omega)]
  rw [← hv2] at hne ⊢;refine nxI ?_;refine ifI ?_;refine OkS.weak ⟨[],H1 ((v:Nat):Int),_⟩ wkI ?_;refine OkS.ret ?_;exact ⟨_,hst,trivial,⟨fun h=>absurd h hne,fun _=>⟨rfl,rfl⟩⟩⟩
 rintro H' n1 hO;have hz:cntG s.gs.length=0:=Classical.byContradiction fun h=>by have:=(hO.2 (by omega)).1;cases this
 obtain ⟨_,hh⟩:=hO.1 (by omega);rw [hh];rw [if_neg (fun h=>h hz)] at hsc;dsimp only [List.nil_append];refine nxI ?_;refine ifI ?_;refine skI ?_;refine fR 800 ?_;refine OkS.block ?_;rw [gl];refine OkS.loopF (α:=Nat × Nat) (fun p=>⟨[(0,.clo (.yield l) [] []),(1,.pptr (.agg [.sl false 4 fsD,.sl false 3 gsD])),(63,i64 (s.gs.length:Int)),(64,i64 (p.1:Int))],H0,p.2⟩) (fun p=>s.gs.length - p.1)
  (fun p F=>Ready C0 E B F l R∧p.1≤s.gs.length∧∀ j,j<p.1→chkGrade s.fs.length s.gs j=0) (0,_) ⟨hR,Nat.zero_le _,fun j hj=>absurd hj (Nat.not_lt_zero j)⟩ wkI ?_
 clear hR ha;rintro ⟨i,m⟩ F ⟨hR,hi,ha⟩;dsimp only at hi hR ha ⊢;refine fR 900 ?_;refine OkS.seq ?_;refine ifI ?_
 (refine brI (fun hlt=>?_) (fun hlt=>?_))<;>(try simp only [Bool.not_eq_true',Bool.not_eq_false'] at hlt)<;>(try simp only [hlt])
 ·have hi2:i<s.gs.length:=by
   have:=of_decide_eq_true hlt
   omega
  have cg:=hpg i hi2 ha;obtain ⟨e,he⟩:∃ e,chkGrade s.fs.length s.gs i=e:=⟨_,rfl⟩
  rw [he] at cg;have hve:e≠0→v=e:=fun h=>by
   have:=fstE_at (f:=chkGrade s.fs.length s.gs) ha hi2 (by rw [he];exact h)
   rw [he] at this;rw [this] at hsc;exact hsc
  have wi:IntKind.i64.wrap ((i:Int)+1)=((i+1:Nat):Int):=wI (by omega) (by omega);refine skI ?_;refine OkS.seq ?_;refine OkS.block ?_;refine fR 1000 ?_;refine OkS.seq ?_;refine OkS.regY w1 1100 [0,1,2,3] 4 [5] rfl (by kernel_rfl) hR ?_;refine nxI ?_;refine CallO.same _ cg inferInstance ?_;refine nxI ?_;refine ⟨rfl,_,hY _ [] _ (.inl rfl),?_,?_⟩
  rotate_left
  ·rintro c H' n1 hO F2 hst
   have hne:((e:Nat):Int)≠0:=fun h=>by have:=(hO.1 h).1;cases this
   obtain ⟨hc,rfl⟩:=hO.2 hne;cases hc;have hv2:v=e:=hve (by omega);subst hv2;refine nxI ?_;refine ifI ?_;refine OkS.weak ⟨[],H1 ((v:Nat):Int),_⟩ wkI ?_;refine OkS.ret ?_;exact ⟨_,hst,trivial,⟨fun h=>absurd h hne,fun _=>⟨rfl,rfl⟩⟩⟩
  rintro H' n1 hO;have hz:e=0:=Classical.byContradiction fun h=>by have:=(hO.2 (by omega)).1;cases this
  obtain ⟨_,hh⟩:=hO.1 (by omega);rw [hh];dsimp only [List.nil_append];refine nxI ?_;refine ifI ?_;refine skI ?_;refine OkS.reg w1 1200 (by kernel_rfl) ?_;refine mwI wi ?_;refine ⟨(i+1,_),⟨hR,hi2,fun j hj=>?_⟩,(by dsimp only;omega),wkI⟩;rcases Nat.lt_or_ge j i with h|h
  ·exact ha j h
  ·have:j=i:=by dsimp only at hj;omega
   rw [this,he];exact hz
 have hi2:i=s.gs.length:=by
  have:=of_decide_eq_false hlt
  omega
 subst hi2;rw [fstE_zero ha] at hsc;refine exI ?_;exact ⟨none,hR.stat,trivial,⟨fun _=>⟨rfl,rfl⟩,fun h=>absurd hsc (by omega)⟩⟩
end Go.Ide
namespace Go.Ide
open Go.Proofs Go.RowKit
set_option maxRecDepth 20000
set_option maxHeartbeats 4000000
theorem conds_g (s:SchT):ICalls C0 210 [s.D] (.clo (.func 238) [] [.pptr s.D]):=by
 refine ICallP.walkS w1 fok210 rfl fun F=>?_
 have hp:Pure (.clo (.func 238) [] [.pptr s.D]):=(inferInstance:IsPure (.clo (.func 238) [] [.pptr s.D])).out;unfold SchT.D at hp ⊢;refine fR 0 ?_;refine fR 100 ?_;refine rtI ?_;exact ⟨_,.clo1 (.ptr rfl rfl rfl rfl),hp,rfl⟩
abbrev cellE (e:Int):Ent:=⟨1,1,30,1,[i64 e]⟩
abbrev boxS (s:SchT):Ent:=⟨0,0,39,2,[s.D]⟩
theorem psch (s:SchT)(hs:s.few):ICalls C0 162 [s.D] (i64 (chkScheme s)):=by
 refine ICallP.walk w1 fok162 rfl fun F=>?_
 have cc:=conds_g s;have hit:=fun {E:Since} {l:Nat} {R:LR} (hE:Since.ok E) (n0:Nat)=>iter_g (E:=E) (l:=l) (R:=R) hE s hs [cellE 0,boxS s] (fun e=>[cellE e,boxS s]) n0
 obtain ⟨c,hc⟩:∃ c,chkScheme s=c:=⟨_,rfl⟩
 rw [hc];unfold boxS at hit;rw [hc] at hit;have pS:IsPure s.D:=inferInstance;have sD:∃ a b,s.D=.agg [a,b]:=⟨_,_,rfl⟩
 obtain ⟨d,hd⟩:∃ d,s.D=d:=⟨_,rfl⟩
 rw [hd] at cc hit pS sD ⊢;obtain ⟨a,b,rfl⟩:=sD;clear hd;refine sR 0 ?_;refine OkS.seq ?_;refine sR 100 ?_;refine cI cc ?_;refine OkS.block ?_;refine OkS.rangeFunc (fi:=238) (first:=[]) (captured:=[.pptr (.agg [a,b])]) (Ψ:=fun j d H' n'=>VisO (c:Int) [cellE 0,⟨0,0,39,2,[.agg [a,b]]⟩] [cellE c,⟨0,0,39,2,[.agg [a,b]]⟩] j H') rfl
  (fun ds H n Φ=>∃ e N,VisN N∧ds=[i64 e]∧H=N++[cellE 0,⟨0,0,39,2,[.agg [a,b]]⟩]∧Φ=fun j H' n'=>VisO e (N++[cellE 0,⟨0,0,39,2,[.agg [a,b]]⟩]) (N++[cellE e,⟨0,0,39,2,[.agg [a,b]]⟩]) j H') ?_
  (fun E l R hE hY=>hit hE _ (fun e N n hN=>hY _ _ _ _ ⟨e,N,hN,rfl,rfl,rfl⟩)) ?_
 ·rintro l ds H n Φ ⟨e,N,hN,rfl,rfl,rfl⟩
  refine ⟨rfl,fun F=>?_⟩;refine OkS.reg w1 200 (by kernel_rfl) ?_;refine stI ?_;refine ⟨rfl,rfl,fun F'=>?_⟩;refine OkS.block ?_
  by_cases he:e=0
  ·subst he
   refine sR 300 ?_;refine ifI ?_;refine skI ?_;exact ⟨fun _=>⟨rfl,rfl⟩,fun h=>absurd rfl h⟩
  ·have e1:(e != 0)=true:=bne_int he
   rcases hN with rfl|⟨g,es,rfl⟩
   ·dsimp only [List.nil_append]
    refine sZ 300 ?_;refine nwI e1 ?_;refine ifI ?_;refine sR 400 ?_;refine OkS.ret ?_;exact ⟨fun h=>absurd h he,fun _=>⟨rfl,rfl⟩⟩
   ·dsimp only [List.cons_append,List.nil_append]
    refine sZ 300 ?_;refine nwI e1 ?_;refine ifI ?_;refine sR 400 ?_;refine OkS.ret ?_;exact ⟨fun h=>absurd h he,fun _=>⟨rfl,rfl⟩⟩
 ·rintro j d H' n' F' hO
  by_cases h:(c:Int)=0
  ·obtain ⟨rfl,rfl⟩:=hO.1 h
   dsimp only [endW];refine sR 500 ?_;refine rtI ?_;exact exact_res (by rw [show c=0 by omega];rfl) IsPure.out
  ·obtain ⟨rfl,rfl⟩:=hO.2 h
   dsimp only [endW];refine And.intro sdI ?_;refine dsI ?_;exact exact_res rfl IsPure.out
end Go.Ide
namespace Go.Ide
open Go.Proofs Go.RowKit
set_option maxRecDepth 20000
set_option maxHeartbeats 4000000
def limE2 (a b:List UInt8):Nat:=if limE a≠0 then limE a else limE b
def limE3 (a b:List UInt8):Nat:=if limE2 a b=0∧a≠[]∧b≠[]∧cmpQ (ratOf a) (ratOf b)>0 then 3 else limE2 a b
theorem limE2_zero {a b:List UInt8}(h:limE2 a b=0):limE a=0∧limE b=0:=by
 unfold limE2 at h
 by_cases g:limE a=0
 ·rw [if_neg (fun k=>k g)] at h;exact ⟨g,h⟩
 ·rw [if_pos g] at h;exact absurd h g
theorem limE3_zero {a b:List UInt8}(h:limE3 a b=0):limE2 a b=0:=by
 unfold limE3 at h;split at h
 ·cases h
 ·exact h
theorem chkLim_ne {a b:List UInt8}{p:Option (List UInt8 × List UInt8)}(h:limE3 a b≠0):chkLim a b p=limE3 a b:=by
 unfold chkLim;unfold limE3 limE2 at h ⊢
 by_cases g:limE a=0
 ·simp only [g,ne_eq,not_true_eq_false,if_false] at h ⊢
  by_cases g2:limE b=0
  ·simp only [g2,not_true_eq_false,if_false,true_and] at h ⊢
   by_cases g3:a≠[]∧b≠[]∧cmpQ (ratOf a) (ratOf b)>0
   ·rw [if_pos g3,if_pos g3]
   ·rw [if_neg g3] at h;exact absurd rfl h
  ·simp only [g2,not_false_eq_true,if_true,false_and,if_false]
 ·simp only [g,ne_eq,not_false_eq_true,if_true,false_and,if_false]
theorem chkLim_z {a b:List UInt8}{p:Option (List UInt8 × List UInt8)}(h:limE3 a b=0):chkLim a b p=match p with
  | none=>0
  | some (c,d)=>if ordOk a b c d then 0 else 11:=by
 obtain ⟨h1,h2⟩:=limE2_zero (limE3_zero h);unfold chkLim;rw [if_neg (fun k=>k h1),if_neg (fun k=>k h2)]
 have:¬ (a≠[]∧b≠[]∧cmpQ (ratOf a) (ratOf b)>0):=fun g=>by
  unfold limE3 at h;rw [if_pos ⟨limE3_zero (by unfold limE3;exact h),g⟩] at h;cases h
 rw [if_neg this]
 all_goals (cases p<;>rfl)
theorem any_snoc {α:Type}{l:List α}{p:α→Bool}{k:Nat}{x:α}(hx:l[k]? = some x)(h:(l.take k).any p=false)(hp:p x=false):(l.take (k+1)).any p=false:=by
 rw [List.take_add_one,hx,List.any_append,h];simp [hp]
theorem rgrade (s:SchT)(i:Nat)(hs:s.few)(hi:i<s.gs.length)(hp:0<i→gOk s.fs.length (s.gs.getD (i - 1) default)) :
  ICalls C0 76 [s.D,i64 (i:Int)] (i64 (chkGrade s.fs.length s.gs i)):=by
 refine ICallP.walk w1 fok76 rfl fun F=>?_
 have hm:=gv_map hi;have hgm:∀ k,k<s.gs.length→(s.gs.map GraT.D)[k]? = some (.agg [str (sb (s.gs.getD k default).name),.sl false 1 ((s.gs.getD k default).least.map fun l=>str (sb l)),.sl false 1 ((s.gs.getD k default).most.map fun l=>str (sb l))]):=fun k hk=>gv_map hk
 have hgs:∀ k,k<s.gs.length→s.gs[k]? = some (s.gs.getD k default):=fun k hk=>gv_some hk
 have hgf:=hs.2.2.2 _ (List.mem_of_getElem? (gv_some hi));have hpf:0<i→(s.gs.getD (i - 1) default).few:=fun h=>hs.2.2.2 _ (List.mem_of_getElem? (gv_some (by omega)))
 have el1:(((s.fs.map FacT.D).length:Nat):Int)=(s.fs.length:Int):=by rw [List.length_map]
 have ls:=hs.1;have lg:=hs.2.1;have hcg:∀ g,s.gs.getD i default=g→chkGrade s.fs.length s.gs i=if isNameL g.name then
  (if (s.gs.take i).any (fun x=>decide (x.name=g.name)) then 9
  else if g.least.length=s.fs.length∧g.most.length=s.fs.length then fstE (fun k=>chkLim (lv g.least k) (lv g.most k) (before s.gs i k)) s.fs.length
  else 2)
 else 8:=fun g h=>by unfold chkGrade;rw [h]
 obtain ⟨g,hg⟩:∃ g,s.gs.getD i default=g:=⟨_,rfl⟩
 rw [hcg g hg];rw [hg] at hm hgf;have cn:ICalls C0 141 [str (sb g.name)] (boo (isNameL g.name)):=rname g.name (by have:=hgf.1;omega);obtain ⟨n,hn⟩:∃ n,s.fs.length=n:=⟨_,rfl⟩
 rw [hn] at el1 hp ls ⊢;obtain ⟨fsD,hfsD⟩:∃ x,s.fs.map FacT.D=x:=⟨_,rfl⟩
 obtain ⟨gsD,hgsD⟩:∃ x,s.gs.map GraT.D=x:=⟨_,rfl⟩
 have pf:IsPure (.sl false 4 fsD):=by rw [← hfsD];exact inferInstance
 have pg:IsPure (.sl false 3 gsD):=by rw [← hgsD];exact inferInstance
 have gl:gsD.length=s.gs.length:=by rw [← hgsD,List.length_map]
 unfold SchT.D;rw [hfsD,hgsD];rw [hfsD] at el1;rw [hgsD] at hm hgm;refine sR 0 ?_;refine sZ 100 ?_;refine gwI kN ?_;refine ixI kT hm ?_;refine gwI kN ?_;refine OkS.seq ?_;refine sR 200 ?_;refine cI cn ?_;cases hnm:isNameL g.name
 ·rw [if_neg (by decide)]
  refine ifI ?_;refine sR 300 ?_;refine rtI ?_;exact exact_res rfl IsPure.out
 rw [if_pos rfl];refine ifI ?_;refine skI ?_;refine OkS.seq ?_;refine sR 400 ?_;refine OkS.block ?_;refine OkS.loop (α:=Nat × Nat) (fun q=>⟨[(1,i64 (i:Int)),(2,.optr 0 0 2 0 0),(5,.optr 105 7 3 0 0),(6,i64 (q.1:Int))],[⟨105,7,56,3,[.agg [str (sb g.name),.sl false 1 (g.least.map fun l=>str (sb l)),.sl false 1 (g.most.map fun l=>str (sb l))]]⟩,⟨0,0,39,2,[.agg [.sl false 4 fsD,.sl false 3 gsD]]⟩],q.2⟩) (fun q=>i - q.1) (fun q=>q.1≤i∧(s.gs.take q.1).any (fun x=>decide (x.name=g.name))=false) (0,_) ⟨Nat.zero_le _,rfl⟩ wkI ?_;rintro ⟨k,m⟩ F ⟨hk,ha⟩;dsimp only at hk ha ⊢;refine OkS.seq ?_;refine sR 500 ?_;refine ifI ?_
 (refine brI (fun hlt=>?_) (fun hlt=>?_))<;>(try simp only [Bool.not_eq_true',Bool.not_eq_false'] at hlt)<;>(try simp only [hlt])
 ·have hk2:k<i:=by
   have:=of_decide_eq_true hlt
   omega
  have hmk:=hgm k (by omega);have hsk:=hgs k (by omega);have wi:IntKind.i64.wrap ((k:Int)+1)=((k+1:Nat):Int):=wI (by omega) (by omega);obtain ⟨y,hy⟩:∃ y,s.gs.getD k default=y:=⟨_,rfl⟩
  rw [hy] at hmk hsk;have es:=strEq_sb y.name g.name;refine skI ?_;refine OkS.seq ?_;refine OkS.block ?_;refine OkS.seq ?_;refine OkS.regD w1 700 [0,1,2,3,4,5,6,7] [8] (by kernel_rfl) ?_;refine gwI kN ?_;refine ixI kT hmk ?_;refine gwI kN ?_
  by_cases hn2:y.name=g.name
  ·rw [decide_eq_true hn2] at es
   have hany:(s.gs.take i).any (fun x=>decide (x.name=g.name))=true:=any_take_some hk2 hsk (decide_eq_true hn2);rw [if_pos hany]
   try simp only [es]
   refine ifI ?_;refine sR 800 ?_;refine rtI ?_;exact exact_res rfl IsPure.out
  ·rw [decide_eq_false hn2] at es
   try simp only [es]
   refine ifI ?_;refine skI ?_;refine OkS.reg w1 600 (by kernel_rfl) ?_;refine nwI wi ?_;exact ⟨(k+1,_),⟨hk2,any_snoc hsk ha (decide_eq_false hn2)⟩,by dsimp only;omega,wkI⟩
 have hk2:k=i:=by
  have:=of_decide_eq_false hlt
  omega
 subst hk2;rw [if_neg (by rw [ha];decide)];refine exI ?_;have el2:(((g.least.map fun l=>str (sb l)).length:Nat):Int)=(g.least.length:Int):=by rw [List.length_map]
 have el3:(((g.most.map fun l=>str (sb l)).length:Nat):Int)=(g.most.length:Int):=by rw [List.length_map]
 by_cases h1:g.least.length=n
 rotate_left
 ·have e3:(((g.least.length:Nat):Int) != ((n:Nat):Int))=true:=by
   have:(((g.least.length:Nat):Int)==((n:Nat):Int))=false:=beq_eq_false_iff_ne.2 (by omega)
   unfold bne;rw [this];rfl
  rw [if_neg (fun h=>h1 h.1)];refine OkS.seq ?_;refine sZ 900 ?_;refine nwI (ff5 el1 el2 e3 kT kF) ?_;refine gwI kB ?_;refine ifI ?_;refine sR 1000 ?_;refine rtI ?_;exact exact_res rfl IsPure.out
 have e3:(((g.least.length:Nat):Int) != ((n:Nat):Int))=false:=by rw [h1];simp
 by_cases h2:g.most.length=n
 rotate_left
 ·have e4:(((g.most.length:Nat):Int) != ((n:Nat):Int))=true:=by
   have:(((g.most.length:Nat):Int)==((n:Nat):Int))=false:=beq_eq_false_iff_ne.2 (by omega)
   unfold bne;rw [this];rfl
  rw [if_neg (fun h=>h2 h.2)];refine OkS.seq ?_;refine sZ 900 ?_;refine nwI (ff5 el1 el2 e3 kT kF) ?_;refine gwI kB ?_;simp only [el1,el3,e4];refine ifI ?_;refine sR 1000 ?_;refine rtI ?_;exact exact_res rfl IsPure.out
 have e4:(((g.most.length:Nat):Int) != ((n:Nat):Int))=false:=by rw [h2];simp
 rw [if_pos ⟨h1,h2⟩];refine OkS.seq ?_;refine sZ 900 ?_;refine nwI (ff5 el1 el2 e3 kT kF) ?_;refine gwI kB ?_;simp only [el1,el3,e4];refine ifI ?_;refine skI ?_;refine OkS.seq ?_;refine sR 1100 ?_;refine OkS.block ?_;refine OkS.loop (α:=Nat × Nat) (fun q=>⟨[(1,i64 (k:Int)),(2,.optr 0 0 2 0 0),(5,.optr 105 7 3 0 0),(7,i64 (q.1:Int))],[⟨105,7,56,3,[.agg [str (sb g.name),.sl false 1 (g.least.map fun l=>str (sb l)),.sl false 1 (g.most.map fun l=>str (sb l))]]⟩,⟨0,0,39,2,[.agg [.sl false 4 fsD,.sl false 3 gsD]]⟩],q.2⟩) (fun q=>n - q.1) (fun q=>q.1≤n∧∀ j,j<q.1→chkLim (lv g.least j) (lv g.most j) (before s.gs k j)=0) (0,_) ⟨Nat.zero_le _,fun j hj=>absurd hj (Nat.not_lt_zero j)⟩ wkI ?_;clear ha;rintro ⟨j,m⟩ F ⟨hj,ha⟩;dsimp only at hj ha ⊢;refine OkS.seq ?_;refine sZ 1200 ?_;refine nwI el1 ?_;refine ifI ?_
 (refine brI (fun hlt=>?_) (fun hlt=>?_))<;>(try simp only [Bool.not_eq_true',Bool.not_eq_false'] at hlt)<;>(try simp only [hlt])
 rotate_left
 ·have hj2:j=n:=by
   have:=of_decide_eq_false hlt
   omega
  subst hj2;refine exI ?_;refine sR 2300 ?_;refine rtI ?_;exact exact_res (by rw [fstE_zero ha];rfl) IsPure.out
 have hj2:j<n:=by
  have:=of_decide_eq_true hlt
  omega
 have wi:IntKind.i64.wrap ((j:Int)+1)=((j+1:Nat):Int):=wI (by omega) (by omega);have m1:=lv_map (l:=g.least) (k:=j) (by omega);have m2:=lv_map (l:=g.most) (k:=j) (by omega);have f1:=lv_few (l:=g.least) (k:=j) (by omega) hgf.2.2.2.1;have f2:=lv_few (l:=g.most) (k:=j) (by omega) hgf.2.2.2.2;have hfst:chkLim (lv g.least j) (lv g.most j) (before s.gs k j)≠0→fstE (fun j=>chkLim (lv g.least j) (lv g.most j) (before s.gs k j)) n=chkLim (lv g.least j) (lv g.most j) (before s.gs k j):=fun h=>fstE_at (f:=fun j=>chkLim (lv g.least j) (lv g.most j) (before s.gs k j)) ha hj2 h
 have hnext:chkLim (lv g.least j) (lv g.most j) (before s.gs k j)=0→∀ x,x<j+1→chkLim (lv g.least x) (lv g.most x) (before s.gs k x)=0:=fun h x hx=>by
  rcases Nat.lt_or_ge x j with hx2|hx2
  ·exact ha x hx2
  ·have:x=j:=by omega
   rw [this];exact h
 obtain ⟨a,ea⟩:∃ a,lv g.least j=a:=⟨_,rfl⟩
 obtain ⟨b,eb⟩:∃ b,lv g.most j=b:=⟨_,rfl⟩
 rw [ea] at m1 f1;rw [eb] at m2 f2;rw [ea,eb] at hfst hnext;have sa:=strEq_nil a;have sb':=strEq_nil b;have ca:=rlimit a f1;have cb:=rlimit b f2;obtain ⟨P,hP⟩:∃ P,before s.gs k j=P:=⟨_,rfl⟩
 rw [hP] at hfst hnext;refine skI ?_;refine OkS.seq ?_;refine OkS.block ?_;refine sZ 1400 ?_;refine gwI kN ?_;refine ixI kT m1 ?_;refine gwI kN ?_;refine cI ca ?_;refine OkS.seqX (α:=Nat) (fun m=>⟨[(1,i64 (k:Int)),(2,.optr 0 0 2 0 0),(5,.optr 105 7 3 0 0),(7,i64 (j:Int)),(8,i64 ((limE2 a b:Nat):Int))],[⟨105,7,56,3,[.agg [str (sb g.name),.sl false 1 (g.least.map fun l=>str (sb l)),.sl false 1 (g.most.map fun l=>str (sb l))]]⟩,⟨0,0,39,2,[.agg [.sl false 4 fsD,.sl false 3 gsD]]⟩],m⟩) (fun _=>True) ?_ ?_
 ·by_cases g1:limE a=0
  ·have e5:(((limE a:Nat):Int)==0)=true:=by rw [g1];rfl
   have e6:limE2 a b=limE b:=by unfold limE2;rw [if_neg (fun h=>h g1)]
   rw [e6];refine sZ 1500 ?_;refine nwI e5 ?_;refine ifI ?_;refine OkS.reg w1 1600 (by kernel_rfl) ?_;refine gwI kN ?_;refine ixI kT m2 ?_;refine gwI kN ?_;refine cI cb ?_;exact ⟨by trivial,_,trivial,wkI⟩
  ·have e5:(((limE a:Nat):Int)==0)=false:=beq_eq_false_iff_ne.2 (by omega)
   have e6:limE2 a b=limE a:=by unfold limE2;rw [if_pos g1]
   rw [e6];refine sZ 1500 ?_;refine nwI e5 ?_;refine ifI ?_;refine skI ?_;exact ⟨rfl,_,trivial,wkI⟩
 rintro m2' -;refine OkS.seqX (α:=Nat) (fun m=>⟨[(1,i64 (k:Int)),(2,.optr 0 0 2 0 0),(5,.optr 105 7 3 0 0),(7,i64 (j:Int)),(8,i64 ((limE3 a b:Nat):Int))],[⟨105,7,56,3,[.agg [str (sb g.name),.sl false 1 (g.least.map fun l=>str (sb l)),.sl false 1 (g.most.map fun l=>str (sb l))]]⟩,⟨0,0,39,2,[.agg [.sl false 4 fsD,.sl false 3 gsD]]⟩],m⟩) (fun _=>True) ?_ ?_
 ·by_cases g1:limE2 a b=0
  rotate_left
  ·have e5:(((limE2 a b:Nat):Int)==0)=false:=beq_eq_false_iff_ne.2 (by omega)
   have e6:limE3 a b=limE2 a b:=by unfold limE3;rw [if_neg (fun h=>g1 h.1)]
   rw [e6];refine OkS.seq ?_;refine OkS.regD w1 1700 [0,1,2,3,4,5,6,7,8,9,10,11,12,13,14,15,16,17,18,19,20,21,22,23,24,25,26,27,28] [29,30,31] (by kernel_rfl) ?_;refine nwI (ff3 e5 kT kF) ?_
   try simp only [implies_true]
   refine gwI kB ?_
   try simp only [implies_true]
   refine gwI kB ?_
   try simp only [implies_true]
   refine gwI kB ?_
   try simp only [implies_true]
   refine gwI kB ?_
   try simp only [implies_true]
   refine ifI ?_;refine skI ?_;exact ⟨rfl,_,trivial,wkI⟩
  have e5:(((limE2 a b:Nat):Int)==0)=true:=by rw [g1];rfl
  obtain ⟨la,lb⟩:=limE2_zero g1
  by_cases ga:a=[]
  ·have e6:limE3 a b=limE2 a b:=by unfold limE3;rw [if_neg (fun h=>h.2.1 ga)]
   rw [e6];rw [decide_eq_true ga] at sa;refine OkS.seq ?_;refine OkS.regD w1 1700 [0,1,2,3,4,5,6,7,8,9,10,11,12,13,14,15,16,17,18,19,20,21,22,23,24,25,26,27,28] [29,30,31] (by kernel_rfl) ?_;refine nwI (ff3 e5 kT kF) ?_
   try simp only [implies_true]
   refine gwI kB ?_
   try simp only [implies_true]
   refine ixI kT m1 ?_;refine gwI kB ?_
   try simp only [implies_true]
   try simp only [sa,Bool.not_true,Bool.not_false]
   refine gwI kB ?_
   try simp only [implies_true]
   refine gwI kB ?_
   try simp only [implies_true]
   refine gwI kB ?_
   try simp only [implies_true]
   refine gwI kB ?_
   try simp only [implies_true]
   refine ifI ?_;refine skI ?_;exact ⟨rfl,_,trivial,wkI⟩
  rw [decide_eq_false ga] at sa
  by_cases gb:b=[]
  ·have e6:limE3 a b=limE2 a b:=by unfold limE3;rw [if_neg (fun h=>h.2.2.1 gb)]
   rw [e6];rw [decide_eq_true gb] at sb';refine OkS.seq ?_;refine OkS.regD w1 1700 [0,1,2,3,4,5,6,7,8,9,10,11,12,13,14,15,16,17,18,19,20,21,22,23,24,25,26,27,28] [29,30,31] (by kernel_rfl) ?_;refine nwI (ff3 e5 kT kF) ?_
   try simp only [implies_true]
   refine gwI kB ?_
   try simp only [implies_true]
   refine ixI kT m1 ?_;refine gwI kB ?_
   try simp only [implies_true]
   try simp only [sa,Bool.not_true,Bool.not_false]
   refine gwI kB ?_
   try simp only [implies_true]
   refine ixI kT m2 ?_;refine gwI kB ?_
   try simp only [implies_true]
   try simp only [sb',Bool.not_true,Bool.not_false]
   refine gwI kB ?_
   try simp only [implies_true]
   refine gwI kB ?_
   try simp only [implies_true]
   refine gwI kB ?_
   try simp only [implies_true]
   refine gwI kB ?_
   try simp only [implies_true]
   refine ifI ?_;refine skI ?_;exact ⟨rfl,_,trivial,wkI⟩
  rw [decide_eq_false gb] at sb';have cc:=rcmp_c (limE_chk la ga) (limE_chk lb gb);refine OkS.seq ?_;refine OkS.regD w1 1700 [0,1,2,3,4,5,6,7,8,9,10,11,12,13,14,15,16,17,18,19,20,21,22,23,24,25,26,27,28] [29,30,31] (by kernel_rfl) ?_;refine nwI (ff3 e5 kT kF) ?_
  try simp only [implies_true]
  refine gwI kB ?_
  try simp only [implies_true]
  refine ixI kT m1 ?_;refine gwI kB ?_
  try simp only [implies_true]
  try simp only [sa,Bool.not_true,Bool.not_false]
  refine gwI kB ?_
  try simp only [implies_true]
  refine ixI kT m2 ?_;refine gwI kB ?_
  try simp only [implies_true]
  try simp only [sb',Bool.not_true,Bool.not_false]
  refine gwI kB ?_
  try simp only [implies_true]
  refine ixI kT m1 ?_;refine gwI kB ?_
  try simp only [implies_true]
  refine ixI kT m2 ?_;refine gwI kB ?_
  try simp only [implies_true]
  refine gcI kB ?_;refine CallO.same _ cc inferInstance ?_;refine gwI kB ?_
  by_cases g4:cmpQ (ratOf a) (ratOf b)>0
  ·have e6:limE3 a b=3:=by unfold limE3;rw [if_pos ⟨g1,ga,gb,g4⟩]
   rw [e6];rw [decide_eq_true g4];refine ifI ?_;refine rI 1800 ?_;exact ⟨by trivial,_,trivial,wkI⟩
  ·have e6:limE3 a b=limE2 a b:=by unfold limE3;rw [if_neg (fun h=>g4 h.2.2.2)]
   rw [e6];rw [decide_eq_false g4];refine ifI ?_;refine skI ?_;exact ⟨rfl,_,trivial,wkI⟩
 rintro m3 -;refine OkS.seqX (α:=Nat) (fun m=>⟨[(1,i64 (k:Int)),(2,.optr 0 0 2 0 0),(5,.optr 105 7 3 0 0),(7,i64 (j:Int)),(8,i64 ((chkLim a b P:Nat):Int))],[⟨105,7,56,3,[.agg [str (sb g.name),.sl false 1 (g.least.map fun l=>str (sb l)),.sl false 1 (g.most.map fun l=>str (sb l))]]⟩,⟨0,0,39,2,[.agg [.sl false 4 fsD,.sl false 3 gsD]]⟩],m⟩) (fun _=>True) ?_ ?_
 ·by_cases g1:limE3 a b=0
  rotate_left
  ·have e5:(((limE3 a b:Nat):Int)==0)=false:=beq_eq_false_iff_ne.2 (by omega)
   rw [chkLim_ne g1];refine OkS.seq ?_;refine OkS.regD w1 1900 [0,1,2,3,4,5,6,7,8,9,10,11,12,13,14,15,16,17,18,19,20,21,22,23,24,25,26,27,28,29,30,31,32,33,34,35,36] [37,38,39] (by kernel_rfl) ?_;refine nwI (ff3 e5 kT kF) ?_
   try simp only [implies_true]
   refine gwI kB ?_
   try simp only [implies_true]
   refine gwI kB ?_
   try simp only [implies_true]
   refine gwI kB ?_
   try simp only [implies_true]
   refine gwI kB ?_
   try simp only [implies_true]
   refine ifI ?_;refine skI ?_;exact ⟨rfl,_,trivial,wkI⟩
  have e5:(((limE3 a b:Nat):Int)==0)=true:=by rw [g1];rfl
  obtain ⟨la,lb⟩:=limE2_zero (limE3_zero g1);rw [chkLim_z g1]
  by_cases hk0:k=0
  ·have e7:decide ((k:Int)>0)=false:=decide_eq_false (by omega)
   have:P=none:=by rw [← hP];unfold before;rw [if_pos hk0]
   subst this;dsimp only;refine OkS.seq ?_;refine OkS.regD w1 1900 [0,1,2,3,4,5,6,7,8,9,10,11,12,13,14,15,16,17,18,19,20,21,22,23,24,25,26,27,28,29,30,31,32,33,34,35,36] [37,38,39] (by kernel_rfl) ?_;refine nwI (ff3 e5 kT kF) ?_
   try simp only [implies_true]
   refine gwI kB ?_
   try simp only [implies_true]
   try simp only [e7,Bool.not_true,Bool.not_false]
   refine gwI kB ?_
   try simp only [implies_true]
   refine gwI kB ?_
   try simp only [implies_true]
   refine gwI kB ?_
   try simp only [implies_true]
   refine gwI kB ?_
   try simp only [implies_true]
   refine ifI ?_;refine skI ?_;exact ⟨rfl,_,trivial,wkI⟩
  have e7:decide ((k:Int)>0)=true:=decide_eq_true (by omega);have ws:IntKind.i64.wrap ((k:Int) - 1)=((k - 1:Nat):Int):=by
   rw [show (k:Int) - 1=((k - 1:Nat):Int) by omega];exact wI (by omega) (by omega)
  have hm1:=hgm (k - 1) (by omega);obtain ⟨q1,q2,q3⟩:=hp (by omega);obtain ⟨q4,q5⟩:=q3 j hj2;obtain ⟨z,hz⟩:∃ z,s.gs.getD (k - 1) default=z:=⟨_,rfl⟩
  rw [hz] at hm1 q1 q2 q4 q5;have m3:=lv_map (l:=z.least) (k:=j) (by omega);have m4:=lv_map (l:=z.most) (k:=j) (by omega);have hPz:P=some (lv z.least j,lv z.most j):=by rw [← hP];unfold before;rw [if_neg hk0,hz]
  subst hPz;obtain ⟨c,ec⟩:∃ c,lv z.least j=c:=⟨_,rfl⟩
  obtain ⟨d,ed⟩:∃ d,lv z.most j=d:=⟨_,rfl⟩
  rw [ec] at m3 q4 ⊢;rw [ed] at m4 q5 ⊢;dsimp only;have co:=rcontains a b c d la lb q4 q5;refine OkS.seq ?_;refine OkS.regD w1 1900 [0,1,2,3,4,5,6,7,8,9,10,11,12,13,14,15,16,17,18,19,20,21,22,23,24,25,26,27,28,29,30,31,32,33,34,35,36] [37,38,39] (by kernel_rfl) ?_;refine nwI (ff3 e5 kT kF) ?_
  try simp only [implies_true]
  refine gwI kB ?_
  try simp only [implies_true]
  try simp only [e7,Bool.not_true,Bool.not_false]
  refine gwI kB ?_
  try simp only [implies_true]
  refine ixI kT m1 ?_;refine gwI kB ?_
  try simp only [implies_true]
  refine ixI kT m2 ?_;refine gwI kB ?_
  try simp only [implies_true]
  try simp only [ws]
  refine ixI kT hm1 ?_;refine gwI kB ?_
  try simp only [implies_true]
  refine ixI kT m3 ?_;refine gwI kB ?_
  try simp only [implies_true]
  try simp only [ws]
  refine ixI kT hm1 ?_;refine gwI kB ?_
  try simp only [implies_true]
  refine ixI kT m4 ?_;refine gwI kB ?_
  try simp only [implies_true]
  refine gcI kB ?_;refine CallO.same _ co inferInstance ?_;refine gwI kB ?_;cases ordOk a b c d
  ·refine ifI ?_
   refine rI 2000 ?_;exact ⟨by trivial,_,trivial,wkI⟩
  ·refine ifI ?_
   refine skI ?_;rw [g1];exact ⟨rfl,_,trivial,wkI⟩
 rintro m4 -
 by_cases g1:chkLim a b P=0
 ·have e5:(((chkLim a b P:Nat):Int) != 0)=false:=by rw [g1];rfl
  refine sZ 2100 ?_;refine nwI e5 ?_;refine ifI ?_;refine skI ?_;refine OkS.reg w1 1300 (by kernel_rfl) ?_;refine nwI wi ?_;exact ⟨(j+1,_),⟨hj2,hnext g1⟩,by dsimp only;omega,wkI⟩
 ·have e5:(((chkLim a b P:Nat):Int) != 0)=true:=bne_int (by omega)
  refine sZ 2100 ?_;refine nwI e5 ?_;refine ifI ?_;refine sR 2200 ?_;refine rtI ?_;exact exact_res (by rw [hfst g1]) IsPure.out
end Go.Ide
namespace Go.Ide
open Go.Proofs Go.RowKit
set_option maxRecDepth 20000
set_option maxHeartbeats 4000000
theorem any_at {α:Type}{l:List α}{p:α→Bool}{k i:Nat}{x:α}(hx:l[k]? = some x)(hk:k<i)(h:p x=true):(l.take i).any p=true:=any_take_some hk hx h
theorem rsch (s:SchT)(hs:s.few):ICalls C0 19 [s.D] (i64 (chkScheme s)):=by
 refine ICallP.walk w1 fok19 rfl fun F=>?_
 have hsc:chkScheme s=if cntF s.fs.length≠0 then cntF s.fs.length
  else if fstE (chkFac s.fs) s.fs.length≠0 then fstE (chkFac s.fs) s.fs.length
  else if cntG s.gs.length≠0 then cntG s.gs.length
  else fstE (chkGrade s.fs.length s.gs) s.gs.length:=rfl
 have hpg:∀ i,i<s.gs.length→(∀ j,j<i→chkGrade s.fs.length s.gs j=0)→ICalls C0 76 [s.D,i64 (i:Int)] (i64 (chkGrade s.fs.length s.gs i)):=fun i hi ha=>rgrade s i hs hi (fun h=>chkGrade_ok (ha (i - 1) (by omega)))
 have fl:(((s.fs.map FacT.D).length:Nat):Int)=(s.fs.length:Int):=by rw [List.length_map]
 have gl:(((s.gs.map GraT.D).length:Nat):Int)=(s.gs.length:Int):=by rw [List.length_map]
 have ls:=hs.1;have lg:=hs.2.1;have hmf:∀ i,i<s.fs.length→(s.fs.map FacT.D)[i]? = some (.agg [str (sb (s.fs.getD i default).name),str (sb (s.fs.getD i default).tol),str (sb (s.fs.getD i default).kind),str (sb (s.fs.getD i default).step)]):=fun i hi=>fv_map hi
 have hcf:∀ i,i<s.fs.length→ICalls C0 75 [.agg [str (sb (s.fs.getD i default).name),str (sb (s.fs.getD i default).tol),str (sb (s.fs.getD i default).kind),str (sb (s.fs.getD i default).step)]] (i64 (chkFactor (s.fs.getD i default))):=fun i hi=>rfactor _ (hs.2.2.1 _ (List.mem_of_getElem? (fv_some hi)))
 have hfs:∀ k,k<s.fs.length→s.fs[k]? = some (s.fs.getD k default):=fun k hk=>fv_some hk
 obtain ⟨v,hv⟩:∃ v,chkScheme s=v:=⟨_,rfl⟩
 rw [hv] at hsc ⊢;unfold SchT.D at hpg ⊢;obtain ⟨fsD,hfsD⟩:∃ x,s.fs.map FacT.D=x:=⟨_,rfl⟩
 obtain ⟨gsD,hgsD⟩:∃ x,s.gs.map GraT.D=x:=⟨_,rfl⟩
 have pf:IsPure (.sl false 4 fsD):=by rw [← hfsD];exact inferInstance
 have pg:IsPure (.sl false 3 gsD):=by rw [← hgsD];exact inferInstance
 rw [hfsD] at fl hmf hpg ⊢;rw [hgsD] at gl hpg ⊢;have lf2:fsD.length=s.fs.length:=by omega
 obtain ⟨n,hn⟩:∃ n,s.fs.length=n:=⟨_,rfl⟩
 obtain ⟨m,hm⟩:∃ m,s.gs.length=m:=⟨_,rfl⟩
 rw [hn] at hsc hpg fl ls hmf hcf hfs;rw [hm] at hsc hpg gl lg;refine sR 0 ?_;refine OkS.seq ?_
 by_cases n0:n=0
 ·have e1:((n:Int)==0)=true:=by rw [n0];rfl
  have hv2:v=2:=by rw [hsc,n0];rfl
  rw [hv2];refine sZ 100 ?_;refine nwI (ff2 fl e1) ?_;refine ifI ?_;refine sR 200 ?_;refine rtI ?_;exact exact_res rfl IsPure.out
 have e1:((n:Int)==0)=false:=beq_eq_false_iff_ne.2 (by omega);refine sZ 100 ?_;refine nwI (ff2 fl e1) ?_;refine ifI ?_;refine skI ?_;refine OkS.seq ?_
 by_cases n8:n>8
 ·have e2:decide ((n:Int)>8)=true:=decide_eq_true (by omega)
  have hv2:v=5:=by rw [hsc];unfold cntF;rw [if_neg n0,if_pos n8];rfl
  rw [hv2];refine sZ 300 ?_;refine nwI (ff2 fl e2) ?_;refine ifI ?_;refine sR 400 ?_;refine rtI ?_;exact exact_res rfl IsPure.out
 have e2:decide ((n:Int)>8)=false:=decide_eq_false (by omega);have hc0:cntF n=0:=by unfold cntF;rw [if_neg n0,if_neg n8]
 rw [if_neg (fun h=>h hc0)] at hsc;refine sZ 300 ?_;refine nwI (ff2 fl e2) ?_;refine ifI ?_;refine skI ?_;refine OkS.seq ?_;refine sR 500 ?_;refine OkS.block ?_;refine OkS.loop (α:=Nat × Nat) (fun q=>⟨[(1,.optr 0 0 2 0 0),(3,i64 (q.1:Int))],[⟨0,0,39,2,[.agg [.sl false 4 fsD,.sl false 3 gsD]]⟩],q.2⟩) (fun q=>n - q.1) (fun q=>q.1≤n∧∀ j,j<q.1→chkFac s.fs j=0) (0,_) ⟨Nat.zero_le _,fun j hj=>absurd hj (Nat.not_lt_zero j)⟩ wkI ?_;rintro ⟨i,c⟩ F ⟨hi,ha⟩;dsimp only at hi ha ⊢;refine OkS.seq ?_;refine sZ 600 ?_;refine nwI fl ?_;refine ifI ?_
 (refine brI (fun hlt=>?_) (fun hlt=>?_))<;>(try simp only [Bool.not_eq_true',Bool.not_eq_false'] at hlt)<;>(try simp only [hlt])
 ·have hi2:i<n:=by
   have:=of_decide_eq_true hlt
   omega
  have hmi:=hmf i hi2;have cf:=hcf i hi2;have wi:IntKind.i64.wrap ((i:Int)+1)=((i+1:Nat):Int):=wI (by omega) (by omega);have hfst:chkFac s.fs i≠0→v=chkFac s.fs i:=fun h=>by
   have h2:=fstE_at (f:=chkFac s.fs) ha hi2 h;rw [hsc,if_pos (by rw [h2];exact h),h2]
  have hnext:chkFac s.fs i=0→∀ x,x<i+1→chkFac s.fs x=0:=fun h x hx=>by
   rcases Nat.lt_or_ge x i with hx2|hx2
   ·exact ha x hx2
   ·have:x=i:=by omega
    rw [this];exact h
  have hfac:chkFac s.fs i=if chkFactor (s.fs.getD i default)≠0 then chkFactor (s.fs.getD i default) else if (s.fs.take i).any (fun x=>decide (x.name=(s.fs.getD i default).name)) then 9 else 0:=rfl
  obtain ⟨f,hf⟩:∃ f,s.fs.getD i default=f:=⟨_,rfl⟩
  rw [hf] at hmi cf hfac;obtain ⟨e0,he0⟩:∃ e0,chkFactor f=e0:=⟨_,rfl⟩
  rw [he0] at cf hfac;obtain ⟨r,hr⟩:∃ r,chkFac s.fs i=r:=⟨_,rfl⟩
  rw [hr] at hfst hnext hfac;refine skI ?_;refine OkS.seq ?_;refine OkS.block ?_;refine sZ 800 ?_;refine gwI kN ?_;refine ixI kT hmi ?_;refine gwI kN ?_;refine CallO.same _ cf inferInstance ?_;refine stI ?_;refine OkS.seqX (α:=Nat) (fun c=>⟨[(1,.optr 0 0 2 0 0),(3,i64 (i:Int)),(4,i64 (r:Int))],[⟨0,0,39,2,[.agg [.sl false 4 fsD,.sl false 3 gsD]]⟩],c⟩) (fun _=>True) ?_ ?_
  ·refine sR 900 ?_
   refine OkS.block ?_;refine OkS.loopF (α:=Nat × Nat × Nat) (fun q=>⟨[(1,.optr 0 0 2 0 0),(3,i64 (i:Int)),(4,i64 (q.2.1:Int)),(5,i64 (q.1:Int))],[⟨0,0,39,2,[.agg [.sl false 4 fsD,.sl false 3 gsD]]⟩],q.2.2⟩) (fun q=>i - q.1)
    (fun q F'=>F'=F∧q.1≤i∧((q.2.1=e0∧(s.fs.take q.1).any (fun x=>decide (x.name=f.name))=false)∨(e0=0∧q.2.1=9∧(s.fs.take i).any (fun x=>decide (x.name=f.name))=true))) (0,e0,_) ⟨rfl,Nat.zero_le _,.inl ⟨rfl,rfl⟩⟩ wkI ?_
   rintro ⟨k,e,c⟩ F' ⟨rfl,hk,hJ⟩;dsimp only at hk hJ ⊢;refine OkS.seq ?_
   by_cases hki:k<i
   rotate_left
   ·have h1:decide ((k:Int)<(i:Int))=false:=decide_eq_false (by omega)
    have hk3:k=i:=by omega
    have hre:r=e:=by
     rcases hJ with ⟨h2,h3⟩|⟨h2,h3,h4⟩
     ·rw [hfac,← hk3,h3,h2]
      by_cases h5:e0=0
      ·rw [if_neg (fun h=>h h5),h5];rfl
      ·rw [if_pos h5]
     ·rw [hfac,if_neg (fun h=>h h2),h4,h3];rfl
    rw [hre];refine sZ 1000 ?_;refine nwI (ff3 h1 kT kF) ?_
    try simp only [implies_true]
    refine gwI kB ?_;refine ifI ?_;refine exI ?_;exact ⟨rfl,_,trivial,wkI⟩
   have h1:decide ((k:Int)<(i:Int))=true:=decide_eq_true (by omega)
   by_cases hez:e=0
   rotate_left
   ·have h2:((e:Int)==0)=false:=beq_eq_false_iff_ne.2 (by omega)
    have hre:r=e:=by
     rcases hJ with ⟨h2,h3⟩|⟨h2,h3,h4⟩
     ·rw [hfac,if_pos (by omega),h2]
     ·rw [hfac,if_neg (fun h=>h h2),h4,h3];rfl
    rw [hre];refine sZ 1000 ?_;refine nwI (ff3 h1 kT kF) ?_
    try simp only [implies_true]
    refine gwI kB ?_
    try simp only [h2]
    refine ifI ?_;refine exI ?_;exact ⟨rfl,_,trivial,wkI⟩
   have h2:((e:Int)==0)=true:=by rw [hez];rfl
   obtain ⟨h3,h4⟩:e=e0∧(s.fs.take k).any (fun x=>decide (x.name=f.name))=false:=by
    rcases hJ with h|⟨_,h,_⟩
    ·exact h
    ·omega
   have hmk:=hmf k (by omega);have hsk:=hfs k (by omega);have wk:IntKind.i64.wrap ((k:Int)+1)=((k+1:Nat):Int):=wI (by omega) (by omega);obtain ⟨y,hy⟩:∃ y,s.fs.getD k default=y:=⟨_,rfl⟩
   rw [hy] at hmk hsk;have es:=strEq_sb y.name f.name;refine sZ 1000 ?_;refine nwI (ff3 h1 kT kF) ?_
   try simp only [implies_true]
   refine gwI kB ?_
   try simp only [h2]
   refine ifI ?_;refine skI ?_;refine OkS.seq ?_;refine OkS.block ?_;refine OkS.seq ?_;refine OkS.regD w1 1200 [0,1,2,3,4,5,6,7,8,9,10,11] [12] (by kernel_rfl) ?_;refine gwI kN ?_;refine ixI kT hmk ?_;refine gwI kN ?_;refine ixI kT hmi ?_;refine gwI kN ?_
   by_cases hn2:y.name=f.name
   ·rw [decide_eq_true hn2] at es
    try simp only [es]
    refine ifI ?_;refine rI 1300 ?_;refine OkS.reg w1 1100 (by kernel_rfl) ?_;refine nwI wk ?_;exact ⟨(k+1,9,_),⟨by trivial,hki,.inr ⟨by omega,rfl,any_at hsk hki (decide_eq_true hn2)⟩⟩,by dsimp only;omega,wkI⟩
   ·rw [decide_eq_false hn2] at es
    try simp only [es]
    refine ifI ?_;refine skI ?_;refine OkS.reg w1 1100 (by kernel_rfl) ?_;refine nwI wk ?_;exact ⟨(k+1,e,_),⟨by trivial,hki,.inl ⟨h3,any_snoc hsk h4 (decide_eq_false hn2)⟩⟩,by dsimp only;omega,wkI⟩
  rintro c2 -
  by_cases g1:r=0
  ·have e5:((r:Int) != 0)=false:=by rw [g1];rfl
   refine sZ 1400 ?_;refine nwI e5 ?_;refine ifI ?_;refine skI ?_;refine OkS.reg w1 700 (by kernel_rfl) ?_;refine nwI wi ?_;exact ⟨(i+1,_),⟨hi2,hnext g1⟩,by dsimp only;omega,wkI⟩
  ·have e5:((r:Int) != 0)=true:=bne_int (by omega)
   refine sZ 1400 ?_;refine nwI e5 ?_;refine ifI ?_;refine sR 1500 ?_;refine rtI ?_;exact exact_res (by rw [hfst g1]) IsPure.out
 have hi2:i=n:=by
  have:=of_decide_eq_false hlt
  omega
 subst hi2;rw [if_neg (fun h=>h (fstE_zero ha))] at hsc;clear ha;refine exI ?_;refine OkS.seq ?_
 by_cases m0:m=0
 ·have e3:((m:Int)==0)=true:=by rw [m0];rfl
  have hv2:v=2:=by rw [hsc,m0];rfl
  rw [hv2];refine sZ 1600 ?_;refine nwI (ff2 gl e3) ?_;refine ifI ?_;refine sR 1700 ?_;refine rtI ?_;exact exact_res rfl IsPure.out
 have e3:((m:Int)==0)=false:=beq_eq_false_iff_ne.2 (by omega);refine sZ 1600 ?_;refine nwI (ff2 gl e3) ?_;refine ifI ?_;refine skI ?_;refine OkS.seq ?_
 by_cases m16:m>16
 ·have e4:decide ((m:Int)>16)=true:=decide_eq_true (by omega)
  have hv2:v=5:=by rw [hsc];unfold cntG;rw [if_neg m0,if_pos m16];rfl
  rw [hv2];refine sZ 1800 ?_;refine nwI (ff2 gl e4) ?_;refine ifI ?_;refine sR 1900 ?_;refine rtI ?_;exact exact_res rfl IsPure.out
 have e4:decide ((m:Int)>16)=false:=decide_eq_false (by omega);have hc1:cntG m=0:=by unfold cntG;rw [if_neg m0,if_neg m16]
 rw [if_neg (fun h=>h hc1)] at hsc;refine sZ 1800 ?_;refine nwI (ff2 gl e4) ?_;refine ifI ?_;refine skI ?_;refine OkS.seq ?_;refine sR 2000 ?_;refine OkS.block ?_;refine OkS.loop (α:=Nat × Nat) (fun q=>⟨[(1,.optr 0 0 2 0 0),(6,i64 (q.1:Int))],[⟨0,0,39,2,[.agg [.sl false 4 fsD,.sl false 3 gsD]]⟩],q.2⟩) (fun q=>m - q.1) (fun q=>q.1≤m∧∀ j,j<q.1→chkGrade i s.gs j=0) (0,_) ⟨Nat.zero_le _,fun j hj=>absurd hj (Nat.not_lt_zero j)⟩ wkI ?_;rintro ⟨g,c⟩ F ⟨hg,ha⟩;dsimp only at hg ha ⊢;refine OkS.seq ?_;refine sZ 2100 ?_;refine nwI gl ?_;refine ifI ?_
 (refine brI (fun hlt2=>?_) (fun hlt2=>?_))<;>(try simp only [Bool.not_eq_true',Bool.not_eq_false'] at hlt2)<;>(try simp only [hlt2])
 ·have hg2:g<m:=by
   have:=of_decide_eq_true hlt2
   omega
  have cg:=hpg g hg2 ha;have wi:IntKind.i64.wrap ((g:Int)+1)=((g+1:Nat):Int):=wI (by omega) (by omega);have hfst:chkGrade i s.gs g≠0→v=chkGrade i s.gs g:=fun h=>by
   rw [hsc];exact fstE_at (f:=chkGrade i s.gs) ha hg2 h
  have hnext:chkGrade i s.gs g=0→∀ x,x<g+1→chkGrade i s.gs x=0:=fun h x hx=>by
   rcases Nat.lt_or_ge x g with hx2|hx2
   ·exact ha x hx2
   ·have:x=g:=by omega
    rw [this];exact h
  obtain ⟨r,hr⟩:∃ r,chkGrade i s.gs g=r:=⟨_,rfl⟩
  rw [hr] at cg hfst hnext;refine skI ?_;refine OkS.seq ?_;refine OkS.block ?_;refine sR 2300 ?_;refine CallO.same _ cg inferInstance ?_;refine stI ?_
  by_cases g1:r=0
  ·have e5:((r:Int) != 0)=false:=by rw [g1];rfl
   refine sZ 2400 ?_;refine nwI e5 ?_;refine ifI ?_;refine skI ?_;refine OkS.reg w1 2200 (by kernel_rfl) ?_;refine nwI wi ?_;exact ⟨(g+1,_),⟨hg2,hnext g1⟩,by dsimp only;omega,wkI⟩
  ·have e5:((r:Int) != 0)=true:=bne_int (by omega)
   refine sZ 2400 ?_;refine nwI e5 ?_;refine ifI ?_;refine sR 2500 ?_;refine rtI ?_;exact exact_res (by rw [hfst g1]) IsPure.out
 have hg2:g=m:=by
  have:=of_decide_eq_false hlt2
  omega
 subst hg2;refine exI ?_;refine sR 2600 ?_;refine rtI ?_;exact exact_res (by rw [hsc,fstE_zero ha];rfl) IsPure.out
end Go.Ide
