/- The layer of own lemmas and contracts, part 12. -/
import Derived.Test.YtpehlicnhjoknaaGreatDoorP11
import Derived.Test.YtpehlicnhjoknaaGreatDoorP6
import Derived.Test.YtpehlicnhjoknaaGreatDoorP10
import Derived.Test.YtpehlicnhjoknaaGreatDoorP3
import Derived.Shelf.RegionOpenPlain
import Derived.Lib.Builder
import Derived.Lib.UnsafeStr
import Derived.Lib.Strings
import Derived.Lib.Slices
import Derived.Lib.Walk
import Derived.Laws.Externs
import Derived.KernelRfl
import Derived.WalkKit
import Derived.Shelf.Strconv.Itoa3
import Derived.Lib.ItoaMem
import Derived.Lib.AppendIntMem
import Derived.BigCall
import Derived.BigGuard
set_option linter.unusedVariables false
set_option linter.unusedSimpArgs false
namespace Go.Ide
open Go.Proofs Go.RowKit
set_option maxRecDepth 20000
set_option maxHeartbeats 4000000
def isO (o:Option D):Bool:=match o with
 | some (.agg [.prim (.bool false),.sl false 1 [.prim (.int .i64 1)]])=>true
 | _=>false
theorem b9l {o:Option D}(h:isO o=true):o=some (rZ 1):=by
 have h1:a0m 1=[1]:=a3z (by decide) (by decide);unfold isO at h;split at h
 ·show _=some (D.agg [boo (decide ((1:Int)<0)),rL (a0m 1)])
  rw [h1];rfl
 ·cases h
theorem b5m:isO ((evF X1 1000 60).1 84 [i64 1])=true:=by kernel_rfl
theorem b6L:a0b C0 84 [i64 1] (rZ 1):=a0b.ev a3P 1000 60 (b9l b5m)
def c8j (l:List UInt8):Int:=rv (a1V l)
def c7E (l:List UInt8):Int:=if a3J l then rv (a1r l) else 1
instance  (x y:Int):IsPure (.tup [rZ x,rZ y]):=⟨.tup fun d hd=>by
 simp only [List.mem_cons,List.not_mem_nil,or_false] at hd;rcases hd with rfl|rfl
 ·exact IsPure.out
 ·exact IsPure.out⟩
theorem a8s (l:List UInt8)(hn:(a0j (a1V l)).all a0x=true)(hd:(a0j (a1r l)).all a0x=true)(hl:l.length≤1000000):a0b C0 89 [str (sb l)] (.tup [rZ (c8j l),rZ (c7E l)]):=by
 refine a0c.walk w1 d0W rfl fun F=>?_
 have hsz:=a0r l;have cs:=a5S l (by omega);have hsl:=a1t l;have c1:=b5Y (a1V l) hn (by unfold a1V;rw [List.length_take];omega);have c2:=b5Y (a1r l) hd (by unfold a1r;rw [List.length_drop];omega);have cw:=b6L;unfold c8j c7E;refine sR 0 ?_;refine sR 100 ?_;refine sR 200 ?_;refine cI cs ?_;cases hh:a3J l
 ·have he:a0d l=l.length:=by
   unfold a3J at hh
   have:=of_decide_eq_false hh
   omega
  have e0:(((a0d l:Nat):Int)==(l.length:Int))=true:=beq_iff_eq.2 (by omega);have en:a1V l=l:=by unfold a1V;rw [he,List.take_of_length_le (Nat.le_refl _)]
  rw [en] at c1 ⊢;refine OkS.seq ?_;refine sZ 300 ?_;refine nwI (ff2 hsz e0) ?_;refine ifI ?_;refine sR 400 ?_;refine cI c1 ?_;refine a0l.same _ cw inferInstance ?_;refine stI ?_;refine rtI ?_;exact a0a rfl IsPure.out
 ·have he:a0d l<l.length:=of_decide_eq_true hh
  have e0:(((a0d l:Nat):Int)==(l.length:Int))=false:=beq_eq_false_iff_ne.2 (by omega);have x1:(sb l).extract 0 (a0d l)=sb (a1V l):=by rw [a1x,List.drop_zero];rfl
  have x2:(sb l).extract (a0d l+1) l.length=sb (a1r l):=by rw [a1x,List.take_of_length_le (Nat.le_refl _)];rfl
  have wk:IntKind.i64.wrap (((a0d l:Nat):Int)+1)=((a0d l+1:Nat):Int):=wI (by omega) (by omega);refine OkS.seq ?_;refine sZ 300 ?_;refine nwI (ff2 hsz e0) ?_;refine ifI ?_;refine skI ?_;refine OkS.seq ?_;refine OkS.regD w1 500 [0,1,2,3,4,5,6,7] [8,9,10] (by kernel_rfl) ?_;refine gwI (ff5 hsz wk kN x1 x2) ?_;refine a0p.same _ c1 inferInstance ?_;refine gwI (ff5 hsz wk kN x1 x2) ?_;refine a0l.same _ c2 inferInstance ?_;refine stI ?_;refine rtI ?_;exact a0a rfl IsPure.out
def txt (r:Rat):List UInt8:=if r.den=1 then Lib.itoa r.num else Lib.itoa r.num++47::Lib.decDigits r.den
def qZ (x y:Int):Rat:=mkRat (if y<0 then -x else x) y.natAbs
theorem a9U {x:Int}{d:Nat}(hd:d≠0):(mkRat x d).num=sg (decide (x<0)) (x.natAbs / Nat.gcd x.natAbs d)∧(mkRat x d).den=d / Nat.gcd x.natAbs d:=by
 rw [mkRat,dif_neg hd,Rat.normalize_eq];refine ⟨?_,rfl⟩;dsimp only;have hg:0<Nat.gcd x.natAbs d:=Nat.gcd_pos_of_pos_right _ (Nat.pos_of_ne_zero hd);obtain ⟨p,hp⟩:=Nat.gcd_dvd_left x.natAbs d;have e1:x.natAbs / Nat.gcd x.natAbs d=p:=by
  refine Nat.div_eq_of_eq_mul_right hg hp
 have e2:x=(Nat.gcd x.natAbs d:Int)*sg (decide (x<0)) p:=by
  have h0:(x.natAbs:Int)=(Nat.gcd x.natAbs d:Int)*(p:Int):=by rw [← Int.natCast_mul,← hp]
  unfold sg
  by_cases hx:x<0
  ·rw [decide_eq_true hx,if_pos rfl,Int.mul_neg,← h0];omega
  ·rw [decide_eq_false hx,if_neg (by decide),← h0];omega
 rw [e1]
 conv=>lhs;arg 1;rw [e2]
 rw [Int.mul_ediv_cancel_left _ (by omega)]
theorem b4h (q:Nat):((((((a0m q).map a0n).length:Nat):Int)==1)=true∧∃ a,(a0m q)[0]? = some a∧(((a:Nat):Int)==1)=decide (q=1))∨((((((a0m q).map a0n).length:Nat):Int)==1)=false∧q≠1):=by
 rw [List.length_map]
 by_cases h:(a0m q).length=1
 ·refine .inl ⟨beq_iff_eq.2 (by omega),?_⟩
  obtain ⟨a,ha⟩:=a2U (l:=a0m q) (i:=0) (by omega);refine ⟨a,ha,?_⟩;have e:a0m q=[a]:=by
   obtain ⟨b,hb⟩:=List.length_eq_one_iff.1 h;rw [hb] at ha ⊢;cases ha;rfl
  have e2:q=a:=by rw [← a0o q,e];simp [a0g]
  rw [e2];rw [Bool.eq_iff_iff,beq_iff_eq,decide_eq_true_iff];omega
 ·refine .inr ⟨beq_eq_false_iff_ne.2 (by omega),fun hq=>h ?_⟩
  rw [hq,a3z (by decide) (by decide)];rfl
theorem a8V (x y:Int)(hy0:y≠0)(hx:b3i x)(hy:b3i y):a0b C0 83 [rZ x,rZ y] (str (sb (txt (qZ x y)))):=by
 refine a0c.walk w1 d1a rfl fun F=>?_
 unfold qZ;refine sR 0 ?_;refine OkS.seqX (α:=Nat) (fun n=>⟨[(2,.optr 0 0 2 0 0),(3,.optr 1 1 2 0 0)],[⟨1,1,157,2,[.agg [boo false,rD y.natAbs]]⟩,⟨0,0,157,2,[rZ (if y<0 then -x else x)]⟩],n⟩) (fun _=>True) ?_ ?_
 ·by_cases h:y<0
  ·have cx:=b7j x hx
   have cy:=b7j y hy;have e1:rZ (-y)=.agg [boo false,rD y.natAbs]:=by
    show D.agg [boo (decide (-y<0)),rD (-y).natAbs]=_;rw [decide_eq_false (by omega),Int.natAbs_neg]
   rw [e1] at cy;rw [if_pos h];refine sZ 100 ?_;refine nwI (decide_eq_true h) ?_;refine ifI ?_;refine OkS.regD w1 200 [0,1,2] [3,4,5] (by kernel_rfl) ?_;refine gwI kN ?_;refine a0p.same _ cx inferInstance ?_;refine gwI kN ?_;refine a0l.same _ cy inferInstance ?_;refine stI ?_;exact ⟨trivial,_,trivial,wkI⟩
  ·have e1:rZ y=.agg [boo false,rD y.natAbs]:=by
    show D.agg [boo (decide (y<0)),rD y.natAbs]=_;rw [decide_eq_false h]
   rw [if_neg h];refine sZ 100 ?_;refine nwI (decide_eq_false h) ?_;refine ifI ?_;refine skI ?_;refine ⟨rfl,5,trivial,?_⟩;rw [← e1];exact wkI
 rintro n0 -;obtain ⟨z,hz⟩:∃ z,z=(if y<0 then -x else x):=⟨_,rfl⟩
 have hza:z.natAbs=x.natAbs:=by rw [hz];split<;>omega
 obtain ⟨d,hd⟩:∃ d,d=y.natAbs:=⟨_,rfl⟩
 have hd0:d≠0:=by omega
 unfold b3i at hx hy;rw [← hza] at hx;rw [← hd] at hy;rw [← hz,← hd];clear hz hza hd hy0;clear x y;have cg:=b3E z.natAbs d hx hy;obtain ⟨qn,qd⟩:=a9U (x:=z) hd0;have hg:0<Nat.gcd z.natAbs d:=Nat.gcd_pos_of_pos_right _ (Nat.pos_of_ne_zero hd0);have hgl:(a0m (Nat.gcd z.natAbs d)).length<1000000:=Nat.lt_of_le_of_lt (a0z _ _ (Nat.gcd_le_right _ (Nat.pos_of_ne_zero hd0))) hy;have c4:=d1g z.natAbs (Nat.gcd z.natAbs d) (by omega) hx hgl;have c5:a0b C0 160 [rD d,rD (Nat.gcd z.natAbs d)] (.tup [.sl false 1 ((a0m (d / Nat.gcd z.natAbs d)).map a0n),rD (d%Nat.gcd z.natAbs d)]):=d1g d (Nat.gcd z.natAbs d) (by omega) hy hgl;have hpl:(a0m (z.natAbs / Nat.gcd z.natAbs d)).length<1000000:=Nat.lt_of_le_of_lt (a0z _ _ (Nat.div_le_self _ _)) hx;have hql:(a0m (d / Nat.gcd z.natAbs d)).length<1000000:=Nat.lt_of_le_of_lt (a0z _ _ (Nat.div_le_self _ _)) hy;have etx:txt (mkRat z d)=if d / Nat.gcd z.natAbs d=1 then Lib.itoa (sg (decide (z<0)) (z.natAbs / Nat.gcd z.natAbs d)) else Lib.itoa (sg (decide (z<0)) (z.natAbs / Nat.gcd z.natAbs d))++47::Lib.decDigits (d / Nat.gcd z.natAbs d):=by
  unfold txt;rw [qn,qd]
 rw [etx];clear etx qn qd hg hgl;generalize z.natAbs / Nat.gcd z.natAbs d=p at *;generalize d / Nat.gcd z.natAbs d=q at *;generalize z.natAbs%Nat.gcd z.natAbs d=r1 at *;generalize d%Nat.gcd z.natAbs d=r2 at *;generalize Nat.gcd z.natAbs d=gg at *;have c6:=a3N (decide (z<0)) p (by omega);have hab:(sg (decide (z<0)) p).natAbs=p:=by unfold sg;split<;>omega
 have c7:=c0T (sg (decide (z<0)) p) (by unfold b3i;rw [hab];exact hpl);have c8:=a3N false q (by omega);have c9:=c0T (sg false q) (by unfold b3i;show (a0m q).length<1000000;exact hql);have e9:Lib.itoa (sg false q)=Lib.decDigits q:=by rw [b5D false q (by simp)];rfl
 rw [e9] at c9;have l1:=a8q (a0y p);rw [a0o] at l1;have l2:=a8q (a0y q);rw [a0o] at l2;have l3:(Lib.itoa (sg (decide (z<0)) p)).length≤(Lib.decDigits p).length+1:=by
  unfold Lib.itoa;split
  ·rw [hab,List.length_cons];exact Nat.le_refl _
  ·rw [show (sg (decide (z<0)) p).toNat=p by omega];omega
 generalize sg (decide (z<0)) p=pz at *;have s1:=a0r (Lib.itoa pz);have s2:=a0r (Lib.decDigits q);have s3:(⟨#[47]⟩:ByteArray).size=1:=rfl;have s4:(sb (Lib.itoa pz)++(⟨#[47]⟩:ByteArray)).size=(sb (Lib.itoa pz)).size+(⟨#[47]⟩:ByteArray).size:=ByteArray.size_append;generalize Lib.itoa pz=t1 at *;generalize Lib.decDigits q=t2 at *;refine sR 300 ?_;refine cI cg ?_;refine sR 400 ?_;refine cI c4 ?_;refine sR 500 ?_;refine cI c5 ?_;refine sR 600 ?_;refine cI c6 ?_;refine cI c7 ?_;have ht:=b4h q;rcases ht with ⟨h1,a,ha,h2⟩|⟨h1,h2⟩
 ·have ha':=a6z ha
  refine OkS.seq ?_;refine sZ 700 ?_;refine gwI h1 ?_;refine ixI kT ha' ?_;refine gwI (ff2 h1 h2) ?_
  by_cases hq:q=1
  ·rw [decide_eq_true hq,if_pos hq]
   refine ifI ?_;refine sR 800 ?_;refine rtI ?_;exact a0a rfl IsPure.out
  ·rw [decide_eq_false hq,if_neg hq]
   refine ifI ?_;refine skI ?_;refine sR 900 ?_;refine a0l.same _ c8 inferInstance ?_;refine stI ?_;refine a0l.same _ c9 inferInstance ?_;refine stI ?_;refine rtI ?_;refine a0a ?_ IsPure.out;show str ((⟨t1.toArray⟩++⟨([47]:List UInt8).toArray⟩:ByteArray)++⟨t2.toArray⟩)=_;rw [a3U,a3U,List.append_assoc];rfl
 ·rw [if_neg h2]
  refine OkS.seq ?_;refine sZ 700 ?_;refine nwI h1 ?_;refine gwI kF ?_;refine ifI ?_;refine skI ?_;refine sR 900 ?_;refine a0l.same _ c8 inferInstance ?_;refine stI ?_;refine a0l.same _ c9 inferInstance ?_;refine stI ?_;refine rtI ?_;refine a0a ?_ IsPure.out;show str ((⟨t1.toArray⟩++⟨([47]:List UInt8).toArray⟩:ByteArray)++⟨t2.toArray⟩)=_;rw [a3U,a3U,List.append_assoc];rfl
set_option maxHeartbeats 2000000
theorem a7c (k:Nat)(h:k<10):(UInt8.ofNat (48+k)).toNat=48+k:=by
 rw [UInt8.toNat_ofNat'];omega
theorem a1k:∀ n:Nat,(Lib.decDigits n).all a0x=true∧dv (Lib.decDigits n)=n∧(Lib.decDigits n)≠[]:=fun n=>by
 induction n using Nat.strongRecOn with
 | _ n ih =>
  have one:∀ k,k<10→a0x (UInt8.ofNat (48+k))=true:=fun k hk=>by
   unfold a0x;rw [a7c k hk,Bool.and_eq_true];exact ⟨Nat.ble_eq_true_of_le (by omega),Nat.ble_eq_true_of_le (by omega)⟩
  have vone:∀ k,k<10→dv [UInt8.ofNat (48+k)]=k:=fun k hk=>by
   show 0*10+((UInt8.ofNat (48+k)).toNat - 48)=k;rw [a7c k hk];omega
  rw [Lib.decDigits];split
  ·rename_i h
   exact ⟨by rw [List.all_cons,one n h];rfl,vone n h,by simp⟩
  ·rename_i h
   obtain ⟨h1,h2,h3⟩:=ih (n / 10) (by omega);refine ⟨by rw [List.all_append,h1,List.all_cons,one _ (Nat.mod_lt _ (by decide))];rfl,?_,by simp⟩;rw [a4i,h2,vone _ (Nat.mod_lt _ (by decide)),List.length_singleton];omega
theorem b9y {n:Nat}(h:n≠0):∃ c l,Lib.decDigits n=c::l∧c≠48:=by
 induction n using Nat.strongRecOn with
 | _ n ih =>
  rw [Lib.decDigits];split
  ·rename_i h1
   refine ⟨_,_,rfl,fun hh=>?_⟩
   have:=congrArg UInt8.toNat hh
   rw [a7c n h1] at this
   have:48+n=48:=this
   omega
  ·rename_i h1
   obtain ⟨c,l,e,hc⟩:=ih (n / 10) (by omega) (by omega);rw [e];exact ⟨c,l++_,rfl,hc⟩
theorem c9f {c:UInt8}(h:a0x c=true):c≠47∧c≠45:=by
 obtain ⟨h1,h2⟩:=a2d h;exact ⟨fun hh=>by subst hh;simp at h1,fun hh=>by subst hh;simp at h1⟩
theorem a4u (z:Int):a1J (Lib.itoa z)=decide (z<0)∧a0j (Lib.itoa z)=Lib.decDigits z.natAbs:=by
 unfold Lib.itoa
 by_cases h:z<0
 ·rw [if_pos h,decide_eq_true h]
  exact ⟨rfl,rfl⟩
 ·rw [if_neg h,decide_eq_false h,show z.toNat=z.natAbs by omega]
  have h1:=a6h (a1k z.natAbs).1;exact ⟨h1,a1C (a1k z.natAbs).1⟩
theorem b8m (z:Int):rv (Lib.itoa z)=z:=by
 unfold rv;rw [(a4u z).1,(a4u z).2,(a1k z.natAbs).2.1]
 by_cases h:z<0
 ·rw [decide_eq_true h,if_pos rfl];omega
 ·rw [decide_eq_false h,if_neg (by decide)];omega
theorem a6w (z:Int):∀ c∈Lib.itoa z,(c != 47)=true:=fun c hc=>by
 have hd:∀ n,∀ c∈Lib.decDigits n,(c != 47)=true:=fun n c h=>by
  have:=(c9f (List.all_eq_true.1 (a1k n).1 c h)).1
  simpa using this
 unfold Lib.itoa at hc;split at hc
 ·rcases List.mem_cons.1 hc with rfl|h
  ·rfl
  ·exact hd _ c h
 ·exact hd _ c hc
theorem a3x {p:UInt8→Bool}:∀ {l:List UInt8} (m:List UInt8),(∀ c∈l,p c=true)→(l++m).takeWhile p=l++m.takeWhile p
 | [],_,_=>rfl
 | a::l,m,h=>by
  rw [List.cons_append,List.takeWhile_cons,if_pos (h a List.mem_cons_self),a3x m fun c hc=>h c (List.mem_cons_of_mem _ hc)];rfl
theorem a3R (r:Rat):a0d (txt r)=(Lib.itoa r.num).length:=by
 unfold a0d txt;split
 ·have:=a3x (p:=(· != 47)) [] (a6w r.num)
  rw [List.append_nil] at this;rw [this];simp
 ·rw [a3x (p:=(· != 47)) _ (a6w r.num)]
  simp
theorem a5U (r:Rat):a1V (txt r)=Lib.itoa r.num:=by
 unfold a1V;rw [a3R];unfold txt;split
 ·exact List.take_of_length_le (Nat.le_refl _)
 ·exact List.take_left' rfl
theorem a5e (r:Rat):a1r (txt r)=if r.den=1 then [] else Lib.decDigits r.den:=by
 unfold a1r;rw [a3R];unfold txt;split
 ·exact List.drop_of_length_le (Nat.le_succ _)
 ·rw [List.drop_append]
  rw [List.drop_of_length_le (Nat.le_succ _),Nat.add_sub_cancel_left];rfl
theorem a6e (r:Rat):a3J (txt r) = !decide (r.den=1):=by
 unfold a3J;rw [a3R];unfold txt
 by_cases h:r.den=1
 ·rw [if_pos h,decide_eq_true h,decide_eq_false (by omega)];rfl
 ·rw [if_neg h,decide_eq_false h,List.length_append,List.length_cons,decide_eq_true (by omega)];rfl
theorem a9Z (r:Rat):c8j (txt r)=r.num:=by unfold c8j;rw [a5U,b8m]
theorem b3A (r:Rat):c7E (txt r)=r.den:=by
 unfold c7E;rw [a6e,a5e]
 by_cases h:r.den=1
 ·rw [decide_eq_true h,h];rfl
 ·rw [decide_eq_false h,if_neg h,if_pos (show (!false)=true from rfl),a8L (a1k _).1,(a1k _).2.1]
theorem a6Q (r:Rat):(a0j (a1V (txt r))).all a0x=true:=by rw [a5U,(a4u _).2];exact (a1k _).1
theorem a6X (r:Rat):(a0j (a1r (txt r))).all a0x=true:=by
 rw [a5e];split
 ·rfl
 ·rw [a1C (a1k _).1];exact (a1k _).1
theorem b5O (z:Int):Lib.itoa z≠[]:=by
 unfold Lib.itoa;split
 ·simp
 ·exact (a1k _).2.2
theorem c2v (r:Rat):txt r≠[]:=by
 unfold txt;split
 ·exact b5O _
 ·simp
theorem a9L (r:Rat):a1J (txt r)=decide (r.num<0):=by
 rw [← (a4u r.num).1];unfold txt;split
 ·rfl
 ·have:=b5O r.num
  cases h:Lib.itoa r.num with
  | nil=>exact absurd h this
  | cons c l=>rfl
theorem b0o (r:Rat):decide (txt r=[48])=decide (r.num=0):=by
 refine decide_eq_decide.2 ⟨fun h=>?_,fun h=>?_⟩
 ·have h1:=a9Z r
  rw [h] at h1;rw [← h1];decide
 ·have:r.den=1:=by
   have:=r.reduced
   rw [h] at this;simpa using this
  unfold txt;rw [if_pos this,h];show Lib.decDigits 0=[48];rw [Lib.decDigits,dif_pos (by decide)];rfl
abbrev rR (r:Rat):D:=str (sb (txt r))
def b0H (r:Rat):Prop:=(txt r).length≤1000000
theorem b6J (r:Rat)(hl:b0H r):a0b C0 71 [rR r] (i64 (b8Z r)):=by
 refine a0c.walk w1 d0r rfl fun F=>?_
 have hsz:=a0r (txt r);unfold b0H at hl;have ez:=a4h (txt r) [48];rw [b0o] at ez;have en:=a9L r;refine sR 0 ?_;refine OkS.seq ?_;refine OkS.seq ?_;have ez2:a1P (sb (txt r)) ⟨#[48]⟩=decide (r.num=0):=ez;have hne:=c2v r;refine OkS.reg w1 100 (by kernel_rfl) ?_;refine nwI ez2 ?_
 by_cases h0:r.num=0
 ·rw [decide_eq_true h0]
  refine ifI ?_;refine sR 200 ?_;refine rtI ?_;exact a0a (by unfold b8Z;rw [h0];rfl) IsPure.out
 ·rw [decide_eq_false h0]
  have hpos:0<(txt r).length:=List.length_pos_iff.2 hne;have e0:decide (((sb (txt r)).size:Int)>0)=true:=decide_eq_true (by omega);have e1:((((txt r).getD (Int.toNat 0) 0).toNat:Int)==45)=decide (r.num<0):=by
   rw [← en];cases ht:txt r with
   | nil=>exact absurd ht hne
   | cons c l=>exact a6V c l
  refine ifI ?_;refine skI ?_;refine OkS.seq ?_;refine sZ 300 ?_;refine gwI e0 ?_;refine gwI (ff3 kT e0 e1) ?_
  by_cases hn:r.num<0
  ·rw [decide_eq_true hn]
   refine ifI ?_;refine sR 400 ?_;refine rtI ?_;exact a0a (by unfold b8Z;congr 3;omega) IsPure.out
  ·rw [decide_eq_false hn]
   refine ifI ?_;refine skI ?_;refine sR 500 ?_;refine rtI ?_;exact a0a (by unfold b8Z;congr 3;omega) IsPure.out
theorem d1O (r:Rat)(hl:b0H r):a0b C0 137 [rR r] (boo (decide (r.den=1))):=by
 refine a0c.walk w1 c7W rfl fun F=>?_
 have hsz:=a0r (txt r);unfold b0H at hl;have cs:=a5S (txt r) (by omega);have hh:=a6e r;have hle:=a1t (txt r);unfold a3J at hh;have et:(((a0d (txt r):Nat):Int)==((txt r).length:Int))=decide (r.den=1):=by
  have:decide (r.den=1) = !decide (a0d (txt r)<(txt r).length):=by rw [hh];simp
  rw [this];rw [Bool.eq_iff_iff,beq_iff_eq,Bool.not_eq_true',decide_eq_false_iff_not];omega
 refine sR 0 ?_;refine sR 100 ?_;refine cI cs ?_;rw [hsz,et];refine rtI ?_;exact a0a rfl IsPure.out
theorem a5i (z:Int):txt (z:Rat)=Lib.itoa z:=by
 unfold txt;rw [if_pos (Rat.den_intCast z),Rat.num_intCast]
theorem d0v (r:Rat)(hl:b0H r):a0b C0 122 [rR r] (rR (r.num:Rat)):=by
 refine a0c.walk w1 c5o rfl fun F=>?_
 have hsz:=a0r (txt r);unfold b0H at hl;have cs:=a5S (txt r) (by omega);have hle:=a1t (txt r);have e1:(sb (txt r)).extract 0 (a0d (txt r))=sb (txt (r.num:Rat)):=by rw [a1x,List.drop_zero,a5i,← a5U];rfl
 refine sR 0 ?_;refine sR 100 ?_;refine cI cs ?_;simp only [Int.toNat_natCast,e1];refine rtI ?_;exact a0a rfl IsPure.out
theorem d1j (r:Rat)(hl:b0H r):a0b C0 123 [rR r] (rR ((r.den:Int):Rat)):=by
 refine a0c.walk w1 c8l rfl fun F=>?_
 have hsz:=a0r (txt r);unfold b0H at hl;have cs:=a5S (txt r) (by omega);have hh:=a6e r;have hle:=a1t (txt r);unfold a3J at hh;have ed:=a5e r;unfold a1r at ed;refine sR 0 ?_;refine sR 100 ?_;refine cI cs ?_;refine OkS.seq ?_;refine OkS.seq ?_
 by_cases h:r.den=1
 ·rw [decide_eq_true h] at hh
  have hge:=of_decide_eq_false (p:=a0d (txt r)<(txt r).length) hh;have et:(((a0d (txt r):Nat):Int)==((txt r).length:Int))=true:=beq_iff_eq.2 (by omega);refine OkS.reg w1 200 (by kernel_rfl) ?_;refine nwI (ff2 hsz et) ?_;refine ifI ?_;refine sR 300 ?_;refine rtI ?_;refine a0a ?_ IsPure.out;show _=str (sb (txt ((r.den:Int):Rat)));rw [a5i,h];show _=str (sb (Lib.decDigits 1));rw [Lib.decDigits,dif_pos (by decide)];rfl
 ·rw [decide_eq_false h] at hh
  have hge:=of_decide_eq_true (p:=a0d (txt r)<(txt r).length) hh;have et:(((a0d (txt r):Nat):Int)==((txt r).length:Int))=false:=beq_eq_false_iff_ne.2 (by omega);have wk:IntKind.i64.wrap (((a0d (txt r):Nat):Int)+1)=((a0d (txt r)+1:Nat):Int):=wI (by omega) (by omega);have e1:(sb (txt r)).extract (a0d (txt r)+1) (txt r).length=sb (txt ((r.den:Int):Rat)):=by
   rw [if_neg h] at ed;rw [a1x,List.take_of_length_le (Nat.le_refl _),ed,a5i];rfl
  refine OkS.reg w1 200 (by kernel_rfl) ?_;refine nwI (ff2 hsz et) ?_;refine ifI ?_;refine skI ?_;refine sZ 400 ?_;refine gwI (ff3 hsz wk kN) ?_;refine gwI e1 ?_;refine rtI ?_;exact a0a rfl IsPure.out
theorem a7X {r:Rat}(h:r.num<0):(txt r).drop 1=txt (-r)∧(txt (-r)).length+1=(txt r).length:=by
 have e:Lib.itoa r.num=45::Lib.itoa (-r.num):=by
  unfold Lib.itoa;rw [if_pos h,if_neg (by omega),show (-r.num).toNat=r.num.natAbs by omega]
 have e2:txt r=45::txt (-r):=by
  unfold txt;rw [Rat.neg_den,Rat.neg_num,e];split<;>rfl
 rw [e2];exact ⟨rfl,rfl⟩
theorem b9P {r:Rat}(h:0<r.num):txt (-r)=45::txt r:=by
 obtain ⟨h1,h2⟩:=a7X (r:=-r) (by rw [Rat.neg_num];omega);rw [Rat.neg_neg] at h1;have h3:=a9L (-r);rw [decide_eq_true (by rw [Rat.neg_num];omega)] at h3;cases ht:txt (-r) with
 | nil=>rw [ht] at h3;cases h3
 | cons c l =>
  rw [ht] at h1 h3
  have:c=45:=by simpa [a1J] using h3
  rw [this,← h1];rfl
theorem b8M (r:Rat):decide (b8Z r<0)=decide (r.num<0):=decide_eq_decide.2 (by unfold b8Z;omega)
theorem c4Y (r:Rat):(b8Z r==0)=decide (r.num=0):=by
 rw [Bool.eq_iff_iff,beq_iff_eq,decide_eq_true_iff];unfold b8Z;omega
theorem d1P (r:Rat)(hl:b0H r):a0b C0 139 [rR r] (rR (-r)):=by
 refine a0c.walk w1 c9m rfl fun F=>?_
 have hsz:=a0r (txt r);have cs:=b6J r hl;unfold b0H at hl;have e1:=b8M r;have e2:=c4Y r;refine sR 0 ?_;refine OkS.seq ?_;refine sR 100 ?_;refine cI cs ?_;rw [e1]
 by_cases h:r.num<0
 ·obtain ⟨t1,t2⟩:=a7X h
  have ee:(sb (txt r)).extract (Int.toNat 1) (txt r).length=sb (txt (-r)):=by
   rw [a1x,List.take_of_length_le (Nat.le_refl _),← t1];rfl
  rw [decide_eq_true h];refine ifI ?_;refine sZ 200 ?_;refine gwI (ff2 hsz kN) ?_;rw [ee];refine rtI ?_;exact a0a rfl IsPure.out
 ·rw [decide_eq_false h]
  refine ifI ?_;refine skI ?_;refine OkS.seq ?_;refine sR 300 ?_;refine cI cs ?_;rw [e2]
  by_cases h0:r.num=0
  ·rw [decide_eq_true h0]
   refine ifI ?_;refine sR 400 ?_;refine rtI ?_;refine a0a ?_ IsPure.out
   have:r=0:=Rat.num_eq_zero.1 h0
   rw [this];rfl
  ·have tp:=b9P (r:=r) (by omega)
   have z3:(⟨#[45]⟩:ByteArray).size=1:=rfl;rw [decide_eq_false h0];refine ifI ?_;refine skI ?_;refine sR 500 ?_;refine rtI ?_;refine a0a ?_ IsPure.out;show str ((⟨([45]:List UInt8).toArray⟩:ByteArray)++⟨(txt r).toArray⟩)=str (sb (txt (-r)));rw [a3U,tp];rfl
theorem d1C (r:Rat)(hl:b0H r):a0b C0 121 [rR r] (rR (if r.num<0 then -r else r)):=by
 refine a0c.walk w1 c8H rfl fun F=>?_
 have hsz:=a0r (txt r);have cs:=b6J r hl;unfold b0H at hl;have e1:=b8M r;refine sR 0 ?_;refine OkS.seq ?_;refine sR 100 ?_;refine cI cs ?_;rw [e1]
 by_cases h:r.num<0
 ·obtain ⟨t1,t2⟩:=a7X h
  have ee:(sb (txt r)).extract (Int.toNat 1) (txt r).length=sb (txt (-r)):=by
   rw [a1x,List.take_of_length_le (Nat.le_refl _),← t1];rfl
  rw [decide_eq_true h,if_pos h];refine ifI ?_;refine sZ 200 ?_;refine gwI (ff2 hsz kN) ?_;rw [ee];refine rtI ?_;exact a0a rfl IsPure.out
 ·rw [decide_eq_false h,if_neg h]
  refine ifI ?_;refine skI ?_;refine sR 300 ?_;refine rtI ?_;exact a0a rfl IsPure.out
def a4O (r:Rat):Rat:=if r.num<0 then -r else r
theorem a7e (r:Rat):(a4O r).num=r.num.natAbs∧(a4O r).den=r.den:=by
 unfold a4O;split
 ·rw [Rat.neg_num,Rat.neg_den];exact ⟨by omega,rfl⟩
 ·exact ⟨by omega,rfl⟩
def qk (r:Rat):Bool:=!decide (20<(txt r).length) && !(decide (9<a0d (txt (a4O r)))||decide (10<(txt (a4O r)).length - a0d (txt (a4O r))))
theorem b9f (r:Rat):(txt (a4O r)).length≤(txt r).length:=by
 unfold a4O;split
 ·rename_i h
  have:=(a7X h).2
  omega
 ·exact Nat.le_refl _
theorem a5u (r:Rat):Lib.itoa (a4O r).num=Lib.decDigits r.num.natAbs:=by
 rw [(a7e r).1];unfold Lib.itoa;rw [if_neg (by omega)];rfl
theorem a5o {r:Rat}(h:qk r=true):r.num.natAbs<10^9∧r.den<10^9:=by
 unfold qk at h;simp only [Bool.and_eq_true,Bool.not_eq_true',Bool.or_eq_false_iff,decide_eq_false_iff_not] at h;obtain ⟨h1,h2,h3⟩:=h;have hs:=a3R (a4O r);rw [a5u] at hs;have hd:=a5e (a4O r);rw [(a7e r).2] at hd;have hdl:(a1r (txt (a4O r))).length=(txt (a4O r)).length - (a0d (txt (a4O r))+1):=by unfold a1r;rw [List.length_drop]
 have d1:=a5b _ (a1k r.num.natAbs).1;have d2:=a5b _ (a1k r.den).1;rw [(a1k _).2.1] at d1 d2;refine ⟨Nat.lt_of_lt_of_le d1 (Nat.pow_le_pow_right (by decide) (by omega)),?_⟩
 by_cases h1:r.den=1
 ·rw [h1];decide
 ·rw [if_neg h1] at hd
  rw [hd] at hdl;exact Nat.lt_of_lt_of_le d2 (Nat.pow_le_pow_right (by decide) (by omega))
theorem a9J (r:Rat)(hl:b0H r):a0b C0 92 [rR r] (.tup [i64 (if qk r then r.num else 0),i64 (if qk r then (r.den:Int) else 0),boo (qk r)]):=by
 refine a0c.walk w1 d0V rfl fun F=>?_
 have hsz:=a0r (txt r);unfold b0H at hl;have hne:=c2v r;have hpos:0<(txt r).length:=List.length_pos_iff.2 hne;refine sR 0 ?_;refine sR 100 ?_;refine OkS.seq ?_;refine OkS.seq ?_
 by_cases h20:20<(txt r).length
 ·have e2:decide (((txt r).length:Int)>20)=true:=decide_eq_true (by omega)
  have eq:qk r=false:=by unfold qk;rw [decide_eq_true h20];rfl
  rw [eq];refine OkS.reg w1 200 (by kernel_rfl) ?_;refine nwI (ff2 hsz e2) ?_;refine ifI ?_;refine sR 300 ?_;refine rtI ?_;exact a0a rfl IsPure.out
 ·have e2:decide (((txt r).length:Int)>20)=false:=decide_eq_false (by omega)
  have eq:qk r = !(decide (9<a0d (txt (a4O r)))||decide (10<(txt (a4O r)).length - a0d (txt (a4O r)))):=by unfold qk;rw [decide_eq_false h20];rfl
  have en:=a9L r;refine OkS.reg w1 200 (by kernel_rfl) ?_;refine nwI (ff2 hsz e2) ?_;refine ifI ?_;refine skI ?_;refine OkS.seqX (α:=Nat) (fun n=>⟨[(5,rR r),(6,boo (decide (r.num<0)))],[],n⟩) (fun _=>True) ?_ ?_
  ·have e0:decide (((sb (txt r)).size:Int)>0)=true:=decide_eq_true (by omega)
   have e1:((((txt r).getD (Int.toNat 0) 0).toNat:Int)==45)=decide (r.num<0):=by
    rw [← en];cases ht:txt r with
    | nil=>exact absurd ht hne
    | cons c l=>exact a6V c l
   refine OkS.reg w1 400 (by kernel_rfl) ?_;refine gwI e0 ?_;refine gwI (ff3 kT e0 e1) ?_;exact ⟨trivial,_,trivial,wkI⟩
  rintro n0 -;refine OkS.seqX (α:=Nat) (fun n=>⟨[(5,rR (a4O r)),(6,boo (decide (r.num<0)))],[],n⟩) (fun _=>True) ?_ ?_
  ·refine sR 500 ?_
   by_cases h:r.num<0
   ·obtain ⟨t1,t2⟩:=a7X h
    have ea:a4O r = -r:=by unfold a4O;rw [if_pos h]
    have ee:(sb (txt r)).extract (Int.toNat 1) (txt r).length=sb (txt (a4O r)):=by
     rw [ea,a1x,List.take_of_length_le (Nat.le_refl _),← t1];rfl
    rw [decide_eq_true h];refine ifI ?_;refine OkS.reg w1 600 (by kernel_rfl) ?_;refine gwI (ff2 hsz kN) ?_;rw [ee];exact ⟨trivial,_,trivial,wkI⟩
   ·have ea:a4O r=r:=by unfold a4O;rw [if_neg h]
    rw [decide_eq_false h,ea];refine ifI ?_;refine skI ?_;exact ⟨rfl,_,trivial,wkI⟩
  rintro n1 -;have hal:=b9f r;have hsa:=a3R (a4O r);rw [a5u] at hsa;have hn:=a5U (a4O r);rw [a5u] at hn;have hd:=a5e (a4O r);rw [(a7e r).2] at hd;have hh:=a6e (a4O r);rw [(a7e r).2] at hh;unfold a3J at hh;have hle:=a1t (txt (a4O r));have cs:=a5S (txt (a4O r)) (by omega);have hszA:=a0r (txt (a4O r));clear hsz hne hpos e2 en;generalize hT:txt (a4O r)=T at *;have eR:rR (a4O r)=str (sb T):=by rw [← hT]
  rw [eR];clear hT eR;refine sR 700 ?_;refine cI cs ?_;have w8:IntKind.i64.wrap ((T.length:Int) - (a0d T:Int))=((T.length - a0d T:Nat):Int):=by rw [wI (by omega) (by omega)];omega
  have eb:decide (((T.length - a0d T:Nat):Int)>10)=decide (10<T.length - a0d T):=decide_eq_decide.2 (by omega)
  by_cases h9:9<a0d T
  ·have e8:decide ((a0d T:Int)>9)=true:=decide_eq_true (by omega)
   rw [decide_eq_true h9] at eq;have eq2:qk r=false:=eq;rw [eq2];refine OkS.seq ?_;refine sZ 800 ?_;refine nwI e8 ?_;refine gwI kT ?_;refine ifI ?_;refine sR 900 ?_;refine rtI ?_;exact a0a rfl IsPure.out
  have e8:decide ((a0d T:Int)>9)=false:=decide_eq_false (by omega);rw [decide_eq_false h9] at eq
  by_cases h10:10<T.length - a0d T
  ·rw [decide_eq_true h10] at eq eb
   have eq2:qk r=false:=eq;rw [eq2];refine OkS.seq ?_;refine sZ 800 ?_;refine nwI e8 ?_;refine gwI (ff4 kF hszA w8 eb) ?_;refine ifI ?_;refine sR 900 ?_;refine rtI ?_;exact a0a rfl IsPure.out
  rw [decide_eq_false h10] at eq eb;have eq2:qk r=true:=eq;rw [eq2];refine OkS.seq ?_;refine sZ 800 ?_;refine nwI e8 ?_;refine gwI (ff4 kF hszA w8 eb) ?_;refine ifI ?_;refine skI ?_;have hd1:=a1k r.num.natAbs;have hd2:=a1k r.den;have c1:=b0j (Lib.decDigits r.num.natAbs) hd1.1 (by omega);rw [hd1.2.1] at c1;have e10:(sb T).extract 0 (a0d T)=sb (Lib.decDigits r.num.natAbs):=by
   rw [a1x,List.drop_zero,← hn];rfl
  refine sZ 1000 ?_;refine gwI (ff2 hszA kN) ?_;refine gwI e10 ?_;refine a0l.same _ c1 inferInstance ?_;refine stI ?_;refine OkS.seqX (α:=Nat) (fun n=>⟨[(6,boo (decide (r.num<0))),(8,i64 (r.num.natAbs:Int)),(9,i64 (r.den:Int))],[],n⟩) (fun _=>True) ?_ ?_
  ·by_cases hden:r.den=1
   ·rw [decide_eq_true hden] at hh
    have e11:decide ((a0d T:Int)<(T.length:Int))=false:=decide_eq_false (by have:=of_decide_eq_false (p:=a0d T<T.length) hh;omega);rw [hden];refine sZ 1100 ?_;refine nwI (ff2 hszA e11) ?_;refine ifI ?_;refine skI ?_;exact ⟨rfl,_,trivial,wkI⟩
   ·rw [decide_eq_false hden] at hh
    rw [if_neg hden] at hd;have hlt:=of_decide_eq_true (p:=a0d T<T.length) hh;have e11:decide ((a0d T:Int)<(T.length:Int))=true:=decide_eq_true (by omega);have wk:IntKind.i64.wrap (((a0d T:Nat):Int)+1)=((a0d T+1:Nat):Int):=wI (by omega) (by omega);have e12:(sb T).extract (a0d T+1) T.length=sb (Lib.decDigits r.den):=by
     rw [a1x,List.take_of_length_le (Nat.le_refl _),← hd];rfl
    have hdl:(Lib.decDigits r.den).length≤18:=by
     rw [← hd];unfold a1r;rw [List.length_drop];omega
    have c2:=b0j (Lib.decDigits r.den) hd2.1 hdl;rw [hd2.2.1] at c2;refine sZ 1100 ?_;refine nwI (ff2 hszA e11) ?_;refine ifI ?_;refine OkS.reg w1 1200 (by kernel_rfl) ?_;refine gwI (ff3 hszA wk kN) ?_;refine gwI e12 ?_;refine a0l.same _ c2 inferInstance ?_;refine stI ?_;exact ⟨trivial,_,trivial,wkI⟩
  rintro n2 -;obtain ⟨b1,b2⟩:=a5o eq2;refine OkS.seqX (α:=Nat) (fun n=>⟨[(8,i64 r.num),(9,i64 (r.den:Int))],[],n⟩) (fun _=>True) ?_ ?_
  ·refine sR 1300 ?_
   by_cases h:r.num<0
   ·have wn:IntKind.i64.wrap (0 - (r.num.natAbs:Int))=r.num:=by rw [wI (by omega) (by omega)];omega
    rw [decide_eq_true h];refine ifI ?_;refine OkS.reg w1 1400 (by kernel_rfl) ?_;refine nwI wn ?_;exact ⟨trivial,_,trivial,wkI⟩
   ·have en:(r.num.natAbs:Int)=r.num:=by omega
    rw [decide_eq_false h,en];refine ifI ?_;refine skI ?_;exact ⟨rfl,_,trivial,wkI⟩
  rintro n3 -;refine sR 1500 ?_;refine rtI ?_;exact a0a rfl IsPure.out
theorem b5A (b:Bool)(n:Nat):(sg b n).natAbs=n:=by unfold sg;split<;>omega
theorem c4s (z:Int)(d:Nat)(hz:z.natAbs≤4000000000000000000)(hd0:0<d)(hd:d≤4000000000000000000):a0b C0 31 [i64 z,i64 (d:Int)] (rR (mkRat z d)):=by
 refine a0c.walk w1 d1X rfl fun F=>?_
 have hg:0<Nat.gcd z.natAbs d:=Nat.gcd_pos_of_pos_right _ hd0;have hgl:Nat.gcd z.natAbs d≤d:=Nat.gcd_le_right _ hd0;obtain ⟨qn,qd⟩:=a9U (x:=z) (d:=d) (by omega);have etx:txt (mkRat z d)=if d / Nat.gcd z.natAbs d=1 then Lib.itoa (mkRat z d).num else Lib.itoa (mkRat z d).num++47::Lib.decDigits (d / Nat.gcd z.natAbs d):=by
  unfold txt;rw [qd]
 have q1:z.tdiv (Nat.gcd z.natAbs d:Nat)=(mkRat z d).num:=by
  rw [qn];obtain ⟨p,hp⟩:=Nat.gcd_dvd_left z.natAbs d;have e1:z.natAbs / Nat.gcd z.natAbs d=p:=Nat.div_eq_of_eq_mul_right hg hp;have e2:z=(Nat.gcd z.natAbs d:Int)*sg (decide (z<0)) p:=by
   have h0:(z.natAbs:Int)=(Nat.gcd z.natAbs d:Int)*(p:Int):=by rw [← Int.natCast_mul,← hp]
   unfold sg
   by_cases hx:z<0
   ·rw [decide_eq_true hx,if_pos rfl,Int.mul_neg,← h0];omega
   ·rw [decide_eq_false hx,if_neg (by decide),← h0];omega
  rw [e1]
  conv=>lhs;arg 1;rw [e2]
  rw [Int.mul_tdiv_cancel_left _ (by omega)]
 have q2:(d:Int).tdiv (Nat.gcd z.natAbs d:Nat)=((d / Nat.gcd z.natAbs d:Nat):Int):=rfl;have q5:(mkRat z d).num.natAbs≤4000000000000000000:=by
  rw [qn];rw [b5A];exact Nat.le_trans (Nat.div_le_self _ _) hz
 have q4:d / Nat.gcd z.natAbs d≤4000000000000000000:=Nat.le_trans (Nat.div_le_self _ _) hd;have hx:0<d / Nat.gcd z.natAbs d:=Nat.div_pos hgl hg;have ert:rR (mkRat z d)=str (sb (if d / Nat.gcd z.natAbs d=1 then Lib.itoa (mkRat z d).num else Lib.itoa (mkRat z d).num++47::Lib.decDigits (d / Nat.gcd z.natAbs d))):=by rw [← etx]
 rw [ert];clear etx ert qn qd;generalize (mkRat z d).num=pz at *;refine fR 0 ?_;refine OkS.seqW ⟨[(0,i64 z),(1,i64 d),(4,str ⟨#[]⟩)],[],50⟩ ?_ ?_
 ·refine OkS.seq ?_
  have l1:(decide (z < -4000000000000000000))=false:=by apply decide_eq_false;omega
  have l2:(decide (z>4000000000000000000))=false:=by apply decide_eq_false;omega
  have l3:(decide ((d:Int) < -4000000000000000000))=false:=by apply decide_eq_false;omega
  have l4:(decide ((d:Int)>4000000000000000000))=false:=by apply decide_eq_false;omega
  refine OkS.reg w1 100 (by kernel_rfl) ?_
  repeat' (first|(refine And.intro (by exact sdI) ?_;(refine dsI ?_);(try simp only [a8D,b5n,l1,l2,l3,l4]))|((refine brI (fun hb=>?_) (fun hb=>?_))<;>(try simp only [Bool.not_eq_true',Bool.not_eq_false'] at hb)<;>(try simp only [hb])<;>(refine dsI ?_)))
  refine ifI ?_;refine skI ?_;exact And.intro (by trivial) (wkI)
 refine OkS.seqW ⟨[(0,i64 z),(1,i64 d),(4,str ⟨#[]⟩)],[],100⟩ ?_ ?_
 ·refine fR 300 ?_
  refine ifI ?_;have e27:(decide ((d:Int)<0))=false:=by simp
  rw [e27];refine skI ?_;exact And.intro (by trivial) (wkI)
 refine OkS.seq ?_;have m1:max z (IntKind.i64.wrap (0 - z))=(z.natAbs:Int):=by rw [wI (by omega) (by omega)];omega
 refine OkS.reg w1 500 (by kernel_rfl) ?_;refine mwI m1 ?_;refine dI (c3E z.natAbs d (by omega) (by omega)) ?_;refine OkS.seq ?_;refine OkS.regD w1 600 [0,1,2,3,4,5,6] [7] (by kernel_rfl) ?_;refine nxI ?_;have w1p:IntKind.i64.wrap pz=pz:=wI (by omega) (by omega);rw [q1,q2,w1p,wN (Nat.le_trans q4 (by decide))];clear q1 q2 hg hgl;generalize d / Nat.gcd z.natAbs d=y at *;refine fR 700 ?_;have c1:=a4t pz.natAbs 1 (by omega);have c2:=a4t y 1 (by omega);rw [b6A] at c1 c2;have s1:=a1q 18 pz.natAbs (Nat.lt_of_le_of_lt q5 (by decide));have s2:=a1q 18 y (Nat.lt_of_le_of_lt q4 (by decide));have z1:=a7T (Lib.decDigits pz.natAbs);have z2:=a7T (Lib.decDigits y);have m1:max pz (IntKind.i64.wrap (0 - pz))=(pz.natAbs:Int):=by rw [wI (by omega) (by omega)];omega
 refine OkS.seqX (α:=Nat) (fun n=>⟨[(0,i64 pz),(1,i64 (y:Int)),(4,str ⟨#[]⟩),(6,str (sb (if pz<0 then [45] else [])))],[],n⟩) (fun _=>True) ?_ ?_
 ·refine fR 800 ?_
  by_cases h:pz<0
  ·rw [decide_eq_true h,if_pos h]
   refine ifI ?_;refine fI 900 ?_;exact ⟨rfl,_,trivial,wkI⟩
  ·rw [decide_eq_false h,if_neg h]
   refine ifI ?_;refine skI ?_;exact ⟨rfl,_,trivial,wkI⟩
 rintro n0 -;have ei:(if pz<0 then [45] else [])++Lib.decDigits pz.natAbs=Lib.itoa pz:=by
  unfold Lib.itoa;split
  ·rfl
  ·rw [show pz.toNat=pz.natAbs by omega];rfl
 have z3:=a0r (if pz<0 then [45] else []);have z4:(if pz<0 then [45] else []:List UInt8).length≤1:=by split<;>simp
 have z5:(Lib.itoa pz).length≤20:=by rw [← ei,List.length_append];omega
 refine sZ 1000 ?_;refine mwI m1 ?_;refine dI c1 ?_;rw [a3U,ei];have z6:=a7T (Lib.itoa pz);generalize Lib.itoa pz=t1 at *;clear ei z3 z4;refine OkS.seqX (α:=Nat) (fun n=>⟨[(6,str (sb (if y=1 then t1 else t1++47::Lib.decDigits y)))],[],n⟩) (fun _=>True) ?_ ?_
 ·refine fR 1100 ?_
  by_cases hy:y=1
  ·rw [if_pos hy]
   have e54:(decide ((y:Int)>1))=false:=by apply decide_eq_false;omega
   rw [e54];refine ifI ?_;refine skI ?_;exact ⟨rfl,_,trivial,wkI⟩
  ·rw [if_neg hy]
   have e54:(decide ((y:Int)>1))=true:=by apply decide_eq_true;omega
   have s3:(⟨#[47]⟩:ByteArray).size=1:=rfl;have sc:((⟨t1.toArray⟩:ByteArray)++(⟨#[47]⟩:ByteArray)).size=(⟨t1.toArray⟩:ByteArray).size+(⟨#[47]⟩:ByteArray).size:=ByteArray.size_append;rw [e54];refine ifI ?_;refine fI 1200 ?_;refine dI c2 ?_;have e47:(⟨#[47]⟩:ByteArray)=⟨([47]:List UInt8).toArray⟩:=rfl;rw [e47,a3U,a3U,List.append_assoc,List.cons_append,List.nil_append];exact ⟨rfl,_,trivial,wkI⟩
 rintro n1 -;refine fR 1300 ?_;refine rtI ?_;exact a0a rfl IsPure.out
theorem b2P {n k:Nat}(h:(a0e n).length≤k):(a0m n).length≤3*k:=by
 refine a1l (Nat.lt_of_lt_of_le (a2C n) ?_);rw [Nat.pow_mul];exact Nat.le_trans (Nat.pow_le_pow_right (by decide) h) (Nat.pow_le_pow_left (by decide) k)
theorem a9v {n k:Nat}(h:(a0e n).length≤k):(Lib.decDigits n).length≤27*k+1:=by
 have h1:=a8q (a0y n);rw [a0o] at h1
 have:=b2P h
 omega
theorem b8s {z:Int}{k:Nat}(h:(a0e z.natAbs).length≤k):(Lib.itoa z).length≤27*k+2:=by
 have:=a9v h
 unfold Lib.itoa;split
 ·rw [List.length_cons];omega
 ·rw [show z.toNat=z.natAbs by omega];omega
theorem a4X {r:Rat}{k:Nat}(h:rk r k)(hk:k≤10000):b0H r:=by
 have h1:=b8s h.1;have h2:=a9v h.2;unfold b0H txt;split
 ·omega
 ·rw [List.length_append,List.length_cons];omega
def LZ (x:Int)(p:Nat):Prop:=(a0m x.natAbs).length≤p
theorem LZ.mul {x y:Int}{p q:Nat}(hx:LZ x p)(hy:LZ y q):LZ (x*y) (p+q):=by
 unfold LZ at *;rw [Int.natAbs_mul]
 have:=a4W x.natAbs y.natAbs
 omega
theorem LZ.add {x y:Int}{p q:Nat}(hx:LZ x p)(hy:LZ y q):LZ (x+y) (p+q+1):=by
 unfold LZ at *;have h1:=a0z (x+y).natAbs (x.natAbs+y.natAbs) (Int.natAbs_add_le x y);have h2:=a7z x.natAbs y.natAbs;omega
theorem LZ.few {x:Int}{p:Nat}(h:LZ x p)(hp:p<1000000):b3i x:=Nat.lt_of_le_of_lt h hp
theorem LZ.num {r:Rat}{k:Nat}(h:rk r k):LZ r.num (3*k):=b2P h.1
theorem LZ.den {r:Rat}{k:Nat}(h:rk r k):LZ (r.den:Int) (3*k):=b2P h.2
theorem c8W (a b:Rat):qZ (a.num*b.den+b.num*a.den) ((a.den:Int)*b.den)=a+b:=by
 unfold qZ;have h:¬ ((a.den:Int)*b.den<0):=by
  rw [← Int.natCast_mul];omega
 rw [if_neg h,← Int.natCast_mul,Int.natAbs_natCast,Rat.add_def',]
theorem c5R (a b:Rat):qZ (a.num*b.num) ((a.den:Int)*b.den)=a*b:=by
 unfold qZ;have h:¬ ((a.den:Int)*b.den<0):=by
  rw [← Int.natCast_mul];omega
 rw [if_neg h,← Int.natCast_mul,Int.natAbs_natCast,Rat.mul_def']
theorem a3X {x y:Int}(hx:x.natAbs<10^9)(hy:y.natAbs<10^9):(x*y).natAbs<10^18:=by
 rw [Int.natAbs_mul];exact Nat.lt_of_lt_of_le (Nat.mul_lt_mul'' hx hy) (by decide)
theorem d0N (a b:Rat)(i j:Nat)(ha:rk a i)(hb:rk b j)(hij:i+j≤10000):a0b C0 35 [rR a,rR b] (rR (a+b)):=by
 refine a0c.walk w1 d0Z rfl fun F=>?_
 have ta:=a4X ha (by omega);have tb:=a4X hb (by omega);have qa:=a9J a ta;have qb:=a9J b tb
 by_cases hq:qk a=true∧qk b=true
 ·obtain ⟨h1,h2⟩:=hq
  obtain ⟨n1,d1⟩:=a5o h1;obtain ⟨n2,d2⟩:=a5o h2;rw [h1,if_pos rfl,if_pos rfl] at qa;rw [h2,if_pos rfl,if_pos rfl] at qb;have p1:=a3X n1 (y:=(b.den:Int)) (by omega);have p2:=a3X n2 (y:=(a.den:Int)) (by omega);have p3:=a3X (x:=(a.den:Int)) (y:=(b.den:Int)) (by omega) (by omega);have m1:IntKind.i64.wrap (a.num*(b.den:Int))=a.num*b.den:=wI (by omega) (by omega);have m2:IntKind.i64.wrap (b.num*(a.den:Int))=b.num*a.den:=wI (by omega) (by omega);have m3:IntKind.i64.wrap (a.num*(b.den:Int)+b.num*(a.den:Int))=a.num*b.den+b.num*a.den:=wI (by omega) (by omega);have m4:IntKind.i64.wrap ((a.den:Int)*(b.den:Int))=((a.den*b.den:Nat):Int):=by rw [wI (by omega) (by omega),Int.natCast_mul]
  have p4:a.den*b.den<10^18:=by rw [← Int.natCast_mul,Int.natAbs_natCast] at p3;exact p3
  have cf:=c4s (a.num*b.den+b.num*a.den) (a.den*b.den) (by omega) (Nat.mul_pos a.den_pos b.den_pos) (by omega);rw [← Rat.add_def'] at cf;refine sR 0 ?_;refine sR 100 ?_;refine cI qa ?_;refine sR 200 ?_;refine cI qb ?_;refine OkS.seq ?_;refine sZ 300 ?_;refine gwI kT ?_;refine ifI ?_;refine sZ 400 ?_;refine nwI (ff4 m1 m2 m3 m4) ?_;refine cI cf ?_;refine rtI ?_;exact a0a rfl IsPure.out
 ·refine sR 0 ?_
  refine sR 100 ?_;refine cI qa ?_;refine sR 200 ?_;refine cI qb ?_;refine OkS.seqX (α:=Nat) (fun n=>⟨[(0,rR a),(1,rR b)],[],n⟩) (fun _=>True) ?_ ?_
  ·cases h1:qk a
   ·refine sZ 300 ?_
    refine gwI h1 ?_;refine gwI kF ?_;refine ifI ?_;refine skI ?_;exact ⟨rfl,_,trivial,wkI⟩
   ·have h2:qk b=false:=by
     cases h2:qk b
     ·rfl
     ·exact absurd ⟨h1,h2⟩ hq
    rw [h2];refine sZ 300 ?_;refine gwI h1 ?_;refine gwI kT ?_;refine ifI ?_;refine skI ?_;exact ⟨rfl,_,trivial,wkI⟩
  rintro n0 -;clear qa qb hq;have pa:=a8s (txt a) (a6Q a) (a6X a) ta;have pb:=a8s (txt b) (a6Q b) (a6X b) tb;rw [a9Z,b3A] at pa pb;have lan:=LZ.num ha;have lad:=LZ.den ha;have lbn:=LZ.num hb;have lbd:=LZ.den hb;have da:=a.den_pos;have db:=b.den_pos;have c1:=a7D a.num b.den (lan.few (by omega)) (lbd.few (by omega));have c2:=a7D b.num a.den (lbn.few (by omega)) (lad.few (by omega));have c3:=c6U (a.num*b.den) (b.num*a.den) ((lan.mul lbd).few (by omega)) ((lbn.mul lad).few (by omega));have c4:=a7D (a.den:Int) b.den (lad.few (by omega)) (lbd.few (by omega));have c5:=a8V (a.num*b.den+b.num*a.den) ((a.den:Int)*b.den) (by rw [← Int.natCast_mul];have:=Nat.mul_pos da db;omega) (((lan.mul lbd).add (lbn.mul lad)).few (by omega)) ((lad.mul lbd).few (by omega));rw [c8W] at c5;refine sR 500 ?_;refine cI pa ?_;refine sR 600 ?_;refine cI pb ?_;refine OkS.seq ?_;refine OkS.regD w1 700 [0,1,2,3,4,5,6,7,8] [9,10,11] (by kernel_rfl) ?_;refine gwI kN ?_
  first|refine a0p.same _ c1 inferInstance ?_|refine a0l.same _ c1 inferInstance ?_
  refine gwI kN ?_
  first|refine a0p.same _ c2 inferInstance ?_|refine a0l.same _ c2 inferInstance ?_
  refine gwI kN ?_
  first|refine a0p.same _ c3 inferInstance ?_|refine a0l.same _ c3 inferInstance ?_
  refine gwI kN ?_
  first|refine a0p.same _ c4 inferInstance ?_|refine a0l.same _ c4 inferInstance ?_
  refine gwI kN ?_
  first|refine a0p.same _ c5 inferInstance ?_|refine a0l.same _ c5 inferInstance ?_
  refine gwI kN ?_;refine rtI ?_;exact a0a rfl IsPure.out
theorem d2M (a b:Rat)(i j:Nat)(ha:rk a i)(hb:rk b j)(hij:i+j≤10000):a0b C0 36 [rR a,rR b] (rR (a*b)):=by
 refine a0c.walk w1 d1h rfl fun F=>?_
 have ta:=a4X ha (by omega);have tb:=a4X hb (by omega);have qa:=a9J a ta;have qb:=a9J b tb
 by_cases hq:qk a=true∧qk b=true
 ·obtain ⟨h1,h2⟩:=hq
  obtain ⟨n1,d1⟩:=a5o h1;obtain ⟨n2,d2⟩:=a5o h2;rw [h1,if_pos rfl,if_pos rfl] at qa;rw [h2,if_pos rfl,if_pos rfl] at qb;have p1:=a3X n1 (y:=b.num) n2;have p3:=a3X (x:=(a.den:Int)) (y:=(b.den:Int)) (by omega) (by omega);have m1:IntKind.i64.wrap (a.num*b.num)=a.num*b.num:=wI (by omega) (by omega);have m4:IntKind.i64.wrap ((a.den:Int)*(b.den:Int))=((a.den*b.den:Nat):Int):=by rw [wI (by omega) (by omega),Int.natCast_mul]
  have p4:a.den*b.den<10^18:=by rw [← Int.natCast_mul,Int.natAbs_natCast] at p3;exact p3
  have cf:=c4s (a.num*b.num) (a.den*b.den) (by omega) (Nat.mul_pos a.den_pos b.den_pos) (by omega);rw [← Rat.mul_def'] at cf;refine sR 0 ?_;refine sR 100 ?_;refine cI qa ?_;refine sR 200 ?_;refine cI qb ?_;refine OkS.seq ?_;refine sZ 300 ?_;refine gwI kT ?_;refine ifI ?_;refine sZ 400 ?_;refine nwI (ff2 m1 m4) ?_;refine cI cf ?_;refine rtI ?_;exact a0a rfl IsPure.out
 ·refine sR 0 ?_
  refine sR 100 ?_;refine cI qa ?_;refine sR 200 ?_;refine cI qb ?_;refine OkS.seqX (α:=Nat) (fun n=>⟨[(0,rR a),(1,rR b)],[],n⟩) (fun _=>True) ?_ ?_
  ·cases h1:qk a
   ·refine sZ 300 ?_
    refine gwI h1 ?_;refine gwI kF ?_;refine ifI ?_;refine skI ?_;exact ⟨rfl,_,trivial,wkI⟩
   ·have h2:qk b=false:=by
     cases h2:qk b
     ·rfl
     ·exact absurd ⟨h1,h2⟩ hq
    rw [h2];refine sZ 300 ?_;refine gwI h1 ?_;refine gwI kT ?_;refine ifI ?_;refine skI ?_;exact ⟨rfl,_,trivial,wkI⟩
  rintro n0 -;clear qa qb hq;have pa:=a8s (txt a) (a6Q a) (a6X a) ta;have pb:=a8s (txt b) (a6Q b) (a6X b) tb;rw [a9Z,b3A] at pa pb;have lan:=LZ.num ha;have lad:=LZ.den ha;have lbn:=LZ.num hb;have lbd:=LZ.den hb;have da:=a.den_pos;have db:=b.den_pos;have c1:=a7D a.num b.num (lan.few (by omega)) (lbn.few (by omega));have c4:=a7D (a.den:Int) b.den (lad.few (by omega)) (lbd.few (by omega));have c5:=a8V (a.num*b.num) ((a.den:Int)*b.den) (by rw [← Int.natCast_mul];have:=Nat.mul_pos da db;omega) ((lan.mul lbn).few (by omega)) ((lad.mul lbd).few (by omega));rw [c5R] at c5;refine sR 500 ?_;refine cI pa ?_;refine sR 600 ?_;refine cI pb ?_;refine OkS.seq ?_;refine OkS.regD w1 700 [0,1,2,3,4] [5,6,7] (by kernel_rfl) ?_;refine gwI kN ?_
  first|refine a0p.same _ c1 inferInstance ?_|refine a0l.same _ c1 inferInstance ?_
  refine gwI kN ?_
  first|refine a0p.same _ c4 inferInstance ?_|refine a0l.same _ c4 inferInstance ?_
  refine gwI kN ?_
  first|refine a0p.same _ c5 inferInstance ?_|refine a0l.same _ c5 inferInstance ?_
  refine gwI kN ?_;refine rtI ?_;exact a0a rfl IsPure.out
theorem d3t (a b:Rat)(i j:Nat)(ha:rk a i)(hb:rk b j)(hij:i+j≤10000):a0b C0 60 [rR a,rR b] (rR (a - b)):=by
 refine a0c.walk w1 d1Y rfl fun F=>?_
 have c1:=d1P b (a4X hb (by omega));have c2:=d0N a (-b) i j ha (b8t hb) hij;rw [← Rat.sub_eq_add_neg] at c2;refine sR 0 ?_;refine sR 100 ?_;refine cI c1 ?_;refine cI c2 ?_;refine rtI ?_;exact a0a rfl IsPure.out
theorem c4N (a b:Rat):b8Z (a - b)=a4R a b:=by
 unfold b8Z a4R;have h1:(a - b).num<0↔a<b:=by
  have e:=Rat.lt_iff (a - b) 0;have e1:(a - b).num*((0:Rat).den:Int)<(0:Rat).num*((a - b).den:Int)↔(a - b).num<0:=by simp
  rw [← e1,← e];constructor<;>intro h<;>grind
 have h2:0<(a - b).num↔b<a:=by
  have e:=Rat.lt_iff 0 (a - b);have e1:(0:Rat).num*((a - b).den:Int)<(a - b).num*((0:Rat).den:Int)↔0<(a - b).num:=by simp
  rw [← e1,← e];constructor<;>intro h<;>grind
 by_cases h:a<b
 ·rw [if_pos h];have:=h1.2 h;omega
 ·rw [if_neg h]
  by_cases h':b<a
  ·rw [if_pos h'];have:=h2.2 h';omega
  ·rw [if_neg h']
   have:=mt h1.1 h
   have:=mt h2.1 h'
   omega
theorem d2w (a b:Rat)(i j:Nat)(ha:rk a i)(hb:rk b j)(hij:i+j<10000):a0b C0 33 [rR a,rR b] (i64 (a4R a b)):=by
 refine a0c.walk w1 d0X rfl fun F=>?_
 have c1:=d3t a b i j ha hb (by omega);have c2:=b6J (a - b) (a4X (c8v ha hb) (by omega));rw [c4N] at c2;refine sR 0 ?_;refine sR 100 ?_;refine cI c1 ?_;refine cI c2 ?_;refine rtI ?_;exact a0a rfl IsPure.out
theorem c0C (c:UInt8):a0x c=(!decide ((c.toNat:Int)<48) && !decide ((c.toNat:Int)>57)):=by
 unfold a0x;rw [Bool.eq_iff_iff,Bool.and_eq_true,Bool.and_eq_true];simp only [Bool.not_eq_true',decide_eq_false_iff_not,Nat.ble_eq];omega
theorem b1c {l:List UInt8}{i:Nat}{c:UInt8}(hc:l[i]? = some c)(h:(l.take i).all a0x=true):(l.take (i+1)).all a0x=a0x c:=by
 rw [List.take_add_one,hc,List.all_append,h];simp
theorem c5O {l:List UInt8}{i:Nat}{c:UInt8}(hc:l[i]? = some c)(h:a0x c=false):l.all a0x=false:=by
 cases ha:l.all a0x
 ·rfl
 ·have:=List.all_eq_true.1 ha c (List.mem_of_getElem? hc)
  rw [h] at this;cases this
theorem c0K (l:List UInt8)(hl:l.length≤1000000000):a0b C0 163 [str (sb l)] (boo (l.all a0x)):=by
 refine a0c.walk w1 c8E rfl fun F=>?_
 have hsz:=a0r l;refine sR 0 ?_;refine OkS.seq ?_;refine sR 100 ?_;refine OkS.block ?_;refine OkS.loop (α:=Nat × Nat) (fun p=>⟨[(0,str (sb l)),(3,i64 (p.1:Int))],[],p.2⟩) (fun p=>l.length - p.1) (fun p=>p.1≤l.length∧(l.take p.1).all a0x=true) (0,_) ⟨Nat.zero_le _,rfl⟩ wkI ?_;rintro ⟨i,n⟩ F ⟨hi,ha⟩;dsimp only at hi ha ⊢;refine OkS.seq ?_;refine sZ 200 ?_;refine nwI hsz ?_;refine ifI ?_
 (refine brI (fun hlt=>?_) (fun hlt=>?_))<;>(try simp only [Bool.not_eq_true',Bool.not_eq_false'] at hlt)<;>(try simp only [hlt])
 ·have hi2:i<l.length:=by
   have:=of_decide_eq_true hlt
   omega
  obtain ⟨c,hc⟩:∃ c,l[i]? = some c:=⟨l[i],List.getElem?_eq_getElem hi2⟩
  have hg:l.getD i 0=c:=by simp [hc]
  have wi:IntKind.i64.wrap ((i:Int)+1)=((i+1:Nat):Int):=wI (by omega) (by omega);have hid:=c0C c;have hat:=b1c hc ha;have hno:=c5O hc;refine skI ?_;refine OkS.seq ?_;refine OkS.block ?_;refine sZ 400 ?_;refine nwI (ff2 kN hg) ?_
  by_cases c1:(c.toNat:Int)<48
  ·rw [decide_eq_true c1] at hid
   have e4:=decide_eq_true c1;simp only [e4];refine gwI kT ?_;refine ifI ?_;refine sR 500 ?_;refine rtI ?_;exact a0a (by rw [hno hid]) IsPure.out
  ·rw [decide_eq_false c1] at hid
   have e4:=decide_eq_false c1;simp only [e4];refine gwI (ff3 kF kN hg) ?_
   by_cases c2:(c.toNat:Int)>57
   ·rw [decide_eq_true c2] at hid ⊢
    refine ifI ?_;refine sR 500 ?_;refine rtI ?_;exact a0a (by rw [hno hid]) IsPure.out
   ·rw [decide_eq_false c2] at hid ⊢
    refine ifI ?_;refine skI ?_;refine OkS.reg w1 300 (by kernel_rfl) ?_;refine nwI wi ?_;exact ⟨(i+1,_),⟨hi2,hat.trans hid⟩,by dsimp only;omega,wkI⟩
 ·have hi2:i=l.length:=by
   have:=of_decide_eq_false hlt
   omega
  subst hi2;rw [List.take_of_length_le (Nat.le_refl _)] at ha;refine exI ?_;refine sR 600 ?_;refine rtI ?_;exact a0a (by rw [ha]) IsPure.out
theorem b6W (c : UInt8) : (((c.toNat : Nat) : Int) == 48) = decide (c = 48) := by
  rw [Bool.eq_iff_iff, beq_iff_eq, decide_eq_true_iff, ← UInt8.toNat_inj]
  exact ⟨fun h => by have : c.toNat = 48 := by omega
                     exact this, fun h => by rw [h]; rfl⟩
theorem c1u (l:List UInt8)(hl:l.length≤1000000000):a0b C0 88 [str (sb l)] (boo (a0V l)):=by
 refine a0c.walk w1 d2h rfl fun F=>?_
 have hsz:=a0r l;have cd:=c0K l hl;refine sR 0 ?_;refine OkS.seq ?_;refine OkS.seq ?_
 match l,hl,hsz,cd with
 | [],_,hsz,_ =>
  have e1:((((sb []).size:Nat):Int)==0)=true:=rfl;refine OkS.reg w1 100 (by kernel_rfl) ?_;refine nwI e1 ?_;refine gwI kT ?_;refine ifI ?_;refine sR 200 ?_;refine rtI ?_;exact a0a rfl IsPure.out
 | [c],hl,hsz,cd =>
  have e1:((((sb [c]).size:Nat):Int)==0)=false:=rfl;have e2:decide ((((sb [c]).size:Nat):Int)>1)=false:=rfl;have ep:a0V [c]=[c].all a0x:=by
   unfold a0V c2e
   by_cases h:c=48
   ·subst h;rfl
   ·simp [h]
  rw [ep];refine OkS.reg w1 100 (by kernel_rfl) ?_;refine nwI e1 ?_;refine gwI kF ?_;simp only [e2];refine gwI kF ?_;refine ifI ?_;refine skI ?_;refine sR 300 ?_;refine cI cd ?_;refine rtI ?_;exact a0a rfl IsPure.out
 | c::d::l,hl,hsz,cd =>
  have hs2:(sb (c::d::l)).size=l.length+2:=hsz;have e1:((((sb (c::d::l)).size:Nat):Int)==0)=false:=beq_eq_false_iff_ne.2 (by omega);have e2:decide ((((sb (c::d::l)).size:Nat):Int)>1)=true:=decide_eq_true (by omega);have e3:((((c::d::l).getD (Int.toNat 0) 0).toNat:Int)==48)=decide (c=48):=b6W c;have ep:a0V (c::d::l)=if c=48 then false else (c::d::l).all a0x:=by
   unfold a0V c2e
   by_cases h:c=48
   ·subst h;simp
   ·simp [h]
  rw [ep];refine OkS.reg w1 100 (by kernel_rfl) ?_;refine nwI e1 ?_;refine gwI (ff2 kF e2) ?_;refine gwI (ff4 kT e2 e3 kF) ?_
  by_cases h:c=48
  ·rw [decide_eq_true h,if_pos h]
   refine ifI ?_;refine sR 200 ?_;refine rtI ?_;exact a0a rfl IsPure.out
  ·rw [decide_eq_false h,if_neg h]
   refine ifI ?_;refine skI ?_;refine sR 300 ?_;refine cI cd ?_;refine rtI ?_;exact a0a rfl IsPure.out
def a7a (r:Rat):Bool:=decide (600<(Lib.decDigits r.num.natAbs).length)||decide (600<(Lib.decDigits r.den).length)
theorem c2N (r:Rat)(k:Nat)(h:rk r k)(hk:k≤10000):a0b C0 54 [rR r] (i64 (if a7a r then 4 else 0)):=by
 refine a0c.walk w1 d1r rfl fun F=>?_
 have tr:=a4X h hk;have c1:=d0v r tr;have hn:rk ((r.num:Int):Rat) (k+1):=by
  refine ⟨by rw [Rat.num_intCast];have:=h.1;omega,by rw [Rat.den_intCast];have:=a0D (n:=1) (k:=1) (by decide);omega⟩
 have c2:=d1C ((r.num:Int):Rat) (by
  unfold b0H;rw [a5i]
  have:=b8s h.1
  omega)
 have c3:=d1j r tr;have e2:txt (if ((r.num:Int):Rat).num<0 then -((r.num:Int):Rat) else ((r.num:Int):Rat))=Lib.decDigits r.num.natAbs:=by
  have e:=a5u ((r.num:Int):Rat);rw [Rat.num_intCast] at e ⊢;rw [← e];unfold a4O;rw [Rat.num_intCast];split
  ·rw [← Rat.intCast_neg,a5i,Rat.num_intCast]
  ·rw [a5i,Rat.num_intCast]
 have e3:txt ((r.den:Int):Rat)=Lib.decDigits r.den:=by
  rw [a5i];rfl
 have s2:=a0r (Lib.decDigits r.num.natAbs);have s3:=a0r (Lib.decDigits r.den);unfold a7a;unfold rR at c2 c3;rw [e2] at c2;rw [e3] at c3;generalize Lib.decDigits r.num.natAbs=A at *;generalize Lib.decDigits r.den=B at *;have t2:decide ((A.length:Int)>600)=decide (600<A.length):=decide_eq_decide.2 (by omega);have t3:decide ((B.length:Int)>600)=decide (600<B.length):=decide_eq_decide.2 (by omega);refine sR 0 ?_;refine OkS.seq ?_;refine sR 100 ?_;refine cI c1 ?_;refine cI c2 ?_;simp only [s2,t2]
 by_cases h9:600<A.length
 ·rw [decide_eq_true h9]
  refine gwI kT ?_;refine ifI ?_;refine sR 200 ?_;refine rtI ?_;exact a0a rfl IsPure.out
 ·rw [decide_eq_false h9]
  refine gwI kF ?_;refine gcI kF ?_;refine a0l.same _ c3 inferInstance ?_;refine gwI (ff3 kF s3 t3) ?_
  by_cases h8:600<B.length
  ·rw [decide_eq_true h8]
   refine ifI ?_;refine sR 200 ?_;refine rtI ?_;exact a0a rfl IsPure.out
  ·rw [decide_eq_false h8]
   refine ifI ?_;refine skI ?_;refine sR 300 ?_;refine rtI ?_;exact a0a rfl IsPure.out
theorem b7z (l:List UInt8):a0d l=(a1V l).length:=by
 have:=a1t l
 unfold a1V;rw [List.length_take];omega
theorem a5V (l:List UInt8):a1V (a0j l)=a0M l∧a1r (a0j l)=a1r l∧a3J (a0j l)=a3J l∧decide (a1V l=[45,48])=(a1J l&&decide (a0M l=[48])):=by
 cases hb:a1J l
 ·have ed:a0j l=l:=by unfold a0j;rw [hb];rfl
  have en:a1J (a1V l)=false:=by
   unfold a1V;cases l with
   | nil=>rfl
   | cons c l =>
    cases hk:a0d (c::l) with
    | zero=>rfl
    | succ k=>exact hb
  have es:a0M l=a1V l:=by unfold a0M a0j;rw [en];rfl
  rw [ed,es];refine ⟨rfl,rfl,rfl,?_⟩;rw [Bool.false_and];refine decide_eq_false fun h=>?_
  rw [h] at en;cases en
 ·cases l with
  | nil=>cases hb
  | cons c m =>
   have hc:c=45:=by simpa [a1J] using hb
   subst hc;have ed:a0j (45::m)=m:=rfl;have e1:a0d (45::m)=a0d m+1:=by
    unfold a0d;rw [List.takeWhile_cons,if_pos (by decide),List.length_cons]
   have e2:a1V (45::m)=45::a1V m:=by unfold a1V;rw [e1,List.take_succ_cons]
   have e3:a1r (45::m)=a1r m:=by unfold a1r;rw [e1,List.drop_succ_cons]
   have e4:a3J (45::m)=a3J m:=by unfold a3J;rw [e1,List.length_cons];exact decide_eq_decide.2 (by omega)
   have e5:a0M (45::m)=a1V m:=by unfold a0M;rw [e2];rfl
   rw [ed,e2,e3,e4,e5];refine ⟨rfl,rfl,rfl,?_⟩;rw [Bool.true_and];exact decide_eq_decide.2 (by simp)
theorem a4s (l:List UInt8):a3B l=((!a0V (a0M l)||(a1J l&&decide (a0M l=[48])))||(a3J l&&(!a0V (a1r l)||decide (a1r l=[48])||decide (a1r l=[49])))):=by
 unfold a3B;rw [(a5V l).2.2.2]
theorem c0J {l:List UInt8}(h:a0V l=true):l≠[]:=(a2p h).1
theorem c1P {l:List UInt8}(h:0<l.length):(((l.getD (Int.toNat 0) 0).toNat:Int)==45)=a1J l:=by
 cases l with
 | nil=>cases h
 | cons c l=>exact a6V c l
theorem c1q (l:List UInt8)(hl:l.length≤100000):a0b C0 32 [str (sb l)] (i64 (chk l)):=by
 refine a0c.walk w1 d1u rfl fun F=>?_
 have hsz:=a0r l;obtain ⟨p1,p2,p3,-⟩:=a5V l;have hdl:(a0j l).length≤l.length:=by
  unfold a0j;split
  ·rw [List.length_drop];omega
  ·exact Nat.le_refl _
 have hbf:=a4s l;have hchk1:(!a0V (a0M l)||(a1J l&&decide (a0M l=[48])))=true→chk l=1:=fun h=>by
  unfold chk;rw [hbf,h,Bool.true_or,if_pos rfl]
 have hchk2:(a3J l&&(!a0V (a1r l)||decide (a1r l=[48])||decide (a1r l=[49])))=true→chk l=1:=fun h=>by
  unfold chk;rw [hbf,h,Bool.or_true,if_pos rfl]
 have hne:a0V (a0M l)=true→0<l.length:=fun h=>by
  cases l with
  | nil=>exact absurd rfl (c0J h)
  | cons c l=>rw [List.length_cons];omega
 refine sR 0 ?_;refine sR 100 ?_;refine OkS.seqX (α:=Nat) (fun n=>⟨[(0,str (sb l)),(3,str (sb (a0j l)))],[],n⟩) (fun _=>True) ?_ ?_
 ·rcases Nat.eq_zero_or_pos l.length with h0|h0
  ·have e0:l=[]:=List.eq_nil_of_length_eq_zero h0
   have e1:decide (((sb []).size:Int)>0)=false:=rfl;have ed:a0j l=l:=by rw [e0];rfl
   rw [ed,e0];refine sZ 200 ?_;refine nwI e1 ?_;refine gwI kF ?_;refine ifI ?_;refine skI ?_;exact ⟨rfl,_,trivial,wkI⟩
  ·have e0:decide (((sb l).size:Int)>0)=true:=decide_eq_true (by omega)
   have e1:=c1P h0;refine sZ 200 ?_;refine gwI e0 ?_;refine gwI (ff3 kT e0 e1) ?_;cases hb:a1J l
   ·have ed:a0j l=l:=by unfold a0j;rw [hb];rfl
    rw [ed];refine ifI ?_;refine skI ?_;exact ⟨rfl,_,trivial,wkI⟩
   ·have ed:a0j l=l.drop 1:=by unfold a0j;rw [hb];rfl
    have ee:(sb l).extract (Int.toNat 1) l.length=sb (a0j l):=by
     rw [a1x,List.take_of_length_le (Nat.le_refl _),ed];rfl
    refine ifI ?_;refine OkS.reg w1 300 (by kernel_rfl) ?_;refine gwI (ff2 hsz kN) ?_;rw [ee];exact ⟨trivial,_,trivial,wkI⟩
 rintro n0 -;have cs:=a5S (a0j l) (by omega);have hle:=a1t (a0j l);have hszS:=a0r (a0j l);have hhs:a3J l=decide (a0d (a0j l)<(a0j l).length):=p3.symm;have e10:(sb (a0j l)).extract 0 (a0d (a0j l))=sb (a0M l):=by rw [← p1,a1x,List.drop_zero];rfl
 have e11:(sb (a0j l)).extract (a0d (a0j l)+1) (a0j l).length=sb (a1r l):=by rw [← p2,a1x,List.take_of_length_le (Nat.le_refl _)];rfl
 have hNl:a0d (a0j l)=(a0M l).length:=by rw [← p1];exact b7z _
 have hDl:(a1r l).length=(a0j l).length - (a0d (a0j l)+1):=by rw [← p2];unfold a1r;rw [List.length_drop]
 have pp:=fun h1 h2=>a8s (a0j l) h1 h2 (by omega)
 unfold c8j c7E at pp;rw [p1,p2,p3] at pp;have edef:chk l=if a3B l then 1 else if 600<(a0M l).length∨600<(a1r l).length then 4 else if a3J l=true∧Nat.gcd (dv (a0M l)) (dv (a1r l))≠1 then 1 else 0:=rfl
 rw [hbf] at edef;generalize hN:a0M l=Nn at *;generalize hD:a1r l=Dn at *;generalize hH:a3J l=hv at *;generalize hK:chk l=Kn at *;generalize a0j l=Sn at *;generalize a0d Sn=k at *;clear p1 p2 p3 hbf hN hD hH hK;have cf:=c1u Nn (by omega);have cf2:=c1u Dn (by omega);have q0:=a4h Nn [48];have q1:=a4h Dn [48];have q2:=a4h Dn [49];refine sR 400 ?_;refine cI cs ?_;refine OkS.seqX (α:=Nat) (fun n=>⟨[(0,str (sb l)),(3,str (sb Sn)),(4,i64 (k:Int))],[],n⟩) (fun _=>(!a0V Nn||(a1J l&&decide (Nn=[48])))=false) ?_ ?_
 ·refine sZ 500 ?_
  refine gwI (ff2 hszS kN) ?_;refine gwI e10 ?_;cases hp:a0V Nn
  ·rw [hp] at cf
   refine a0l.same _ cf inferInstance ?_;refine stI ?_;simp only [Bool.not_false];refine gwI kT ?_;refine ifI ?_;refine sR 600 ?_;refine rtI ?_;exact a0a (by rw [hchk1 (by rw [hp];rfl)];rfl) IsPure.out
  ·rw [hp] at cf
   have hl0:=hne hp;have e1:=c1P hl0;refine a0l.same _ cf inferInstance ?_;refine stI ?_;simp only [Bool.not_true];refine gwI (ff3 kF hsz e1) ?_;have q0':a1P (sb Nn) ⟨#[48]⟩=decide (Nn=[48]):=q0;cases hb:a1J l
   ·refine gwI kF ?_
    refine ifI ?_;refine skI ?_;exact ⟨rfl,_,rfl,wkI⟩
   ·refine gwI (ff4 kT kF hszS kN) ?_
    refine gwI (ff4 kT kF e10 q0') ?_
    by_cases h0:Nn=[48]
    ·rw [decide_eq_true h0]
     refine ifI ?_;refine sR 600 ?_;refine rtI ?_;exact a0a (by rw [hchk1 (by simp [hp,hb,h0])];rfl) IsPure.out
    ·rw [decide_eq_false h0]
     refine ifI ?_;refine skI ?_;exact ⟨rfl,_,by simp,wkI⟩
 rintro n1 hb1;clear hchk1 hne cf q0;refine OkS.seqX (α:=Nat) (fun n=>⟨[(0,str (sb l)),(3,str (sb Sn)),(4,i64 (k:Int))],[],n⟩) (fun _=>(hv&&(!a0V Dn||decide (Dn=[48])||decide (Dn=[49])))=false) ?_ ?_
 ·cases hv
  ·have e40:decide ((k:Int)<(Sn.length:Int))=false:=decide_eq_false (by have:=of_decide_eq_false hhs.symm;omega)
   refine sZ 700 ?_;refine nwI (ff2 hszS e40) ?_;refine gwI kF ?_;refine ifI ?_;refine skI ?_;exact ⟨rfl,_,rfl,wkI⟩
  ·have hkl:=of_decide_eq_true hhs.symm
   have e40:decide ((k:Int)<(Sn.length:Int))=true:=decide_eq_true (by omega);have wk:IntKind.i64.wrap ((k:Int)+1)=((k+1:Nat):Int):=wI (by omega) (by omega);have q1':a1P (sb Dn) ⟨#[48]⟩=decide (Dn=[48]):=q1;have q2':a1P (sb Dn) ⟨#[49]⟩=decide (Dn=[49]):=q2;refine sZ 700 ?_;refine nwI (ff2 hszS e40) ?_;refine gwI (ff4 kT wk hszS kN) ?_;simp only [e11];refine gcI kT ?_;cases hp:a0V Dn
   ·rw [hp] at cf2
    refine a0l.same _ cf2 inferInstance ?_;refine gwI kB ?_;refine gwI kT ?_;refine ifI ?_;refine sR 800 ?_;refine rtI ?_;exact a0a (by rw [hchk2 (by simp [hp])];rfl) IsPure.out
   ·rw [hp] at cf2
    have e12:(sb Sn).extract (IntKind.i64.wrap ((k:Int)+1)).toNat (sb Sn).size=sb Dn:=by rw [wk,hszS,Int.toNat_natCast];exact e11
    refine a0l.same _ cf2 inferInstance ?_;refine gwI kB ?_;simp only [e12,q1']
    by_cases h48:Dn=[48]
    ·rw [decide_eq_true h48]
     refine gwI kT ?_;refine ifI ?_;refine sR 800 ?_;refine rtI ?_;exact a0a (by rw [hchk2 (by simp [h48])];rfl) IsPure.out
    ·rw [decide_eq_false h48]
     refine gwI kB ?_;simp only [e12,q2']
     by_cases h49:Dn=[49]
     ·rw [decide_eq_true h49]
      refine ifI ?_;refine sR 800 ?_;refine rtI ?_;exact a0a (by rw [hchk2 (by simp [h49])];rfl) IsPure.out
     ·rw [decide_eq_false h49]
      refine ifI ?_;refine skI ?_;exact ⟨rfl,_,by simp,wkI⟩
 rintro n2 hb2;clear hchk2 cf2 q1 q2 e10 e11 hsz;have hpN:a0V Nn=true:=by
  cases h:a0V Nn
  ·rw [h] at hb1;simp at hb1
  ·rfl
 have hpD:hv=true→a0V Dn=true:=fun h0=>by
  cases h:a0V Dn
  ·rw [h,h0] at hb2;simp at hb2
  ·rfl
 rw [hb1,hb2] at edef;rw [if_neg (by decide)] at edef;have wl1:IntKind.i64.wrap ((Sn.length:Int) - (k:Int))=(Sn.length:Int) - (k:Int):=wI (by omega) (by omega);have wl2:IntKind.i64.wrap ((Sn.length:Int) - (k:Int) - 1)=(Sn.length:Int) - (k:Int) - 1:=wI (by omega) (by omega);have e91:decide ((Sn.length:Int) - (k:Int) - 1>600)=decide (600<Dn.length):=decide_eq_decide.2 (by omega);refine OkS.seqX (α:=Nat) (fun n=>⟨[(3,str (sb Sn)),(4,i64 (k:Int))],[],n⟩) (fun _=>Nn.length≤600∧Dn.length≤600) ?_ ?_
 ·by_cases g1:600<k
  ·have e9:decide ((k:Int)>600)=true:=decide_eq_true (by omega)
   rw [if_pos (.inl (by omega))] at edef;refine sZ 900 ?_;refine nwI e9 ?_;refine gwI kT ?_;refine ifI ?_;refine sR 1000 ?_;refine rtI ?_;exact a0a (by rw [edef];rfl) IsPure.out
  ·have e9:decide ((k:Int)>600)=false:=decide_eq_false (by omega)
   refine sZ 900 ?_;refine nwI e9 ?_;refine gwI (ff5 kF hszS wl1 wl2 e91) ?_
   by_cases g2:600<Dn.length
   ·rw [if_pos (.inr g2)] at edef
    rw [decide_eq_true g2];refine ifI ?_;refine sR 1000 ?_;refine rtI ?_;exact a0a (by rw [edef];rfl) IsPure.out
   ·rw [decide_eq_false g2]
    refine ifI ?_;refine skI ?_;exact ⟨rfl,_,⟨by omega,by omega⟩,wkI⟩
 rintro n3 ⟨g1,g2⟩;rw [if_neg (by omega)] at edef;clear e91 wl1 wl2 hb1 hb2;obtain ⟨-,dN⟩:=a2p hpN;refine OkS.seqX (α:=Nat) (fun n=>⟨[],[],n⟩) (fun _=>Kn=0) ?_ ?_
 ·cases hv
  ·have e40:decide ((k:Int)<(Sn.length:Int))=false:=decide_eq_false (by have:=of_decide_eq_false hhs.symm;omega)
   rw [if_neg (by simp)] at edef;refine sZ 1100 ?_;refine nwI (ff2 hszS e40) ?_;refine ifI ?_;refine skI ?_;exact ⟨rfl,_,edef,wkI⟩
  ·have hkl:=of_decide_eq_true hhs.symm
   have e40:decide ((k:Int)<(Sn.length:Int))=true:=decide_eq_true (by omega);obtain ⟨-,dD⟩:=a2p (hpD rfl);have pa:=pp (by rw [a1C dN];exact dN) (by rw [a1C dD];exact dD);rw [if_pos rfl,a8L dN,a8L dD] at pa;have lN:(a0m (dv Nn)).length<1000000:=Nat.lt_of_le_of_lt (a1l (Nat.lt_of_lt_of_le (a5b Nn dN) (Nat.pow_le_pow_left (by decide) Nn.length))) (by omega);have lD:(a0m (dv Dn)).length<1000000:=Nat.lt_of_le_of_lt (a1l (Nat.lt_of_lt_of_le (a5b Dn dD) (Nat.pow_le_pow_left (by decide) Dn.length))) (by omega);have cg:a0b C0 90 [rD ((dv Nn:Int)).natAbs,rD ((dv Dn:Int)).natAbs] (.sl false 1 ((a0m (Nat.gcd (dv Nn) (dv Dn))).map a0n)):=b3E (dv Nn) (dv Dn) lN lD;have ht:=b4h (Nat.gcd (dv Nn) (dv Dn));have ed1:Nat.gcd (dv Nn) (dv Dn)≠1→Kn=1:=fun h=>by rw [if_pos ⟨rfl,h⟩] at edef;exact edef
   have ed0:Nat.gcd (dv Nn) (dv Dn)=1→Kn=0:=fun h=>by rw [if_neg (fun hh=>hh.2 h)] at edef;exact edef
   clear edef;generalize Nat.gcd (dv Nn) (dv Dn)=gg at *;refine sZ 1100 ?_;refine nwI (ff2 hszS e40) ?_;refine ifI ?_;refine sR 1200 ?_;refine cI pa ?_;refine sR 1300 ?_;refine cI cg ?_;rcases ht with ⟨t1,a,ha,t2⟩|⟨t1,t2⟩
   ·have ha':=a6z ha
    have t1n:((((a0m gg).map a0n).length:Int) != 1)=false:=by unfold bne;rw [t1];rfl
    have t2n:((a:Int) != 1) = !decide (gg=1):=by unfold bne;rw [t2]
    refine sZ 1400 ?_;refine nwI t1n ?_;refine gwI kF ?_;refine ixI kF ha' ?_;refine gwI (ff2 kF t2n) ?_
    by_cases hg1:gg=1
    ·rw [decide_eq_true hg1]
     refine ifI ?_;refine skI ?_;exact ⟨rfl,_,ed0 hg1,wkI⟩
    ·rw [decide_eq_false hg1]
     refine ifI ?_;refine sR 1500 ?_;refine rtI ?_;exact a0a (by rw [ed1 hg1];rfl) IsPure.out
   ·have edf:=ed1 t2
    have t1n:((((a0m gg).map a0n).length:Int) != 1)=true:=by unfold bne;rw [t1];rfl
    refine sZ 1400 ?_;refine nwI t1n ?_;refine gwI kT ?_;refine ifI ?_;refine sR 1500 ?_;refine rtI ?_;exact a0a (by rw [edf];rfl) IsPure.out
 rintro n4 h0;refine sR 1600 ?_;refine rtI ?_;exact a0a (by rw [h0];rfl) IsPure.out
theorem b9h {n k:Nat}(hn:n≠0)(hk:k<10):Lib.decDigits (n*10+k)=Lib.decDigits n++[UInt8.ofNat (48+k)]:=by
 rw [Lib.decDigits,dif_neg (by omega)]
 congr 2
 ·omega
 ·congr 2;omega
theorem b4m {c:UInt8}(h:a0x c=true):UInt8.ofNat (48+(c.toNat - 48))=c:=by
 obtain ⟨h1,h2⟩:=a2d h;rw [← UInt8.toNat_inj,a7c _ (by omega)];omega
theorem c3e (l:List UInt8)(c:UInt8):dv (l++[c])=dv l*10+(c.toNat - 48):=by
 rw [a4i];simp [dv,dvF]
theorem c8N:∀ (n:Nat) (l:List UInt8),l.length=n→l≠[]→l.all a0x=true→l.head? ≠ some 48→dv l≠0∧Lib.decDigits (dv l)=l:=fun n=>by
 induction n with
 | zero=>intro l h0 h1;exact absurd (List.eq_nil_of_length_eq_zero h0) h1
 | succ n ih =>
  intro l h0 h1 h2 h3;rcases List.eq_nil_or_concat l with rfl|⟨m,c,rfl⟩
  ·exact absurd rfl h1
  ·rw [List.concat_eq_append] at h0 h1 h2 h3 ⊢
   rw [List.all_append,Bool.and_eq_true] at h2;have hc:a0x c=true:=by simpa using h2.2
   obtain ⟨c1,c2⟩:=a2d hc;rw [c3e]
   by_cases hm:m=[]
   ·subst hm
    have hc48:c≠48:=fun h=>h3 (by rw [h];rfl)
    have hcn:c.toNat≠48:=fun h=>hc48 (UInt8.toNat_inj.1 h)
    have e0:dv []*10+(c.toNat - 48)=c.toNat - 48:=by simp [dv,dvF]
    rw [e0];refine ⟨by omega,?_⟩;rw [Lib.decDigits,dif_pos (by omega),b4m hc];rfl
   ·have hh:m.head? ≠ some 48:=by
     cases m with
     | nil=>exact absurd rfl hm
     | cons a m=>exact h3
    obtain ⟨i1,i2⟩:=ih m (by rw [List.length_append,List.length_singleton] at h0;omega) hm h2.1 hh;refine ⟨by omega,?_⟩;rw [b9h i1 (by omega),i2,b4m hc]
theorem a8b {l:List UInt8}(h:a0V l=true):Lib.decDigits (dv l)=l∧(l≠[48]→dv l≠0):=by
 obtain ⟨h1,h2⟩:=a2p h
 by_cases h0:l=[48]
 ·subst h0
  refine ⟨?_,fun hh=>absurd rfl hh⟩;show Lib.decDigits 0=[48];rw [Lib.decDigits,dif_pos (by decide)];rfl
 ·have h3:l.head? ≠ some 48:=by
   unfold a0V at h;rw [Bool.and_eq_true,decide_eq_false h0,Bool.false_or] at h
   have:=h.2
   simpa using this
  obtain ⟨a,b⟩:=c8N _ l rfl h1 h2 h3;exact ⟨b,fun _=>a⟩
theorem b4t:∀ {l:List UInt8},a0d l<l.length→l.drop (a0d l)=47::l.drop (a0d l+1)
 | [],h=>by cases h
 | c::l,h=>by
  by_cases hc:c=47
  ·subst hc;rfl
  ·have e1:a0d (c::l)=a0d l+1:=by
    unfold a0d;rw [List.takeWhile_cons,if_pos (by simpa using hc),List.length_cons]
   rw [e1,List.length_cons] at h;rw [e1,List.drop_succ_cons,List.drop_succ_cons];exact b4t (by omega)
def b3b (l:List UInt8):Nat:=if a3J l then dv (a1r l) else 1
def a0q (l:List UInt8):Rat:=mkRat (rv (a1V l)) (b3b l)
theorem b7M {n:Int}{d:Nat}(hd:d≠0)(h:Nat.gcd n.natAbs d=1):(mkRat n d).num=n∧(mkRat n d).den=d:=by
 obtain ⟨q1,q2⟩:=a9U (x:=n) hd;rw [h,Nat.div_one] at q1 q2;rw [b3T] at q1;exact ⟨q1,q2⟩
theorem a9V {l:List UInt8}(h:chk l=0):a3B l=false∧(a0M l).length≤600∧(a1r l).length≤600∧(a3J l=true→Nat.gcd (dv (a0M l)) (dv (a1r l))=1):=by
 unfold chk at h;cases hb:a3B l
 ·rw [hb,if_neg (by decide)] at h
  split at h
  ·cases h
  ·rename_i h1
   split at h
   ·cases h
   ·rename_i h2
    refine ⟨rfl,by omega,by omega,fun h3=>?_⟩;rcases Nat.decEq (Nat.gcd (dv (a0M l)) (dv (a1r l))) 1 with h4|h4
    ·exact absurd ⟨h3,h4⟩ h2
    ·exact h4
 ·rw [hb,if_pos rfl] at h;cases h
theorem a2x {l:List UInt8}(h:chk l=0):(a0q l).num=rv (a1V l)∧(a0q l).den=b3b l∧txt (a0q l)=l∧(rv (a1V l)).natAbs=dv (a0M l):=by
 obtain ⟨h1,h2,h3,h4⟩:=a9V h;rw [a4s] at h1;simp only [Bool.or_eq_false_iff] at h1;obtain ⟨⟨b1,b2⟩,b3⟩:=h1;have p1:a0V (a0M l)=true:=by simpa using b1
 obtain ⟨d1,d2⟩:=a8b p1;have hab:(rv (a1V l)).natAbs=dv (a0M l):=by
  show (rv (a1V l)).natAbs=dv (a0j (a1V l));unfold rv;split<;>omega
 have hdd:a3J l=true→a0V (a1r l)=true∧a1r l≠[48]∧a1r l≠[49]:=fun hs=>by
  rw [hs,Bool.true_and] at b3;simp only [Bool.or_eq_false_iff] at b3;exact ⟨by simpa using b3.1.1,of_decide_eq_false b3.1.2,of_decide_eq_false b3.2⟩
 have hd0:b3b l≠0:=by
  unfold b3b;cases hs:a3J l
  ·simp
  ·obtain ⟨e1,e2,e3⟩:=hdd hs
   simpa using (a8b e1).2 e2
 have hg:Nat.gcd (rv (a1V l)).natAbs (b3b l)=1:=by
  rw [hab];unfold b3b;cases hs:a3J l
  ·simp
  ·simpa using h4 hs
 obtain ⟨m1,m2⟩:=b7M hd0 hg;refine ⟨m1,m2,?_,hab⟩;have hi:Lib.itoa (rv (a1V l))=a1V l:=by
  cases hb:a1J (a1V l)
  ·have e1:a0M l=a1V l:=by unfold a0M a0j;rw [hb];rfl
   rw [e1] at d1;have e2:rv (a1V l)=(dv (a1V l):Int):=by unfold rv a0j;rw [hb];rfl
   rw [e2];unfold Lib.itoa;rw [if_neg (by omega)];exact d1
  ·obtain ⟨m,hm⟩:∃ m,a1V l=45::m:=by
    cases hn:a1V l with
    | nil=>rw [hn] at hb;cases hb
    | cons c m =>
     rw [hn] at hb;exact ⟨m,by rw [show c=45 by simpa [a1J] using hb]⟩
   have e1:a0M l=m:=by unfold a0M;rw [hm];rfl
   have hne:a0M l≠[48]:=fun h=>by
    have:=(a5V l).2.2.2
    rw [b2,hm] at this;have h2:=of_decide_eq_false this;rw [e1] at h;exact h2 (by rw [h])
   have hpos:=d2 hne;rw [e1] at d1 hpos;have e2:rv (a1V l) = -(dv m:Int):=by rw [hm];rfl
   rw [e2];unfold Lib.itoa;rw [if_pos (by omega),Int.natAbs_neg,Int.natAbs_natCast,d1,hm]
 unfold txt;rw [show (a0q l).num=rv (a1V l) from m1,show (a0q l).den=b3b l from m2,hi];have hle:=a1t l;cases hs:a3J l
 ·have e1:b3b l=1:=by unfold b3b;rw [hs];rfl
  have e2:=of_decide_eq_false (p:=a0d l<l.length) hs;rw [if_pos e1];unfold a1V;exact List.take_of_length_le (by omega)
 ·obtain ⟨e1,e2,e3⟩:=hdd hs
  have e4:b3b l=dv (a1r l):=by unfold b3b;rw [hs];rfl
  have e5:=(a8b e1).1;have e6:dv (a1r l)≠1:=fun h=>by
   rw [h,Lib.decDigits,dif_pos (by decide)] at e5;exact e3 e5.symm
  rw [e4,if_neg e6,e5];unfold a1V a1r;rw [← b4t (of_decide_eq_true hs),List.take_append_drop]
theorem a3y {l:List UInt8}(h:chk l=0):(a0M l).all a0x=true∧(a3J l=true→(a1r l).all a0x=true):=by
 obtain ⟨h1,-,-,-⟩:=a9V h;rw [a4s] at h1;simp only [Bool.or_eq_false_iff] at h1;obtain ⟨⟨b1,-⟩,b3⟩:=h1;refine ⟨(a2p (by simpa using b1)).2,fun hs=>?_⟩;rw [hs,Bool.true_and] at b3;simp only [Bool.or_eq_false_iff] at b3;exact (a2p (by simpa using b3.1.1)).2
theorem a4q {l:List UInt8}(h:chk l=0):rk (a0q l) 600:=by
 obtain ⟨m1,m2,-,m4⟩:=a2x h;obtain ⟨-,h2,h3,-⟩:=a9V h;obtain ⟨p1,p2⟩:=a3y h;have hb:∀ k,(10:Nat)^k≤BB^k:=fun k=>Nat.pow_le_pow_left (by decide) k
 refine ⟨?_,?_⟩
 ·rw [m1,m4]
  exact Nat.le_trans (a0D (Nat.lt_of_lt_of_le (a5b _ p1) (hb _))) h2
 ·rw [m2]
  unfold b3b;cases hs:a3J l
  ·exact Nat.le_trans (a0D (n:=1) (k:=1) (by decide)) (by decide)
  ·exact Nat.le_trans (a0D (Nat.lt_of_lt_of_le (a5b _ (p2 hs)) (hb _))) h3
theorem b1a {l:List UInt8}(h:chk l=0):FR (a0q l) (a1v l) 600:=by
 obtain ⟨m1,m2,-,-⟩:=a2x h;refine ⟨⟨a0G _,?_,?_⟩,a4q h⟩
 ·show (mkG (rv (a1V l))).z=_
  rw [a2t,m1]
 ·show (if a3J l then dv (a1r l) else 1)=_
  rw [m2];rfl
theorem b3p {l:List UInt8}(hl:l.length≤100000)(h:chk l=0):a0b C0 63 [str (sb l)] (a1v l).D:=c3C l hl (a3y h).1 (a3y h).2
def b0s (lo hi:List UInt8):Nat:=if chk lo≠0 then chk lo else if chk hi≠0 then chk hi else if a4R (a0q lo) (a0q hi)>0 then 11 else 0
def a3o:List (List UInt8)→Nat
 | []=>0
 | l::r=>if chk l≠0 then chk l else a3o r
theorem b2d {v:List (List UInt8)}{i:Nat}(h:∀ (j:Nat) (l:List UInt8),j<i→v[j]? = some l→chk l=0):a3o v=a3o (v.drop i):=by
 induction i generalizing v with
 | zero=>rfl
 | succ i ih =>
  cases v with
  | nil=>rfl
  | cons l r =>
   have h0:=h 0 l (Nat.succ_pos i) rfl;rw [List.drop_succ_cons];show (if chk l≠0 then chk l else a3o r)=_;rw [if_neg (fun hh=>hh h0)];exact ih fun j m hj hm=>h (j+1) m (by omega) hm
theorem c9D (lo hi:List UInt8)(h1:lo.length≤100000)(h2:hi.length≤100000):a0b C0 37 [.agg [str (sb lo),str (sb hi)]] (i64 (b0s lo hi)):=by
 refine a0c.walk w1 d1W rfl fun F=>?_
 have c1:=c1q lo h1;have c2:=c1q hi h2;unfold b0s;refine sR 0 ?_;refine sR 100 ?_;refine cI c1 ?_
 by_cases g1:chk lo=0
 ·have e8:(((chk lo:Nat):Int)==0)=true:=by rw [g1];rfl
  rw [if_neg (fun h=>h g1)];refine OkS.seqX (α:=Nat) (fun n=>⟨[(1,.optr 0 0 2 0 0),(3,i64 (chk hi:Int))],[⟨0,0,46,2,[.agg [str (sb lo),str (sb hi)]]⟩],n⟩) (fun _=>True) ?_ ?_
  ·refine sZ 200 ?_
   refine nwI e8 ?_;refine ifI ?_;refine rI 300 ?_;refine cI c2 ?_;exact ⟨rfl,_,trivial,wkI⟩
  rintro n0 -
  by_cases g2:chk hi=0
  ·have e9:(((chk hi:Nat):Int)==0)=true:=by rw [g2];rfl
   have cc:=d2w (a0q lo) (a0q hi) 600 600 (a4q g1) (a4q g2) (by decide);rw [if_neg (fun h=>h g2)];unfold rR at cc;rw [(a2x g1).2.2.1,(a2x g2).2.2.1] at cc;refine OkS.seq ?_;refine sZ 400 ?_;refine nwI e9 ?_;refine gwI kT ?_;refine gcI kT ?_;refine a0l.same _ cc inferInstance ?_;refine gwI kT ?_
   by_cases g3:a4R (a0q lo) (a0q hi)>0
   ·rw [decide_eq_true g3,if_pos g3]
    refine ifI ?_;refine sR 500 ?_;refine rtI ?_;exact a0a rfl IsPure.out
   ·rw [decide_eq_false g3,if_neg g3]
    refine ifI ?_;refine skI ?_;refine sR 600 ?_;refine rtI ?_;exact a0a (by rw [g2]) IsPure.out
  ·have e9:(((chk hi:Nat):Int)==0)=false:=beq_eq_false_iff_ne.2 (by omega)
   rw [if_pos g2];refine OkS.seq ?_;refine sZ 400 ?_;refine nwI e9 ?_;refine gwI kF ?_;refine ifI ?_;refine skI ?_;refine sR 600 ?_;refine rtI ?_;exact a0a rfl IsPure.out
 ·have e8:(((chk lo:Nat):Int)==0)=false:=beq_eq_false_iff_ne.2 (by omega)
  rw [if_pos g1];refine OkS.seq ?_;refine sZ 200 ?_;refine nwI e8 ?_;refine ifI ?_;refine skI ?_;refine OkS.seq ?_;refine sZ 400 ?_;refine nwI e8 ?_;refine gwI kF ?_;refine ifI ?_;refine skI ?_;refine sR 600 ?_;refine rtI ?_;exact a0a rfl IsPure.out
def a4g:List Int→Int
 | []=>0
 | e::r=>if e≠0 then e else a4g r
theorem a8u {v:List Int}{i:Nat}(h:∀ (j:Nat) (e:Int),j<i→v[j]? = some e→e=0):a4g v=a4g (v.drop i):=by
 induction i generalizing v with
 | zero=>rfl
 | succ i ih =>
  cases v with
  | nil=>rfl
  | cons l r =>
   have h0:=h 0 l (Nat.succ_pos i) rfl;rw [List.drop_succ_cons];show (if l≠0 then l else a4g r)=_;rw [if_neg (fun hh=>hh h0)];exact ih fun j m hj hm=>h (j+1) m (by omega) hm
theorem b6j {a:Int}(h:a≠0):(a != 0)=true:=by
 have:(a==0)=false:=beq_eq_false_iff_ne.2 h
 unfold bne;rw [this];rfl
theorem b7s (v:List Int)(hl:v.length≤1000):a0b C0 47 [.sl true 1 (v.map fun e=>i64 e)] (i64 (a4g v)):=by
 refine a0c.walk w1 c7t rfl fun F=>?_
 have el:(((v.map fun e=>i64 e).length:Nat):Int)=(v.length:Int):=by rw [List.length_map]
 refine sR 0 ?_;refine OkS.seq ?_;refine sZ 100 ?_;refine nwI el ?_;refine OkS.block ?_;refine OkS.loop (α:=Nat × Nat) (fun p=>⟨[(5,.sl true 1 (v.map fun e=>i64 e)),(6,i64 v.length),(7,i64 (p.1:Int))],[],p.2⟩) (fun p=>v.length - p.1) (fun p=>p.1≤v.length∧∀ (j:Nat) (e:Int),j<p.1→v[j]? = some e→e=0) (0,_) ⟨Nat.zero_le _,fun j l hj=>absurd hj (Nat.not_lt_zero j)⟩ wkI ?_;rintro ⟨i,n⟩ F ⟨hi,ha⟩;dsimp only at hi ha ⊢;refine sR 200 ?_;refine OkS.seq ?_;refine ifI ?_
 (refine brI (fun hlt=>?_) (fun hlt=>?_))<;>(try simp only [Bool.not_eq_true',Bool.not_eq_false'] at hlt)<;>(try simp only [hlt])
 ·have hi2:i<v.length:=by
   have:=of_decide_eq_true hlt
   omega
  obtain ⟨l,hl'⟩:∃ l,v[i]? = some l:=⟨v[i],List.getElem?_eq_getElem hi2⟩
  have hm:(v.map fun e=>i64 e)[i]? = some (i64 l):=by rw [List.getElem?_map,hl'];rfl
  have hd:a4g v=a4g (v.drop i):=a8u ha;have hdd:v.drop i=l::v.drop (i+1):=by
   rw [List.drop_eq_getElem_cons hi2];rw [List.getElem?_eq_getElem hi2] at hl';rw [Option.some.inj hl']
  have wi:IntKind.i64.wrap ((i:Int)+1)=((i+1:Nat):Int):=wI (by omega) (by omega);refine skI ?_;refine OkS.seq ?_;refine OkS.block ?_;refine sZ 300 ?_;refine gwI kN ?_;refine ixI kT hm ?_;refine gwI kN ?_
  by_cases g:l=0
  ·have e5:(l != 0)=false:=by rw [g];rfl
   refine sZ 400 ?_;refine nwI e5 ?_;refine ifI ?_;refine skI ?_;refine OkS.reg w1 600 (by kernel_rfl) ?_;refine nwI wi ?_;refine ⟨(i+1,_),⟨hi2,fun j m hj hjm=>?_⟩,by dsimp only;omega,wkI⟩;rcases Nat.lt_or_ge j i with h|h
   ·exact ha j m h hjm
   ·have:j=i:=by dsimp only at hj;omega
    subst this;rw [hl'] at hjm;cases hjm;exact g
  ·have e5:(l != 0)=true:=b6j g
   refine sZ 400 ?_;refine nwI e5 ?_;refine ifI ?_;refine sR 500 ?_;refine rtI ?_;refine a0a ?_ IsPure.out;rw [hd,hdd];show _=i64 (if l≠0 then l else a4g (v.drop (i+1)));rw [if_pos g]
 ·have hi2:i=v.length:=by
   have:=of_decide_eq_false hlt
   omega
  subst hi2;refine exI ?_;refine sR 700 ?_;refine rtI ?_;refine a0a ?_ IsPure.out;rw [a8u ha,List.drop_of_length_le (Nat.le_refl _)];rfl
theorem b3m {a b:List UInt8}(ha:chk a=0)(hb:chk b=0):a0b C0 33 [str (sb a),str (sb b)] (i64 (a4R (a0q a) (a0q b))):=by
 have cc:=d2w (a0q a) (a0q b) 600 600 (a4q ha) (a4q hb) (by decide);unfold rR at cc;rw [(a2x ha).2.2.1,(a2x hb).2.2.1] at cc;exact cc
theorem b9z (a b:List UInt8):a1P (sb a) (sb b)=decide (a=b):=by
 unfold a1P
 by_cases h:a=b
 ·subst h;simp
 ·rw [decide_eq_false h]
  apply beq_eq_false_iff_ne.2;intro hh;apply h;simpa [sb] using hh
def b4e (f:Nat→Nat):Nat→Nat
 | 0=>0
 | n+1=>if b4e f n≠0 then b4e f n else f n
theorem a5v {f:Nat→Nat}{n:Nat}(h:∀ j,j<n→f j=0):b4e f n=0:=by
 induction n with
 | zero=>rfl
 | succ n ih =>
  have:=ih fun j hj=>h j (by omega)
  unfold b4e;rw [if_neg (fun hh=>hh this)];exact h n (by omega)
theorem b2l {f:Nat→Nat}{i n:Nat}(h:∀ j,j<i→f j=0)(hi:i<n)(h0:f i≠0):b4e f n=f i:=by
 induction n with
 | zero=>omega
 | succ n ih =>
  unfold b4e;rcases Nat.lt_or_ge i n with hlt|hge
  ·have:=ih hlt
   rw [if_pos (by rw [this];exact h0),this]
  ·have:i=n:=by omega
   subst this;rw [if_neg (fun hh=>hh (a5v h))]
theorem c0x {f:Nat→Nat}{n:Nat}(h:b4e f n=0):∀ j,j<n→f j=0:=by
 induction n with
 | zero=>intro j hj;omega
 | succ n ih =>
  unfold b4e at h
  by_cases h0:b4e f n=0
  ·rw [if_neg (fun hh=>hh h0)] at h
   intro j hj;rcases Nat.lt_or_ge j n with hl|hg
   ·exact ih h0 j hl
   ·have:j=n:=by omega
    subst this;exact h
  ·rw [if_pos h0] at h
   exact absurd h h0
structure c3F where
 name:List UInt8
 least:List (List UInt8)
 most:List (List UInt8)
 deriving Inhabited
def c3F.D (g:c3F):D:=.agg [str (sb g.name),.sl false 1 (g.least.map fun l=>str (sb l)),.sl false 1 (g.most.map fun l=>str (sb l))]
instance  (g:c3F):CellsPure g.D:=by unfold c3F.D;exact inferInstance
instance  (g:c3F):IsPure g.D:=by unfold c3F.D;exact inferInstance
def lv (l:List (List UInt8))(k:Nat):List UInt8:=l.getD k []
def c6y (gs:List c3F)(i k:Nat):Option (List UInt8 × List UInt8):=if i=0 then none else some (lv (gs.getD (i - 1) default).least k,lv (gs.getD (i - 1) default).most k)
theorem a9B {l:List (List UInt8)}{k:Nat}(h:k<l.length):l[k]? = some (lv l k):=by
 unfold lv;rw [List.getD_eq_getElem?_getD,List.getElem?_eq_getElem h];rfl
theorem c7S {l:List (List UInt8)}{k:Nat}(h:k<l.length):(l.map fun x=>str (sb x))[k]? = some (str (sb (lv l k))):=by
 rw [List.getElem?_map,a9B h];rfl
set_option maxHeartbeats 4000000
theorem c2C (a b:Rat):decide (a4R a b>0)=decide (a4R b a<0):=decide_eq_decide.2 (by
 unfold a4R
 by_cases h1:a<b
 ·have h2:¬ b<a:=by grind
  rw [if_pos h1,if_neg h2,if_pos h1];decide
 ·by_cases h2:b<a
  ·rw [if_neg h1,if_pos h2,if_pos h2];decide
  ·rw [if_neg h1,if_neg h2,if_neg h2,if_neg h1])
def c9z (v:List (List UInt8)):Bool:=v.all fun l=>decide (l.length≤40)
theorem c3p {v:List (List UInt8)}(h:c9z v=true):∀ l∈v,l.length≤40:=fun l hl=>of_decide_eq_true (List.all_eq_true.1 h l hl)
theorem a4x {α:Type}{l:List α}{p:α→Bool}{k:Nat}{x:α}(hx:l[k]? = some x)(h:(l.take k).all p=true)(hp:p x=true):(l.take (k+1)).all p=true:=by
 rw [List.take_add_one,hx,List.all_append,h];simp [hp]
theorem b0b {α:Type}{l:List α}{p:α→Bool}{k:Nat}{x:α}(hx:l[k]? = some x)(hp:p x=false):l.all p=false:=by
 cases h:l.all p
 ·rfl
 ·rw [List.all_eq_true.1 h x (List.mem_of_getElem? hx)] at hp;exact hp
theorem d0A (b:Bool)(v:List (List UInt8))(hl:v.length≤9223372036854775807):a0b C0 19 [.sl b 1 (v.map fun l=>str (sb l))] (boo (c9z v)):=by
 refine a0c.walk w1 d1Q rfl fun F=>?_
 have el:(((v.map fun l=>str (sb l)).length:Nat):Int)=(v.length:Int):=by rw [List.length_map]
 refine sR 0 ?_;refine OkS.seq ?_;refine sZ 100 ?_;refine nwI el ?_;refine OkS.block ?_;refine OkS.loop (α:=Nat × Nat) (fun p=>⟨[(5,.sl b 1 (v.map fun l=>str (sb l))),(6,i64 v.length),(7,i64 (p.1:Int))],[],p.2⟩) (fun p=>v.length - p.1) (fun p=>p.1≤v.length∧(v.take p.1).all (fun l=>decide (l.length≤40))=true) (0,_) ⟨Nat.zero_le _,rfl⟩ wkI ?_;rintro ⟨i,n⟩ F ⟨hi,ha⟩;dsimp only at hi ha ⊢;refine sR 200 ?_;refine OkS.seq ?_;refine ifI ?_
 (refine brI (fun hlt=>?_) (fun hlt=>?_))<;>(try simp only [Bool.not_eq_true',Bool.not_eq_false'] at hlt)<;>(try simp only [hlt])
 ·have hi2:i<v.length:=by
   have:=of_decide_eq_true hlt
   omega
  have hm:=c7S hi2;have hx:=a9B hi2;have wi:IntKind.i64.wrap ((i:Int)+1)=((i+1:Nat):Int):=wI (by omega) (by omega);obtain ⟨l,hl'⟩:∃ l,lv v i=l:=⟨_,rfl⟩
  rw [hl'] at hm hx;have hsz:=a0r l;refine skI ?_;refine OkS.seq ?_;refine OkS.block ?_;refine sZ 300 ?_;refine gwI kN ?_;refine ixI kT hm ?_;refine gwI kN ?_
  by_cases g:l.length≤40
  ·have e5:decide ((l.length:Int)>40)=false:=decide_eq_false (by omega)
   refine sZ 400 ?_;refine nwI (ff2 hsz e5) ?_;refine ifI ?_;refine skI ?_;refine OkS.reg w1 600 (by kernel_rfl) ?_;refine nwI wi ?_;exact ⟨(i+1,_),⟨hi2,a4x hx ha (decide_eq_true g)⟩,by dsimp only;omega,wkI⟩
  ·have e5:decide ((l.length:Int)>40)=true:=decide_eq_true (by omega)
   refine sZ 400 ?_;refine nwI (ff2 hsz e5) ?_;refine ifI ?_;refine sR 500 ?_;refine rtI ?_;exact a0a (by unfold c9z;rw [b0b hx (decide_eq_false g)]) IsPure.out
 have hi2:i=v.length:=by
  have:=of_decide_eq_false hlt
  omega
 subst hi2;refine exI ?_;refine sR 700 ?_;refine rtI ?_;exact a0a (by unfold c9z;rw [List.take_length] at ha;rw [ha]) IsPure.out
open Go.ChangeShapes Go.WideShapes
def stF (P:Program)(t:Nat):Option (List (Nat × Nat × Nat)):=match P.underlying t with
 | some (.struct fs)=>some (fs.toList.map fun f=>(f.type,f.offset,P.cellsOf f.type))
 | _=>none
section
variable {H:Type} {enc:TypeId × Value→H} {W:World} {fuel:Nat} {cs:List Value} {x:DataW H × List MemPlace} {t:TypeId}
theorem d0q {l:List (Nat × Nat × Nat)}{m:Nat}(hs:stF Tryz.prog t=some l)(hm:Tryz.prog.cellsOf t=m)(h:DataW.trod enc Tryz.prog W 0 (fun _=>true) true fuel t cs=some x) :
  cs.length=m∧∃ n,∀ (i u off k:Nat),l[i]? = some (u,off,k)→∃ y,DataW.trod enc Tryz.prog W 0 (fun _=>true) true n u ((cs.drop off).take k)=some y:=by
 unfold stF at hs;split at hs
 ·rename_i fs hu
  obtain ⟨h1,n,h2⟩:=b6X hu h;refine ⟨h1.trans hm,n,fun i u off k hl=>?_⟩;obtain rfl:=Option.some.inj hs;rw [List.getElem?_map] at hl;obtain ⟨f,hf,he⟩:=Option.map_eq_some_iff.1 hl;cases he;exact h2 i f (by rw [← Array.getElem?_toList];exact hf)
 ·cases hs
theorem c5x {a b c:Nat}{p q:List D}(h:a6U W ((cs.drop a).take b) p)(k:a6U W ((cs.drop (a+b)).take c) q):a6U W ((cs.drop a).take (b+c)) (p++q):=by
 rw [List.take_add,List.drop_drop];exact h.append k
theorem c8P {n:Nat}{p:List D}(hn:cs.length=n)(h:a6U W ((cs.drop 0).take n) p):a6U W cs p:=by
 rw [List.drop_zero,← hn,List.take_length] at h;exact h
theorem c2O (h:DataW.trod enc Tryz.prog W 0 (fun _=>true) true fuel 44 cs=some x):∃ l:List UInt8,a6U W cs (str (sb l)).cells∧l.length≤maxLen:=c7e (by kernel_rfl) h
end
theorem ltT {i n:Nat}(h:i<n):decide ((i:Int)<(n:Int))=true:=decide_eq_true (by omega)
theorem ltF {i n:Nat}(h:n≤i):decide ((i:Int)<(n:Int))=false:=decide_eq_false (by omega)
theorem wiI {i:Nat}(h:i<9223372036854775807):IntKind.i64.wrap ((i:Int)+1)=((i+1:Nat):Int):=wI (by omega) (by omega)
theorem a0H {α:Type}{l:List α}{i:Nat}(h:i<l.length):∃ x,l[i]? = some x:=⟨l[i],List.getElem?_eq_getElem h⟩
theorem a2e {α:Type}{l:List α}{Q:α→Prop}{i:Nat}{x:α}(hx:l[i]? = some x)(ha:∀ (j:Nat) (y:α),j<i→l[j]? = some y→Q y)(h:Q x):∀ (j:Nat) (y:α),j<i+1→l[j]? = some y→Q y:=fun j y hj hy=>by
 rcases Nat.lt_or_ge j i with h1|h1
 ·exact ha j y h1 hy
 ·have:j=i:=by omega
  subst this;rw [hx] at hy;cases hy;exact h
abbrev txD (b:Bool)(v:List (List UInt8)):D:=.sl b 1 (v.map fun l=>str (sb l))
instance  (l:List UInt8):CellsPure (a1v l).D:=by unfold GF.D;exact inferInstance
theorem b2Z {v:List (List UInt8)}(h:a3o v=0):∀ l∈v,chk l=0:=by
 induction v with
 | nil=>intro l hl;cases hl
 | cons a r ih =>
  have h':(if chk a≠0 then chk a else a3o r)=0:=h
  by_cases g:chk a=0
  ·rw [if_neg (fun k=>k g)] at h'
   intro l hl;rcases List.mem_cons.1 hl with rfl|h2
   ·exact g
   ·exact ih h' l h2
  ·rw [if_pos g] at h';exact absurd h' g
theorem b4Y {v:List (List UInt8)}(ha:∀ (j:Nat) (y:List UInt8),j<v.length→v[j]? = some y→chk y=0):a3o v=0:=by
 rw [b2d (i:=v.length) ha,List.drop_length];rfl
theorem c0r {v:List (List UInt8)}{i:Nat}{l:List UInt8}(h:v[i]? = some l):lv v i=l:=by
 unfold lv;rw [List.getD_eq_getElem?_getD,h];rfl
theorem d0k {a b:Nat}(h:a≠b):(((a:Nat):Int) != (b:Int))=true:=by
 have:(((a:Nat):Int)==(b:Int))=false:=beq_eq_false_iff_ne.2 (by omega)
 unfold bne;rw [this];rfl
theorem c9Q {a b:Nat}(h:a=b):(((a:Nat):Int) != (b:Int))=false:=by subst h;simp
theorem b4x {a:Nat}(h:a≠0):(((a:Nat):Int) != 0)=true:=b6j (by omega)
theorem b5l {a:Nat}(h:a=0):(((a:Nat):Int) != 0)=false:=by subst h;rfl
theorem d3R {a:Nat}(h:a≠0):(((a:Nat):Int)==0)=false:=beq_eq_false_iff_ne.2 (by omega)
theorem a8o {H Hf:Hp}{K g T sz:Nat}{l:List D}(h:l=[]∨Hp.get H K=some ⟨K,g,T,sz,l⟩)(hf:Hp.get Hf K=none):Fz H Hf (a6T K g sz l) (.sl false sz l):=by
 cases l with
 | nil=>exact .nil sz
 | cons x l =>
  rcases h with h|h
  ·cases h
  refine .osl (e:=⟨K,g,T,sz,x::l⟩) h hf rfl rfl (by simp) (by simp) (fun j d d' h1 h2=>?_) fun j d d' q c c' h1 h2 h3 h4=>?_
  ·rw [Nat.zero_add] at h1;rw [h1] at h2;cases h2;rfl
  ·rw [Nat.zero_add] at h1;rw [h1] at h2;cases h2;rw [h3] at h4;cases h4;exact Fz.refl _
theorem c3V {H Hf r r':Hp}{K g T sz:Nat}{l:List D}(h:FzH H Hf r r'):FzH H Hf (a5j K g T sz l++r) r':=by
 cases l with
 | nil=>exact h
 | cons x l=>exact .drop h
theorem a9T {K g T sz:Nat}{l:List D}{H:Hp}:l=[]∨Hp.get (a5j K g T sz l++H) K=some ⟨K,g,T,sz,l⟩:=by
 cases l with
 | nil=>exact .inl rfl
 | cons x l=>right;simp [a5j,Hp.get]
theorem b5F {H Hf:Hp}{a a' b:D}(h:Fz H Hf a a'):Fz H Hf (.tup [a,b]) (.tup [a',b]):=.tup rfl fun i d d' h1 h2=>by
 rcases i with _|_|i
 ·cases h1;cases h2;exact h
 ·cases h1;cases h2;exact .refl _
 ·simp at h1
section
variable {H:Type} {enc:TypeId × Value→H} {W:World} {fuel:Nat} {cs:List Value} {x:DataW H × List MemPlace} {t:TypeId}
theorem c6O (h:DataW.trod enc Tryz.prog W 0 (fun _=>true) true fuel 3 cs=some x):∃ z:Int,a6U W cs [i64 z]:=by
 obtain ⟨z,_,_,h⟩:=c6S (by kernel_rfl) h;exact ⟨z,h⟩
end
theorem c9B {P:Program}{W:World}{t e base:Nat}{v:Value}(hu:P.underlying t=some (.slice e))(h:Value.okWide P W .any base t v):∃ a l c,v=.slice a l c:=by
 unfold Value.okWide at h;rw [hu] at h;dsimp only at h;unfold Cell.okWide at h;rw [hu] at h;cases v<;>first|exact ⟨_,_,_,rfl⟩|(dsimp only at h;unfold Cell.ok at h;rw [hu] at h;exact h.elim)
theorem a6U.val1 {W:World}{v:Value}{d:D}(h:a6U W [v] [d]):Rep nol (fun _=>False) W d v:=(h.cell 0 v d rfl rfl).2
def nb (r:Rat)(n d:Nat):Prop:=r.num.natAbs≤n∧r.den≤d
theorem nb.mono {r:Rat}{n d n' d':Nat}(h:nb r n d)(h1:n≤n')(h2:d≤d'):nb r n' d':=⟨Nat.le_trans h.1 h1,Nat.le_trans h.2 h2⟩
theorem a9M {n:Int}{d N D:Nat}(hd:d≠0)(h1:n.natAbs≤N)(h2:d≤D):nb (Rat.normalize n d hd) N D:=by
 rw [Rat.normalize_eq];exact ⟨Nat.le_trans (Int.natAbs_ediv_le_natAbs _ _) h1,Nat.le_trans (Nat.div_le_self _ _) h2⟩
theorem c7D {a b:Rat}{n d m e:Nat}(ha:nb a n d)(hb:nb b m e):nb (a+b) (n*e+m*d) (d*e):=by
 rw [Rat.add_def];refine a9M _ (Nat.le_trans (Int.natAbs_add_le _ _) ?_) (Nat.mul_le_mul ha.2 hb.2);rw [Int.natAbs_mul,Int.natAbs_mul,Int.natAbs_natCast,Int.natAbs_natCast];exact Nat.add_le_add (Nat.mul_le_mul ha.1 hb.2) (Nat.mul_le_mul hb.1 ha.2)
theorem c2r {a b:Rat}{n d m e:Nat}(ha:nb a n d)(hb:nb b m e):nb (a*b) (n*m) (d*e):=by
 rw [Rat.mul_def];exact a9M _ (by rw [Int.natAbs_mul];exact Nat.mul_le_mul ha.1 hb.1) (Nat.mul_le_mul ha.2 hb.2)
theorem c7I {a:Rat}{n d:Nat}(ha:nb a n d)(h0:a≠0):nb a⁻¹ d n:=by
 rw [Rat.inv_def];obtain ⟨h1,h2⟩:=ha;have hn:a.num≠0:=fun h=>h0 (Rat.num_eq_zero.1 h)
 rcases Int.lt_or_gt_of_ne hn with h|h
 ·obtain ⟨m,hm⟩:∃ m,a.num=Int.negSucc m:=by
   cases hy:a.num with
   | ofNat n=>rw [hy] at h;simp at h;omega
   | negSucc k=>exact ⟨k,rfl⟩
  rw [hm] at h1 ⊢;exact a9M (n:=-(a.den:Int)) (d:=m+1) (by omega) (by rw [Int.natAbs_neg,Int.natAbs_natCast];exact h2) h1
 ·obtain ⟨m,hm⟩:∃ m:Nat,a.num=(m:Int):=⟨a.num.natAbs,by omega⟩
  rw [hm] at h1 h ⊢;rw [Rat.divInt_ofNat,← Rat.normalize_eq_mkRat (by omega)];exact a9M _ (by rw [Int.natAbs_natCast];exact h2) (by rw [Int.natAbs_natCast] at h1;exact h1)
theorem c8g {a b:Rat}{n d m e:Nat}(ha:nb a n d)(hb:nb b m e)(h0:b≠0):nb (a / b) (n*e) (d*m):=by
 rw [Rat.div_def];exact c2r ha (c7I hb h0)
theorem c1h (z:Int){n:Nat}(h:z.natAbs≤n):nb (z:Rat) n 1:=by
 unfold nb;rw [Rat.num_intCast,Rat.den_intCast];exact ⟨h,Nat.le_refl _⟩
theorem c4K:nb 0 0 1:=⟨by decide,by decide⟩
def d2y:Nat:=(10^100)^6
theorem c6M {r:Rat}{n d:Nat}(h:nb r n d)(h1:n<d2y)(h2:d<d2y):a7a r=false:=by
 unfold a7a;have key:∀ a b k m,a*b=k+1→m<(10^a)^b→(Lib.decDigits m).length≤k+1:=fun a b k m hk h=>a1q k m (by rw [← hk,Nat.pow_mul];exact h)
 have l1:=key 100 6 599 r.num.natAbs rfl (Nat.lt_of_le_of_lt h.1 h1);have l2:=key 100 6 599 r.den rfl (Nat.lt_of_le_of_lt h.2 h2);rw [decide_eq_false (by omega),decide_eq_false (by omega)];rfl
def E40:Nat:=10^40
theorem b8u {l:List UInt8}(h:chk l=0)(hl:l.length≤40):nb (a0q l) E40 E40:=by
 obtain ⟨m1,m2,m3,m4⟩:=a2x h;obtain ⟨p1,p2⟩:=a3y h;have hs1:(a0M l).length≤40:=by
  have:(a0M l).length≤l.length:=by
   unfold a0M;have a1:(a0j (a1V l)).length≤(a1V l).length:=by unfold a0j;split<;>simp
   have a2:(a1V l).length≤l.length:=by unfold a1V;rw [List.length_take];omega
   omega
  omega
 have hb:∀ k,k≤40→(10:Nat)^k≤E40:=fun k hk=>Nat.pow_le_pow_right (by decide) hk
 refine ⟨?_,?_⟩
 ·rw [m1,m4]
  exact Nat.le_trans (Nat.le_of_lt (a5b _ p1)) (hb _ hs1)
 ·rw [m2]
  unfold b3b;cases hs:a3J l
  ·exact (by decide:1≤E40)
  ·have hs2:(a1r l).length≤40:=by
    have:(a1r l).length≤l.length:=by unfold a1r;simp
    omega
   exact Nat.le_trans (Nat.le_of_lt (a5b _ (p2 hs))) (hb _ hs2)
theorem c4y (k:Nat)(hk:1≤k):FR 0 ⟨mkG 0,1⟩ k:=⟨⟨a0G _,by rw [a2t];rfl,rfl⟩,by
 refine rk.mono (k:=1) ?_ hk;exact ⟨a0D (k:=1) (by decide),a0D (k:=1) (by decide)⟩⟩
theorem c4W {S t:Rat}{i:Nat}(hS:nb S (i*(2*(E40*E40*E40*E40))*E40^i) (E40^i))(ht:nb t (2*(E40*E40*E40*E40)) E40):nb (S+t) ((i+1)*(2*(E40*E40*E40*E40))*E40^(i+1)) (E40^(i+1)):=by
 generalize 2*(E40*E40*E40*E40)=Q at *;refine (c7D hS ht).mono ?_ (Nat.le_of_eq (Nat.pow_succ ..).symm);rw [Nat.pow_succ,Nat.add_mul,Nat.add_mul,Nat.one_mul,Nat.mul_assoc (i*Q)];refine Nat.add_le_add_left ?_ _;refine Nat.mul_le_mul_left _ ?_;exact Nat.le_mul_of_pos_right _ (by decide)
set_option maxHeartbeats 1000000
set_option maxRecDepth 100000
theorem d2m {n:Nat}(h:1≤n):liesAt Tryz.prog Tryz.prog.depth 269 n 0 269 1=true:=by
 have hs:sameLayout Tryz.prog Tryz.prog.depth 269 269=true:=by kernel_rfl
 have hc:Tryz.prog.cellsOf 269=2:=by kernel_rfl
 obtain ⟨d,hd⟩:∃ d,Tryz.prog.depth=d+1:=⟨Tryz.prog.depth - 1,by kernel_rfl⟩
 rw [hd] at hs ⊢;unfold liesAt;rw [hd];unfold rowAt;simp [hc,hs,h]
theorem c4m (b c:Nat)(hc:2≤c)(w:World)(h0:w.cell? ⟨b,0,none⟩=some (.pointer none))(hsh:w.shape? b=some (269,c))(hfz:w.frozen? ⟨b,0,none⟩=false) :
  Calls Tryz.prog 242 #[.pointer (some ⟨b,0,none⟩)] w fun e w'=>e=.returned (.tuple #[])∧w'=w.setCell ⟨b,0,none⟩ (.pointer (some ⟨b,0,none⟩)):=by
 obtain ⟨j,hj,hjs⟩:=Option.map_eq_some_iff.1 (show (Tryz.prog.info? 269).map (·.size)=some 2 by kernel_rfl);have hl:liesAt Tryz.prog Tryz.prog.depth 269 (c / Tryz.prog.cellsOf 269) 0 269 1=true:=d2m (by rw [show Tryz.prog.cellsOf 269=2 by kernel_rfl];omega)
 go_enter Tryz.func242,Tryz.ntmps242
 go_wp2
 rw [Lib.run_to_unsafe w ⟨b,0,none⟩ (t:=269) (by kernel_rfl) (by kernel_rfl) hj (by rw [hjs];decide) hsh (by show 0<c;omega)];simp only [Result.andThen];rw [Oper.upon_value]
 go_wp2
 rw [run_callFunc_extern Tryz.func265 (by kernel_rfl) (by kernel_rfl) (by kernel_rfl) (e:=Extern.AbiNoEscape.same) (by kernel_rfl)];rw [Lib.run_noEscape];simp only [Result.andThen];rw [Oper.upon_value]
 go_wp2
 rw [Lib.run_from_unsafe w ⟨b,0,none⟩ (u:=269) (by kernel_rfl) (by kernel_rfl) hj hsh hl];simp only [Result.andThen];rw [Oper.upon_value]
 go_wp2
 go_end0
 exact ⟨rfl,rfl⟩
theorem c5G (b:Nat)(w:World)(h0:w.cell? ⟨b,0,none⟩=some (.pointer (some ⟨b,0,none⟩))) :
  Calls Tryz.prog 242 #[.pointer (some ⟨b,0,none⟩)] w fun e w'=>e=.returned (.tuple #[])∧w'=w:=by
 obtain ⟨j,hj,hjs⟩:=Option.map_eq_some_iff.1 (show (Tryz.prog.info? 269).map (·.size)=some 2 by kernel_rfl)
 go_enter Tryz.func242,Tryz.ntmps242
 go_wp2
 rw [Lib.run_neq_ptr_same w _ (te:=269) (by kernel_rfl) hj]
 go_wp2
 go_end0
 exact ⟨rfl,rfl⟩
theorem d2U (b g:Nat)(cur cs:Array Value)(l:List UInt8)(h0:l≠[])(w:World)(hb:w.heap[b]? = some (.cells cs 269 (0,0)))(hb1:cs[1]? = some (.slice (some ⟨g,0,none⟩) l.length cur.size))
  (hg:w.heap[g]? = some (.cells cur 5 (0,0))) (hl:l.length≤cur.size) (hcap:cur.size≤maxLen) (hcell:∀ (j:Nat) (x:UInt8),l[j]? = some x→cur[j]? = some (.int .u8 x.toNat)) :
  Calls Tryz.prog 189 #[.pointer (some ⟨b,0,none⟩)] w fun e w'=>e=.returned (.string ⟨l.toArray⟩)∧w'=(w.drew.freeze ⟨g,0,none⟩ l.length):=by
 have c1:w.drew.cell? ⟨b,1,none⟩=some (.slice (some ⟨g,0,none⟩) l.length cur.size):=by
  have:w.drew.heap[b]? = some (.cells cs 269 (0,0)):=hb
  rw [Lib.cell_of_heap this];exact hb1
 have h0':l.length≠0:=by simpa using h0
 have hSD:(Builtin.unsafeSliceData_ #[267] 317 #[.slice (some ⟨g,0,none⟩) l.length cur.size]).run Tryz.prog w.drew=.ok (.pointer (some ⟨g,0,none⟩)) w.drew :=
  Lib.run_unsafeSliceData_row _ _ _ _ _ _ (by omega)
 have hUS:(Builtin.unsafeString_ #[317,3] 9 #[.pointer (some ⟨g,0,none⟩),.int .i64 l.length]).run Tryz.prog w.drew=.ok (.string ⟨l.toArray⟩) (w.drew.freeze ⟨g,0,none⟩ l.length):=by
  refine Lib.run_unsafeString_row w.drew 317 3 9 5 (by kernel_rfl) (by kernel_rfl) g cur.size (by have hg':w.drew.heap[g]? = some (.cells cur 5 (0,0)):=hg;simp [World.shape?,hg']) l h0 (by omega) (by unfold maxLen at hcap;omega) ?_;intro j x hx;have hg':w.drew.heap[g]? = some (.cells cur 5 (0,0)):=hg
  have:=hcell j x hx
  rw [Addr.add_lit];simp [World.cell?,hg',this]
 have mixed:Tryz.prog.follows .mixedOrders=true:=by kernel_rfl
 go_enter Tryz.func189,Tryz.ntmps189
 go_wp2
 go_region_o
 all_goals (go_wp2;go_ret;exact ⟨rfl,rfl⟩)
def a4K (l:List UInt8):List D:=l.map fun b=>.prim (.int .u8 (b.toNat:Int))
abbrev b0S (g:Nat)(p x:D):Ent:=⟨1500,g,269,2,[.agg [p,x]]⟩
theorem d2N {vs:Array Value}(h:vs.size=1):vs = #[vs.getD 0 undef]:=by
 match vs,h with
 | ⟨[u]⟩,_=>rfl
theorem d2H (g n:Nat)(x p:D)(H1 H2:Hp)(hp:p=.prim (.pointer none)∨p=.optr 1500 g 2 0 0) :
  a0w C0 242 [.optr 1500 g 2 0 0] (H1++b0S g p x::H2) n (fun d H' n'=>d=.prim (.tuple #[])∧H'=H1++b0S g (.optr 1500 g 2 0 0) x::H2∧n'=n):=by
 refine ⟨⟨_,_,Tryz.func242,rfl,by kernel_rfl⟩,fun F ρ w vs m fr hgn hvs hr=>?_⟩;have h0:=hr 0 _ rfl;rw [d2N hvs];generalize hv:vs.getD 0 undef=v at h0;cases h0 with
 | optr hρ =>
  rename_i b;have he:b0S g p x∈H1++b0S g p x::H2:=by simp
  obtain ⟨cs,hc,q⟩:=m.at he hρ;have hlen:2≤cs.size:=q.len;have hr0:Rep ρ (Own F.X ρ (H1++b0S g p x::H2)) w p (cs.getD 0 undef):=q.rep 0 _ 0 p rfl rfl;have hr1:Rep ρ (Own F.X ρ (H1++b0S g p x::H2)) w x (cs.getD 1 undef):=q.rep 0 _ 1 x rfl rfl;have hcell:w.cell? ⟨b,0,none⟩=some (cs.getD 0 undef):=by
   simp [World.cell?,hc,Array.getD,show 0<cs.size by omega]
  rcases hp with rfl|rfl
  ·cases hr0':cs.getD 0 undef with
   | pointer a =>
    rw [hr0'] at hr0 hcell;cases hr0;refine (c4m b cs.size hlen w hcell (by simp [World.shape?,hc]) (by simp [World.frozen?,hc])).mono ?_;rintro e w' ⟨rfl,rfl⟩;have hset:w.setCell ⟨b,0,none⟩ (.pointer (some ⟨b,0,none⟩))=World.setBlk w b (cs.setIfInBounds 0 (.pointer (some ⟨b,0,none⟩))) 269:=by
     rw [setCell_eq_setRow w b 0 cs 269 (0,0) _ hc];exact a8g hc
    have hop:Rep ρ (Own F.X ρ (H1++b0S g (.prim (.pointer none)) x::H2)) w (.optr 1500 g 2 0 0) (.pointer (some ⟨b,0*2+0,none⟩)):=.optr hρ;have ho:a1Z ρ (Own F.X ρ (H1++b0S g (.prim (.pointer none)) x::H2)) w (b0S g (.optr 1500 g 2 0 0) x) (cs.setIfInBounds 0 (.pointer (some ⟨b,0,none⟩))):=by
     refine ⟨by rw [Array.size_setIfInBounds];exact q.len,fun i d hd=>?_,fun i v hv=>?_,fun i d j c hd hj=>?_⟩
     ·rcases i with _|i
      ·cases hd;rfl
      ·simp at hd
     ·rw [Array.getElem?_setIfInBounds] at hv
      split at hv
      ·split at hv
       ·cases hv;rfl
       ·cases hv
      ·exact q.one i v hv
     ·rcases i with _|i
      ·cases hd
       rcases j with _|_|j
       ·cases hj
        have:(cs.setIfInBounds 0 (.pointer (some ⟨b,0,none⟩))).getD (0*2+0) undef=.pointer (some ⟨b,0*2+0,none⟩):=by
         simp [Array.getD_eq_getD_getElem?,show 0<cs.size by omega]
        rw [this];exact hop
       ·cases hj
        have:(cs.setIfInBounds 0 (.pointer (some ⟨b,0,none⟩))).getD (0*2+1) undef=cs.getD 1 undef:=by
         simp [Array.getD_eq_getD_getElem?]
        rw [this];exact hr1
       ·simp [D.cells] at hj
      ·simp at hd
    obtain ⟨m1,x1⟩:=m.write (e':=b0S g (.optr 1500 g 2 0 0) x) hρ hc rfl rfl rfl (Array.size_setIfInBounds ..) ho;rw [hset];exact ⟨_,_,_,n,ρ,rfl,⟨rfl,rfl,rfl⟩,m1,x1,fr,fun e' he'=>by
     rcases List.mem_append.1 he' with h|h
     ·exact hgn e' (by simp [h])
     ·rcases List.mem_cons.1 h with rfl|h
      ·exact hgn (b0S g (.prim (.pointer none)) x) he
      ·exact hgn e' (by simp [h]),.prim _⟩
   | _=>rw [hr0'] at hr0;cases hr0
  ·cases hr0':cs.getD 0 undef with
   | pointer a =>
    rw [hr0'] at hr0 hcell;cases hr0 with
    | optr hρ2 =>
     rw [hρ] at hρ2;cases hρ2;refine (c5G b w hcell).mono ?_;rintro e w' ⟨rfl,rfl⟩;exact ⟨_,_,_,n,ρ,rfl,⟨rfl,rfl,rfl⟩,m,Ext.refl _ _ _,fr,hgn,.prim _⟩
   | _=>rw [hr0'] at hr0;cases hr0
theorem b0W (w:World)(g n:Nat)(hn:n≠0)(cur:Array Value)(T:Nat)(hg:w.heap[g]? = some (.cells cur T (0,0))) :
  (w.freeze ⟨g,0,none⟩ n).heap.size=w.heap.size∧(w.freeze ⟨g,0,none⟩ n).os=w.os∧(w.freeze ⟨g,0,none⟩ n).tape=w.tape∧(w.freeze ⟨g,0,none⟩ n).output=w.output ∧
  (∀ k,k≠g→(w.freeze ⟨g,0,none⟩ n).heap[k]? = w.heap[k]?)∧∃ (cs':Array Value) (fz':Nat × Nat),(w.freeze ⟨g,0,none⟩ n).heap[g]? = some (.cells cs' T fz')∧cs'.size=cur.size:=by
 unfold World.freeze;rw [if_neg hn];refine ⟨by simp,rfl,rfl,rfl,fun k hk=>?_,?_⟩
 ·dsimp only
  rw [Array.getElem?_modify,if_neg (fun h=>hk h.symm)]
 ·dsimp only
  rw [Array.getElem?_modify,if_pos rfl,hg];exact ⟨cur,_,rfl,rfl⟩
theorem d1x (g gb n:Nat)(l:List UInt8)(h0:l≠[])(p:D)(R:Hp) :
  a0w C0 189 [.optr 1500 g 2 0 0] (⟨206,gb,5,1,a4K l⟩::b0S g p (.osl 206 gb 1 0 l.length)::R) n (fun d H' n'=>d=str ⟨l.toArray⟩∧H'=b0S g p (.osl 206 gb 1 0 l.length)::R∧n'=n):=by
 refine ⟨⟨_,_,Tryz.func189,rfl,by kernel_rfl⟩,fun F ρ w vs m fr hgn hvs hr=>?_⟩;have hz:=hr 0 _ rfl;have h0':l.length≠0:=by simpa using h0
 rw [d2N hvs];generalize hv:vs.getD 0 undef=v at hz;cases hz with
 | optr hρ =>
  rename_i b;obtain ⟨cs,hc,q⟩:=m.at (e:=b0S g p (.osl 206 gb 1 0 l.length)) (by simp) hρ;have hlen:2≤cs.size:=q.len;have hr1:Rep ρ (Own F.X ρ (⟨206,gb,5,1,a4K l⟩::b0S g p (.osl 206 gb 1 0 l.length)::R)) w (.osl 206 gb 1 0 l.length) (cs.getD 1 undef):=q.rep 0 _ 1 (.osl 206 gb 1 0 l.length) rfl rfl;generalize hs1:cs.getD 1 undef=sv at hr1;generalize hL:l.length=L at hr1;cases hr1 with
   | onil=>exact absurd hL h0'
   | osl hρ2 hb2 hc2 hs2 hm2 =>
    rename_i cap gy T' cs2 fz2;obtain ⟨cur,hcur,qy⟩:=m.at (e:=⟨206,gb,5,1,a4K l⟩) (by simp) hρ2;rw [hb2] at hcur;cases hcur;have hcap:cap=cs2.size:=by omega
    subst hcap;have hcell:∀ (j:Nat) (x:UInt8),l[j]? = some x→cs2[j]? = some (.int .u8 x.toNat):=fun j x hx=>by
     have hr:=qy.rep j (.prim (.int .u8 (x.toNat:Int))) 0 (.prim (.int .u8 (x.toNat:Int))) (by unfold a4K;rw [List.getElem?_map,hx];rfl) rfl;have hlt:j<cs2.size:=by
      have:=(List.getElem?_eq_some_iff.1 hx).1
      omega
     generalize hvv:cs2.getD (j*1+0) undef=vv at hr;cases hr;rw [Array.getElem?_eq_getElem hlt]
     have:cs2.getD j undef=cs2[j]:=by simp [Array.getD,hlt]
     rw [Nat.mul_one,Nat.add_zero,this] at hvv;rw [hvv]
    have hb1:cs[1]? = some (.slice (some ⟨gy,0,none⟩) l.length cs2.size):=by
     have hlt:1<cs.size:=by omega
     rw [Array.getElem?_eq_getElem hlt]
     have:cs.getD 1 undef=cs[1]:=by simp [Array.getD,hlt]
     rw [this] at hs1;rw [hs1,hL,Nat.zero_mul]
    refine (d2U b gy cs2 cs l h0 w hc hb1 hb2 (by omega) (by omega) hcell).mono ?_;rintro e w' ⟨rfl,rfl⟩;have md:=m.drew;obtain ⟨f1,f2,f3,f4,f5,cs',fz',f6,f7⟩:=b0W w.drew gy l.length h0' cs2 5 hb2;obtain ⟨m1,x1⟩:=Mem.letGo (H1:=[]) (H2:=b0S g p (.osl 206 gb 1 0 l.length)::R) (w':=w.drew.freeze ⟨gy,0,none⟩ l.length) md hρ2 f1 f2 f3 f4 f5 (fun c hcc=>by
     have hb2':w.drew.heap[gy]? = some (.cells cs2 5 (0,0)):=hb2;have hcc':w.drew.heap[gy]? = some (.cells c 5 (0,0)):=hcc;rw [hb2'] at hcc';cases hcc';exact ⟨cs',fz',f6,f7⟩)
    rw [hL];rw [hL] at m1 x1;exact ⟨_,_,_,n,ρ,rfl,⟨rfl,rfl,rfl⟩,m1,(Ext.drew _ _ _).trans x1,fr,fun e' he'=>hgn e' (by rw [hL];exact List.mem_cons_of_mem _ he'),.prim _⟩
set_option maxRecDepth 20000
set_option maxHeartbeats 4000000
def bH (gb g:Nat)(p:D)(L:List UInt8)(R:Hp):Hp:=a5j 206 gb 5 1 (a4K L)++(b0S g p (a6T 206 gb 1 (a4K L))::R)
theorem b6H (s:List UInt8):a4b (sb s)=a4K s:=rfl
theorem a4a (l:List UInt8):(a4K l).length=l.length:=List.length_map ..
theorem b8q (a b:List UInt8):a4K (a++b)=a4K a++a4K b:=List.map_append
theorem b3L {l:List UInt8}(h:l≠[]):∃ x r,a4K l=x::r:=by
 cases l with
 | nil=>exact absurd rfl h
 | cons a l=>exact ⟨_,_,rfl⟩
theorem d2E (g gb n:Nat)(p:D)(hp:p=.prim (.pointer none)∨p=.optr 1500 g 2 0 0)(L s:List UInt8)(hs:s≠[])(R:Hp)(hlen:L.length+s.length≤100000000) :
  a0w C0 188 [.optr 1500 g 2 0 0,str (sb s)] (bH gb g p L R) n (fun d H' n'=>(∃ g',H'=bH g' g (.optr 1500 g 2 0 0) (L++s) R)∧n≤n'):=by
 refine a0w.walk w1 c1D rfl fun F=>?_
 have hsz:=a0r s;have hb:=b6H s;obtain ⟨x,r,hx⟩:=b3L hs;have hr:s.length=r.length+1:=by rw [← a4a,hx];rfl
 unfold bH;rw [b8q];cases hL:a4K L with
 | nil =>
  dsimp only [a3a,a2V,List.nil_append];refine goI dr0 kB trivial trivial trivial trivial trivial trivial ?_;refine a0l.own _ (d2H g _ a2a p [] R hp) ?_;rintro d H' n' ⟨rfl,rfl,rfl⟩;have hL0:L.length=0:=by rw [← a4a,hL];rfl
  refine goI dr0 (ff2 hsz hb) trivial trivial trivial trivial trivial trivial ?_;refine ⟨?_,by omega⟩;apply Exists.intro;rw [hx,hr];rfl
 | cons y l =>
  dsimp only [a1X,a1W,List.cons_append,List.nil_append];have hL1:L.length=l.length+1:=by rw [← a4a,hL];rfl
  have htk:List.take (l.length+1) (y::l)=y::l:=by simp
  refine goI dr0 kB trivial trivial trivial trivial trivial trivial ?_;refine a0l.own _ (d2H g _ (.osl 206 gb 1 0 (l.length+1)) p [⟨206,gb,5,1,y::l⟩] R hp) ?_;rintro d H' n' ⟨rfl,rfl,rfl⟩;refine goI dr0 (ff3 hsz hb htk) trivial trivial trivial trivial trivial trivial ?_;refine ⟨?_,by omega⟩;apply Exists.intro;have hap:y::l++a4K s=y::(l++a4K s):=rfl;have hl2:(l++a4K s).length+1=l.length+1+s.length:=by rw [List.length_append,a4a];omega
  rw [hl2]
open Go.Sort Go.Shelf
section
open Go.Lib
set_option maxHeartbeats 6400000 in
set_option maxRecDepth 100000 in
theorem d3e (u:Nat) (hu64:u<18446744073709551616) (w:World) (htab:Lib.TabIs Tryz.prog w "internal/strconv.uint64pow10" .u64 Lib.pow10Tab) :
  Calls Tryz.prog 238 #[.int .u64 u,.int .i64 10] w fun e w'=>e=.returned (.string ⟨(Lib.decDigits u).toArray⟩)∧∃ k os,w'=grow (w.drewN k) os:=by
 have e283:∀ args w,(callFunc 259 args).run Tryz.prog w=.ok (.enter 259 args) w:=enters_of Tryz.func259 (by kernel_rfl) rfl;have e284:∀ args w,(callFunc 260 args).run Tryz.prog w=.ok (.enter 260 args) w:=enters_of Tryz.func260 (by kernel_rfl) rfl;have e285:∀ args w,(callFunc 261 args).run Tryz.prog w=.ok (.enter 261 args) w:=enters_of Tryz.func261 (by kernel_rfl) rfl
 by_cases hs:u<100
 ·go_enter Tryz.func238,Tryz.ntmps238
  go_wp2_with (go_at_fn 259;refine (Tryz.internal_strconv_small u hs _).mono ?_;rintro e w' ⟨rfl,rfl⟩)
  go_ret
  exact ⟨rfl,0,#[],by simp [World.drewN_zero]⟩
 ·have hu1:1≤u:=by omega
  have hnd20:Lib.nDigits u≤20:=by have:=Lib.numDigits_eq u hu1 hu64;split at this<;>omega
  have hb3:Lib.nDigits u≤24:=by omega
  have hal:Tryz.prog.arrayLen 327=24:=by kernel_rfl
  have hsl1:∀ W,(Instr.sliceAt 327 (.pointer (some ⟨w.heap.size,0,none⟩)) none (some (.int .i64 (Lib.nDigits u:Int))) none).run Tryz.prog W=.ok (.slice (some ⟨w.heap.size,0,none⟩) (Lib.nDigits u) 24) W:=fun W=>by
   rw [run_sliceAt_array_h W 327 ⟨w.heap.size,0,none⟩ (by kernel_rfl) .i64 (Lib.nDigits u:Int) (by omega) (by rw [hal];omega)]
   go_simp
  have hH0:=Lib.holds_zero0 w 327 (Lib.nDigits u) (by omega);have hfmt:=Tryz.internal_strconv_formatBase10 w.heap.size 0 24 u (Array.replicate (Lib.nDigits u) 0) (w.alloc (.cells Lib.zeros24 327)) hH0 (by rw [Array.size_replicate];exact Lib.lt_pow_nDigits u) hu64 (by rw [Array.size_replicate];omega);rw [Array.size_replicate] at hfmt;have HH0:=Lib.hid hH0;clear hH0 hal
  go_enter Tryz.func238,Tryz.ntmps238
  go_wp2_with (first
   | (go_at_fn 260;refine (Tryz.internal_strconv_numDigits u hu1 hu64 _ (Lib.tabIs_alloc htab _)).mono ?_;rintro e w' ⟨rfl,rfl⟩))
  go_at_fn 261
  refine hfmt.mono ?_;rintro e w' ⟨rfl,k,v',dk,rfl,hF⟩;have hcv:(convert 267 9 (.slice (some ⟨w.heap.size,0,none⟩) (Lib.nDigits u) 24)).run Tryz.prog ((putRow (fun (b:UInt8)=>Value.int .u8 (b.toNat:Int)) (w.alloc (.cells Lib.zeros24 327)) w.heap.size 0 dk).drewN k)=.ok (.string ⟨(Lib.decDigits u).toArray⟩) ((putRow (fun (b:UInt8)=>Value.int .u8 (b.toNat:Int)) (w.alloc (.cells Lib.zeros24 327)) w.heap.size 0 dk).drewN k):=by
   have h:=run_convert_bytes_back (P:=Tryz.prog) ((putRow (fun (b:UInt8)=>Value.int .u8 (b.toNat:Int)) (w.alloc (.cells Lib.zeros24 327)) w.heap.size 0 dk).drewN k) 267 9 5 ⟨w.heap.size,0,none⟩ 24 (Lib.decDigits u) (by kernel_rfl) (by kernel_rfl) (by kernel_rfl) (fun j hj=>by
    rw [Lib.row_is_numeral hF j hj,Lib.add_plain,World.cell?_drewN];exact cell?_putRow (fun (b:UInt8)=>Value.int .u8 (b.toNat:Int)) _ w.heap.size 0 _ dk HH0.out (by rw [hF.size,Array.size_replicate]) j (by rw [hF.size];rw [Lib.decDigits_length] at hj;exact hj))
   rw [Lib.decDigits_length] at h;exact h
  go_wp2
  go_ret
  obtain ⟨os,eo⟩:=Lib.fin_at w (.cells Lib.zeros24 327) dk k 0;exact ⟨rfl,k,os,eo⟩
end
theorem b4E {O:Nat→Prop}{w:World}{v u:Value}{vs:Array Value}(hn:vs.size=2)(h:∀ (i:Nat) (x:D),[D.prim v,.prim u][i]? = some x→Rep nol O w x (vs.getD i undef)):vs = #[v,u]:=by
 match vs,hn with
 | ⟨[a,b]⟩,_ =>
  have h0:=h 0 _ rfl;have h1:=h 1 _ rfl;simp at h0 h1;cases h0;cases h1;rfl
theorem c3L (u:Nat)(hu:u<18446744073709551616):a0b C0 238 [.prim (.int .u64 (u:Int)),i64 10] (str ⟨(Lib.decDigits u).toArray⟩):=by
 refine ⟨⟨_,_,Tryz.func238,rfl,by kernel_rfl⟩,fun Y w vs hG hnG hX hvs hr=>?_⟩
 have:=b4E hvs hr
 subst this;refine (d3e u hu w hG).mono ?_;rintro e w' ⟨rfl,k,os,rfl⟩;exact ⟨_,_,rfl,Lib.below_grow _ _ (Nat.le_refl _) _ _,rfl,.prim _⟩
theorem c8G (u:Nat)(hu:u<18446744073709551616):a0b C0 186 [.prim (.int .u64 (u:Int)),i64 10] (str ⟨(Lib.decDigits u).toArray⟩):=by
 refine a0c.walk w1 c2x rfl fun F=>?_
 refine goI dr0 kB (c3L u hu) trivial trivial trivial trivial trivial ?_;exact a0a rfl IsPure.out
theorem rp0:a0b C0 187 [str ⟨#[48]⟩,i64 0] (str ⟨#[]⟩):=a0b.ev a3P 400 20 (by kernel_rfl)
theorem rp1:a0b C0 187 [str ⟨#[48]⟩,i64 1] (str ⟨#[48]⟩):=a0b.ev a3P 400 20 (by kernel_rfl)
theorem rp2:a0b C0 187 [str ⟨#[48]⟩,i64 2] (str ⟨#[48,48]⟩):=a0b.ev a3P 400 20 (by kernel_rfl)
theorem rp3:a0b C0 187 [str ⟨#[48]⟩,i64 3] (str ⟨#[48,48,48]⟩):=a0b.ev a3P 400 20 (by kernel_rfl)
theorem rp4:a0b C0 187 [str ⟨#[48]⟩,i64 4] (str ⟨#[48,48,48,48]⟩):=a0b.ev a3P 400 20 (by kernel_rfl)
theorem rp5:a0b C0 187 [str ⟨#[48]⟩,i64 5] (str ⟨#[48,48,48,48,48]⟩):=a0b.ev a3P 400 20 (by kernel_rfl)
theorem rp6:a0b C0 187 [str ⟨#[48]⟩,i64 6] (str ⟨#[48,48,48,48,48,48]⟩):=a0b.ev a3P 400 20 (by kernel_rfl)
theorem rp7:a0b C0 187 [str ⟨#[48]⟩,i64 7] (str ⟨#[48,48,48,48,48,48,48]⟩):=a0b.ev a3P 400 20 (by kernel_rfl)
theorem rp8:a0b C0 187 [str ⟨#[48]⟩,i64 8] (str ⟨#[48,48,48,48,48,48,48,48]⟩):=a0b.ev a3P 400 20 (by kernel_rfl)
theorem rp9:a0b C0 187 [str ⟨#[48]⟩,i64 9] (str ⟨#[48,48,48,48,48,48,48,48,48]⟩):=a0b.ev a3P 400 20 (by kernel_rfl)
theorem d2S:a0b C0 187 [str ⟨#[48]⟩,i64 10] (str ⟨#[48,48,48,48,48,48,48,48,48,48]⟩):=a0b.ev a3P 400 20 (by kernel_rfl)
theorem d3b:a0b C0 187 [str ⟨#[48]⟩,i64 11] (str ⟨#[48,48,48,48,48,48,48,48,48,48,48]⟩):=a0b.ev a3P 400 20 (by kernel_rfl)
theorem d4c:a0b C0 187 [str ⟨#[48]⟩,i64 12] (str ⟨#[48,48,48,48,48,48,48,48,48,48,48,48]⟩):=a0b.ev a3P 400 20 (by kernel_rfl)
theorem d2R:a0b C0 187 [str ⟨#[48]⟩,i64 13] (str ⟨#[48,48,48,48,48,48,48,48,48,48,48,48,48]⟩):=a0b.ev a3P 400 20 (by kernel_rfl)
theorem d3O:a0b C0 187 [str ⟨#[48]⟩,i64 14] (str ⟨#[48,48,48,48,48,48,48,48,48,48,48,48,48,48]⟩):=a0b.ev a3P 400 20 (by kernel_rfl)
theorem d3k:a0b C0 187 [str ⟨#[48]⟩,i64 15] (str ⟨#[48,48,48,48,48,48,48,48,48,48,48,48,48,48,48]⟩):=a0b.ev a3P 400 20 (by kernel_rfl)
theorem d4b:a0b C0 187 [str ⟨#[48]⟩,i64 16] (str ⟨#[48,48,48,48,48,48,48,48,48,48,48,48,48,48,48,48]⟩):=a0b.ev a3P 400 20 (by kernel_rfl)
theorem d3B:a0b C0 187 [str ⟨#[48]⟩,i64 17] (str ⟨#[48,48,48,48,48,48,48,48,48,48,48,48,48,48,48,48,48]⟩):=a0b.ev a3P 400 20 (by kernel_rfl)
theorem c4t (n:Nat)(h:n≤17):a0b C0 187 [str ⟨#[48]⟩,i64 (n:Int)] (str ⟨(List.replicate n 48).toArray⟩):=by
 match n,h with
 | 0,_=>exact rp0
 | 1,_=>exact rp1
 | 2,_=>exact rp2
 | 3,_=>exact rp3
 | 4,_=>exact rp4
 | 5,_=>exact rp5
 | 6,_=>exact rp6
 | 7,_=>exact rp7
 | 8,_=>exact rp8
 | 9,_=>exact rp9
 | 10,_=>exact d2S
 | 11,_=>exact d3b
 | 12,_=>exact d4c
 | 13,_=>exact d2R
 | 14,_=>exact d3O
 | 15,_=>exact d3k
 | 16,_=>exact d4b
 | 17,_=>exact d3B
 | n+18,h=>omega
set_option maxHeartbeats 8000000
def a4N (q r:Nat):List UInt8:=if q=0 then Lib.decDigits r else List.replicate (18 - (Lib.decDigits r).length) 48++Lib.decDigits r
theorem b3v:Lib.decDigits 0=[48]:=by unfold Lib.decDigits;rfl
theorem b1B (n:Nat):Lib.decDigits n≠[]:=(a1k n).2.2
theorem c0R (q r:Nat):a4N q r≠[]:=by
 unfold a4N;split
 ·exact b1B r
 ·intro h;exact b1B r (List.append_eq_nil_iff.1 h).2
theorem b7Y {q r:Nat}(hq:q≠0):a4N q r=a1T 18 r []:=by
 unfold a4N a1T c3M;rw [if_neg hq]
 by_cases h:r=0
 ·subst h;rw [b3v,if_pos rfl];rfl
 ·rw [if_neg h,List.append_nil]
theorem b9A (B q r:Nat)(hB:B=10^18)(hr:r<B):Lib.decDigits (q*B+r)=if q=0 then a4N q r else Lib.decDigits q++a4N q r:=by
 by_cases hq:q=0
 ·subst hq;rw [if_pos rfl];unfold a4N;rw [if_pos rfl,Nat.zero_mul,Nat.zero_add]
 ·rw [if_neg hq,b7Y hq,hB]
  exact b2D 18 q r hq (by rw [← hB];exact hr)
def a2R (P:List (List UInt8)):List UInt8:=P.reverse.flatten
theorem a9a (P:List (List UInt8))(p:List UInt8):a2R (P++[p])=p++a2R P:=by unfold a2R;simp
theorem b5G (a b:List UInt8):sb a++sb b=sb (a++b):=by
 apply ByteArray.ext;simp [ByteArray.data_append]
theorem b8d {P:List (List UInt8)}(h:∀ p∈P,p≠[]):P.length≤(a2R P).length:=by
 unfold a2R;rw [List.length_flatten,← List.length_reverse];generalize hQ:P.reverse=Q;have h':∀ p∈Q,p≠[]:=fun p hp=>h p (by rw [← hQ] at hp;exact List.mem_reverse.1 hp)
 clear hQ h
 induction Q with
 | nil=>exact Nat.le_refl _
 | cons a r ih =>
  have h1:=ih fun p hp=>h' p (List.mem_cons_of_mem _ hp)
  have h2:a.length≠0:=fun q=>h' a List.mem_cons_self (List.eq_nil_of_length_eq_zero q)
  rw [List.map_cons,List.sum_cons,List.length_cons];omega
structure a9e (n m:Nat)(P:List (List UInt8)):Prop where
 ne:m≠0→Lib.decDigits n=Lib.decDigits m++a2R P
 eq:m=0→Lib.decDigits n=a2R P
 all:∀ p∈P,p≠[]
 le:m≤n
theorem a9e.len {n m:Nat}{P:List (List UInt8)}(h:a9e n m P):P.length≤(Lib.decDigits n).length:=by
 have h1:=b8d h.all
 by_cases q:m=0
 ·rw [h.eq q];exact h1
 ·rw [h.ne q,List.length_append];omega
theorem a9e.step {n m:Nat}{P:List (List UInt8)}{B:Nat}(h:a9e n m P)(hm:m≠0)(hB:B=10^18):a9e n (m / B) (P++[a4N (m / B) (m%B)]):=by
 have hB0:0<B:=by rw [hB];decide
 have hd:=b9A B (m / B) (m%B) hB (Nat.mod_lt _ hB0);rw [show m / B*B+m%B=m by rw [Nat.mul_comm];exact Nat.div_add_mod m B] at hd;have hn:=h.ne hm;rw [hd] at hn;refine ⟨fun q=>?_,fun q=>?_,fun p hp=>?_,Nat.le_trans (Nat.div_le_self _ _) h.le⟩
 ·rw [if_neg q] at hn;rw [hn,a9a,List.append_assoc]
 ·rw [if_pos q] at hn;rw [hn,a9a]
 ·rcases List.mem_append.1 hp with hp|hp
  ·exact h.all p hp
  ·rw [List.mem_singleton] at hp;subst hp;exact c0R _ _
abbrev a2b (P:List (List UInt8)):List D:=P.map fun p=>str (sb p)
theorem a9G (x : GI) (h : x.wf) (hf : x.few) : a0b C0 115 [x.D] (str (sb (Lib.itoa x.z))) := by
  refine a0c.walk w1 c2U rfl fun F => ?_
  obtain ⟨z, sm⟩ := x
  obtain ⟨h1, h2⟩ := h
  have hp := a2G ⟨z, sm⟩ ⟨h1, h2⟩
  dsimp only [GI.D, GI.few] at *
  cases sm with
  | true =>
    obtain ⟨h3, h4⟩ := h1 rfl
    have c : a0b C0 183 [i64 z] (str (sb (Lib.itoa z))) := b2I z h3 (by omega)
    unfold GI.s GI.w
    dsimp only
    refine goI dr0 kB c trivial trivial trivial trivial trivial ?_
    exact a0a rfl IsPure.out
  | false =>
    have hz := h2 rfl
    have hz0 : z.natAbs ≠ 0 := fun q => hz (by have : z = 0 := by omega
                                               subst this; exact a0C rfl)
    have hw : GI.w ⟨z, false⟩ = wD z.natAbs := rfl
    have hs : GI.s ⟨z, false⟩ = if z < 0 then -1 else 1 := rfl
    rw [hw] at hp ⊢
    obtain ⟨sg, hsg⟩ : ∃ s, GI.s ⟨z, false⟩ = s := ⟨_, rfl⟩
    rw [hsg] at hp ⊢
    obtain ⟨B, hB⟩ : ∃ B : Nat, B = 10 ^ 18 := ⟨_, rfl⟩
    have hB1 : B < BB := by rw [hB]; decide
    have hB0 : B ≠ 0 := by rw [hB]; decide
    have hB2 : 1 < B := by rw [hB]; decide
    have hBs : u64 1000000000000000000 = a0h B := by rw [hB]; rfl
    have hBl : a0e B = [B] := a3n hB0 hB1
    obtain ⟨n, hn⟩ : ∃ n, z.natAbs = n := ⟨_, rfl⟩
    obtain ⟨neg, hneg⟩ : ∃ b, decide (z < 0) = b := ⟨_, rfl⟩
    rw [hn] at hp hf hz0 ⊢
    rw [hneg] at hp
    have hit : Lib.itoa z = (if neg then [45] else []) ++ Lib.decDigits n := by
      unfold Lib.itoa
      by_cases q : z < 0
      · rw [if_pos q, ← hneg, decide_eq_true q, hn]; rfl
      · rw [if_neg q, ← hneg, decide_eq_false q, ← hn]
        have : z.toNat = z.natAbs := by omega
        rw [this]; rfl
    rw [hit]
    have hDL : (Lib.decDigits n).length ≤ 27 * 1000000 + 1 := a9v (k := 1000000) (by omega)
    have hmpos : ∀ m : Nat, m ≠ 0 → decide ((((a0e m).map a0h).length : Int) > 0) = true := fun m hm => decide_eq_true (by
      rw [a1a hm, List.map_cons, List.length_cons]; omega)
    have hm0 : decide ((((a0e 0).map a0h).length : Int) > 0) = false := decide_eq_false (by rw [a0L]; decide)
    obtain ⟨w0, ws, hws⟩ : ∃ a l, (a0e n).map a0h = a :: l := by
      cases hl : (a0e n).map a0h with
      | nil => exact absurd hl (a1K hz0)
      | cons a l => exact ⟨a, l, rfl⟩
    have hwD : wD n = .sl false 1 (w0 :: ws) := by unfold wD wL; rw [hws]
    have hbD : wD B = .sl false 1 [u64 1000000000000000000] := by unfold wD wL; rw [hBl, hBs]; rfl
    have pw : IsPure (.sl false 1 (w0 :: ws)) := by rw [← hwD]; exact inferInstance
    rw [hwD] at hp ⊢
    clear hit h1 h2 hz hs hsg
    have hne : (w0 :: ws ≠ []) = True := eq_true (List.cons_ne_nil _ _)
    refine goI dr0 hne hp trivial trivial trivial trivial trivial ?_
    rw [← hwD]
    refine OkS.loop (α := Nat × List (List UInt8) × Nat × Nat) (fun p => ⟨[(3, boo neg), (4, wD p.1), (5, wD B), (6, a6T 1303 p.2.2.1 1 (a2b p.2.1))], a5j 1303 p.2.2.1 9 1 (a2b p.2.1), p.2.2.2⟩) (fun p => p.1)
      (fun p => a9e n p.1 p.2.1) (n, [], 0, _) ⟨fun _ => by unfold a2R; simp, fun q => absurd q hz0, fun p hp => absurd hp List.not_mem_nil, Nat.le_refl _⟩ (by refine ⟨.drop .nil, ⟨.refl _, .refl _, ?_, .refl _, trivial⟩, Nat.le_refl _⟩; dsimp only; rw [hbD]; exact .nn true 1 _) ?_
    rintro ⟨m, P, g, cnt⟩ F I
    dsimp only at I ⊢
    have hPl := I.len
    rcases Nat.decEq m 0 with hm | hm
    rotate_left
    · subst hm
      have hdn := I.eq rfl
      have hall := I.all
      have hLn : P.length ≤ 27000001 := by omega
      have hP0 : P ≠ [] := fun q => b1B n (by rw [hdn, q]; rfl)
      obtain ⟨N, hN⟩ : ∃ N, P.length = N := ⟨_, rfl⟩
      have hN0 : N ≠ 0 := fun q => hP0 (List.eq_nil_of_length_eq_zero (by omega))
      rw [hdn]
      clear hwD hbD pw hp hn hPl I
      have elP : (((a2b P).length : Nat) : Int) = (N : Int) := by rw [List.length_map, hN]
      have wN : IntKind.i64.wrap ((N : Int) - 1) = ((N : Int) - 1) := wI (by omega) (by omega)
      refine OkS.seq ?_
      refine sZ 600 ?_
      refine nwI hm0 ?_
      refine ifI ?_
      refine exI ?_
      refine OkS.weak ⟨[(3, boo neg), (6, .sl false 1 (a2b P))], [], _⟩ ⟨?_, ⟨.refl _, ?_, trivial⟩, Nat.le_refl _⟩ ?_
      · have := c3V (K := 1303) (g := g) (T := 9) (sz := 1) (l := a2b P) (r := []) (r' := []) (H := a5j 1303 g 9 1 (a2b P)) (Hf := []) .nil
        rwa [List.append_nil] at this
      · exact b5Z _ _ _ _ _
      obtain ⟨c0, hc0⟩ : ∃ c, c = cnt + 1 + 1 + 1 := ⟨_, rfl⟩
      rw [← hc0]
      refine sR 1500 ?_
      obtain ⟨c1, hc1⟩ : ∃ c, c = c0 + 1 := ⟨_, rfl⟩
      refine OkS.seqX (α := D × Nat × Nat) (fun q => ⟨[(6, .sl false 1 (a2b P)), (10, .optr 1500 c0 2 0 0)], bH q.2.1 c0 q.1 (if neg then [45] else []) [], q.2.2⟩) (fun q => q.1 = .prim (.pointer none) ∨ q.1 = .optr 1500 c0 2 0 0) ?_ ?_
      · cases neg
        · refine goI dr0 kB trivial trivial trivial trivial trivial trivial ?_
          exact ⟨by trivial, (.prim (.pointer none), 0, _), .inl rfl, wkI⟩
        · refine goI dr0 kB trivial trivial trivial trivial trivial trivial ?_
          refine a0l.own _ (d2E c0 0 _ (.prim (.pointer none)) (.inl rfl) [] [45] (by decide) [] (by decide)) ?_
          rintro d H' n' ⟨⟨g', rfl⟩, hn'⟩
          refine stI ?_
          exact ⟨by trivial, (.optr 1500 c0 2 0 0, g', _), .inr rfl, wkI⟩
      rintro ⟨p0, gb0, c2⟩ hp0
      dsimp only at hp0 ⊢
      obtain ⟨pre, hpre⟩ : ∃ l, (if neg then [45] else [] : List UInt8) = l := ⟨_, rfl⟩
      have hpl : pre.length ≤ 1 := by rw [← hpre]; split <;> decide
      rw [hpre]
      refine goI dr0 (ff2 elP @wN) trivial trivial trivial trivial trivial trivial ?_
      refine OkS.loop (α := Nat × D × Nat × Nat) (fun q => ⟨[(6, .sl false 1 (a2b P)), (10, .optr 1500 c0 2 0 0), (11, i64 ((q.1 : Int) - 1))], bH q.2.2.1 c0 q.2.1 (pre ++ a2R (P.drop q.1)) [], q.2.2.2⟩) (fun q => q.1)
        (fun q => q.1 ≤ N ∧ (q.2.1 = .prim (.pointer none) ∨ q.2.1 = .optr 1500 c0 2 0 0)) (N, p0, gb0, _) ⟨Nat.le_refl _, hp0⟩ (by dsimp only; rw [← hN, List.drop_length]; unfold a2R; rw [List.reverse_nil, List.flatten_nil, List.append_nil]; exact wkI) ?_
      rintro ⟨k, p, gb, c3⟩ F ⟨hk, hp⟩
      dsimp only at hk hp ⊢
      have hjl : ∀ k, (a2R (P.drop k)).length ≤ (a2R P).length := fun k => by
        unfold a2R
        conv => rhs; rw [← List.take_append_drop k P]
        rw [List.reverse_append, List.flatten_append, List.length_append]; omega
      have hjP : (a2R P).length ≤ 27000001 := by rw [← hdn]; omega
      rcases Nat.eq_zero_or_pos k with hk0 | hk0
      · subst hk0
        have e1 : decide ((((0 : Nat) : Int) - 1) ≥ 0) = false := by decide
        rw [List.drop_zero]
        have hL : pre ++ a2R P ≠ [] := fun q => by
          have := (List.append_eq_nil_iff.1 q).2
          rw [← hdn] at this; exact b1B n this
        obtain ⟨L, hLL⟩ : ∃ L, pre ++ a2R P = L := ⟨_, rfl⟩
        rw [hLL] at hL ⊢
        obtain ⟨y, r, hy⟩ := b3L hL
        have hlr : L.length = r.length + 1 := by rw [← a4a, hy]; rfl
        refine goI dr0 e1 trivial trivial trivial trivial trivial trivial ?_
        refine a0l.own _ (by
          have := fun n => d1x c0 gb n L hL p []
          unfold bH
          simp only [hy, hlr] at this ⊢
          exact this _) ?_
        rintro d H' n' ⟨rfl, rfl, rfl⟩
        refine goI dr0 kB trivial trivial trivial trivial trivial trivial ?_
        exact a0a rfl IsPure.out
      · obtain ⟨k', rfl⟩ : ∃ k', k = k' + 1 := ⟨k - 1, by omega⟩
        have e1 : decide ((((k' + 1 : Nat) : Int) - 1) ≥ 0) = true := decide_eq_true (by omega)
        have e2 : (((k' + 1 : Nat) : Int) - 1) = (k' : Int) := by omega
        have wk : IntKind.i64.wrap ((k' : Int) - 1) = ((k' : Int) - 1) := wI (by omega) (by omega)
        have e3 : decide ((k' : Int) ≥ 0) = true := decide_eq_true (by omega)
        obtain ⟨t, ht⟩ : ∃ t, P[k']? = some t := a0H (by omega)
        have hm : (a2b P)[k']? = some (str (sb t)) := by rw [List.getElem?_map, ht]; rfl
        have htn := hall t (List.mem_of_getElem? ht)
        have hdr : P.drop k' = t :: P.drop (k' + 1) := by
          rw [List.drop_eq_getElem_cons (List.getElem?_eq_some_iff.1 ht).1, (List.getElem?_eq_some_iff.1 ht).2]
        have hj : pre ++ a2R (P.drop k') = pre ++ a2R (P.drop (k' + 1)) ++ t := by
          rw [hdr, List.append_assoc]
          congr 1
          unfold a2R
          rw [List.reverse_cons, List.flatten_append]; simp
        have hlt : (pre ++ a2R (P.drop (k' + 1))).length + t.length ≤ 100000000 := by
          have h1 := hjl k'
          have h2 : (pre ++ a2R (P.drop k')).length = (pre ++ a2R (P.drop (k' + 1))).length + t.length := by rw [hj, List.length_append]
          rw [← h2, List.length_append]; omega
        rw [e2]
        refine goI dr0 (ff2 e3 kN) hm trivial trivial trivial trivial trivial ?_
        refine a0l.own _ (d2E c0 gb _ p hp (pre ++ a2R (P.drop (k' + 1))) t htn [] hlt) ?_
        rintro d H' n' ⟨⟨g', rfl⟩, hn'⟩
        refine stI ?_
        refine goI dr0 wk trivial trivial trivial trivial trivial trivial ?_
        exact ⟨(k', .optr 1500 c0 2 0 0, g', _), ⟨by dsimp only; omega, .inr rfl⟩, by dsimp only; omega, by (dsimp only; rw [hj]; exact wkI)⟩
    have e1 := hmpos m hm
    have c1 := d2G m B hB0 (Nat.lt_of_le_of_lt (a0A m n I.le) hf) (by rw [hBl]; show 1 < 1000000; decide)
    have I2 := I.step hm hB
    obtain ⟨q, hq⟩ : ∃ q, m / B = q := ⟨_, rfl⟩
    obtain ⟨r, hr⟩ : ∃ q, m % B = q := ⟨_, rfl⟩
    have hqm : q < m := by rw [← hq]; exact Nat.div_lt_self (Nat.pos_of_ne_zero hm) hB2
    have hrB : r < B := by rw [← hr]; exact Nat.mod_lt _ (Nat.pos_of_ne_zero hB0)
    rw [hq, hr] at c1 I2
    have hsz := a0r (Lib.decDigits r)
    have hdl : (Lib.decDigits r).length ≤ 18 := a1q 17 r (by rw [hB] at hrB; exact hrB)
    have hdl1 : (Lib.decDigits r).length ≠ 0 := fun h => b1B r (List.eq_nil_of_length_eq_zero h)
    refine goI dr0 e1 trivial trivial trivial trivial trivial trivial ?_
    refine cI c1 ?_
    refine sR 800 ?_
    refine OkS.seqX (α := Nat) (fun cnt => ⟨[(3, boo neg), (5, wD B), (6, a6T 1303 g 1 (a2b P)), (7, wD q), (9, str (sb (Lib.decDigits r)))], a5j 1303 g 9 1 (a2b P), cnt⟩) (fun _ => True) ?_ ?_
    · rcases Nat.decEq r 0 with h0 | h0
      · have e2 := hmpos r h0
        have hl1 : a0e r = [r] := a3n h0 (Nat.lt_trans hrB hB1)
        have hmm : ((a0e r).map a0h)[0]? = some (u64 (r : Int)) := by rw [hl1]; rfl
        have c2 := c8G r (Nat.lt_trans hrB hB1)
        refine goI dr0 e2 hmm c2 trivial trivial trivial trivial ?_
        exact ⟨by trivial, _, trivial, wkI⟩
      · subst h0
        rw [b3v]
        refine goI dr0 hm0 trivial trivial trivial trivial trivial trivial ?_
        exact ⟨by trivial, _, trivial, wkI⟩
    rintro cnt2 -
    refine OkS.seqX (α := Nat) (fun cnt => ⟨[(3, boo neg), (5, wD B), (6, a6T 1303 g 1 (a2b P)), (7, wD q), (9, str (sb (a4N q r)))], a5j 1303 g 9 1 (a2b P), cnt⟩) (fun _ => True) ?_ ?_
    · rcases Nat.decEq q 0 with h0 | h0
      · have e2 := hmpos q h0
        have c2 : a0b C0 187 [str ⟨#[48]⟩, i64 ((18 - (Lib.decDigits r).length : Nat) : Int)] (str (sb (List.replicate (18 - (Lib.decDigits r).length) 48))) := c4t (18 - (Lib.decDigits r).length) (by omega)
        have w18 : IntKind.i64.wrap (18 - ((Lib.decDigits r).length : Int)) = ((18 - (Lib.decDigits r).length : Nat) : Int) := by rw [wI (by omega) (by omega)]; omega
        have hap := b5G (List.replicate (18 - (Lib.decDigits r).length) 48) (Lib.decDigits r)
        have hsz2 := a0r (List.replicate (18 - (Lib.decDigits r).length) 48)
        have hpt : List.replicate (18 - (Lib.decDigits r).length) 48 ++ Lib.decDigits r = a4N q r := by unfold a4N; rw [if_neg h0]
        rw [hpt] at hap
        have hsize : (sb (List.replicate (18 - (Lib.decDigits r).length) 48)).size + (sb (Lib.decDigits r)).size ≤ 9223372036854775807 := by
          rw [hsz, hsz2, List.length_replicate]; omega
        refine goI dr0 (ff4 e2 hsz w18 hap) c2 trivial trivial trivial trivial trivial ?_
        exact ⟨by trivial, _, trivial, wkI⟩
      · subst h0
        have hpt : a4N 0 r = Lib.decDigits r := if_pos rfl
        rw [hpt]
        refine goI dr0 hm0 trivial trivial trivial trivial trivial trivial ?_
        exact ⟨by trivial, _, trivial, wkI⟩
    rintro cnt3 -
    have hsn : a2b (P ++ [a4N q r]) = a2b P ++ [str (sb (a4N q r))] := by unfold a2b; rw [List.map_append]; rfl
    have hPL : (a2b P).length = P.length := List.length_map ..
    rcases hPD : a2b P with _ | ⟨y, l⟩
    all_goals
      rw [hPD] at hsn hPL
      dsimp only [a3a, a2V, a1X, a1W, List.nil_append]
    · refine goI dr0 kB trivial trivial trivial trivial trivial trivial ?_
      exact ⟨(q, P ++ [a4N q r], _, _), I2, hqm, by (dsimp only; rw [hsn]; exact wkI)⟩
    · have htk : List.take (l.length + 1) (y :: l) = y :: l := by simp
      have hll : l.length + 1 ≤ 27000001 := by rw [List.length_cons] at hPL; omega
      refine goI dr0 htk trivial trivial trivial trivial trivial trivial ?_
      exact ⟨(q, P ++ [a4N q r], _, _), I2, hqm, by (dsimp only; rw [hsn, a2u]; exact wkI)⟩
abbrev b6F:Dr:=[(3,[0,1,2,3,4,5,6],[7,8])]
open Go.Proofs Go.RowKit
set_option maxRecDepth 20000
set_option maxHeartbeats 4000000
theorem b9C (x:Nat)(hx:x<BB):a0b C0 258 [a0h x] (i64 (Lib.bitLen x:Int)):=by
 refine ⟨⟨_,_,Tryz.func258,rfl,by kernel_rfl⟩,fun Y w vs hG hnG hX hvs hr=>?_⟩
 have:=a6R hvs hr
 subst this;refine (Tryz.bits_Len64 x w (by omega) (by unfold BB at hx;omega)).mono ?_;rintro e w' ⟨rfl,rfl⟩;exact ⟨_,_,rfl,.refl _ _,rfl,.prim _⟩
def b0f (n:Nat):Nat:=(a0e n).getD ((a0e n).length - 1) 0
def a7K (n:Nat):Nat:=if n=0 then 0 else 64*((a0e n).length - 1)+Lib.bitLen (b0f n)
theorem c4h (n:Nat):n<2^a7K n:=by
 unfold a7K
 by_cases h:n=0
 ·subst h;rw [if_pos rfl];decide
 ·rw [if_neg h]
  have hl:(a0e n).length≠0:=fun q=>by
   have:=a1a h
   rw [this] at q;simp at q
  obtain ⟨k,hk⟩:∃ k,(a0e n).length=k+1:=⟨(a0e n).length - 1,by omega⟩
  have hat:(a0e n)[k]? = some (b0f n):=by
   unfold b0f;rw [hk,Nat.add_sub_cancel,List.getD_eq_getElem?_getD,List.getElem?_eq_getElem (by omega)];rfl
  have hv:=a4l hat;rw [List.drop_of_length_le (by omega),a0J] at hv;have ht:b0f n<BB:=a1d n _ (List.mem_of_getElem? hat);have h1:a0i ((a0e n).take k)<BB^k:=by
   have:=a2B (l:=(a0e n).take k) fun a ha=>a1d n a (List.mem_of_mem_take ha)
   rwa [List.length_take,Nat.min_eq_left (by omega)] at this
  have h2:b0f n<2^Lib.bitLen (b0f n):=by
   by_cases t0:b0f n=0
   ·rw [t0];exact Nat.two_pow_pos _
   ·exact (Lib.bitLenAux_bounds 64 (b0f n) ht t0).2.2
  have h3:BB^k=2^(64*k):=by rw [Nat.pow_mul]
  rw [hk,Nat.add_sub_cancel,Nat.pow_add,← h3];have h4:n=a0i ((a0e n).take k)+BB^k*b0f n:=by simpa [a0i] using hv
  have h5:BB^k*(b0f n+1)≤BB^k*2^Lib.bitLen (b0f n):=Nat.mul_le_mul_left _ h2;rw [Nat.mul_add,Nat.mul_one] at h5;omega
def a9Y (n:Nat):Bool:=decide (600<(Lib.decDigits n).length)
theorem b8A (n:Nat):a9Y n=(decide (a7K n>1800)&&a9Y n):=by
 by_cases h:a7K n>1800
 ·rw [decide_eq_true h,Bool.true_and]
 ·rw [decide_eq_false h,Bool.false_and]
  have key:∀ k,a7K n≤3*(k+1)→(Lib.decDigits n).length≤k+1:=fun k hk=>a1q k n (Nat.lt_of_lt_of_le (c4h n) (Nat.le_trans (Nat.pow_le_pow_right (by decide) hk) (by rw [Nat.pow_mul];exact Nat.pow_le_pow_left (by decide) (k+1))))
  have h4:=key 599 (by omega);exact decide_eq_false (by omega)
theorem c6P (x:GI)(h:x.wf)(hf:x.few):a0b C0 253 [x.D] (i64 (a7K x.z.natAbs:Nat)):=by
 refine a0c.walk w1 c1l rfl fun F=>?_
 have c1:=a2G x h;obtain ⟨n,hn⟩:∃ n,x.z.natAbs=n:=⟨_,rfl⟩
 unfold GI.few at hf;rw [hn] at c1 hf ⊢;have el:((((a0e n).map a0h).length:Nat):Int)=((a0e n).length:Int):=by rw [List.length_map]
 unfold wD wL at c1;dsimp only [GI.D] at c1 ⊢
 by_cases h0:n=0
 ·have e1:(((a0e n).length:Int)==0)=true:=by rw [h0,a0L];rfl
  have hb:a7K n=0:=if_pos h0;rw [hb];refine goI dr0 (ff2 e1 el) c1 trivial trivial trivial trivial trivial ?_;exact a0a rfl IsPure.out
 ·have hl:(a0e n).length≠0:=fun q=>by
   have:=a1a h0
   rw [this] at q;simp at q
  have e1:(((a0e n).length:Int)==0)=false:=d3R hl;have wl:IntKind.i64.wrap (((a0e n).length:Int) - 1)=(((a0e n).length - 1:Nat):Int):=by rw [wI (by omega) (by omega)];omega
  have wm:IntKind.i64.wrap (64*(((a0e n).length - 1:Nat):Int))=((64*((a0e n).length - 1):Nat):Int):=by rw [wI (by omega) (by omega)];omega
  have hat:(a0e n)[(a0e n).length - 1]? = some (b0f n):=by
   unfold b0f;rw [List.getD_eq_getElem?_getD,List.getElem?_eq_getElem (by omega)];rfl
  have hm:((a0e n).map a0h)[(a0e n).length - 1]? = some (u64 (b0f n:Int)):=by rw [List.getElem?_map,hat];rfl
  have ht:b0f n<BB:=a1d n _ (List.mem_of_getElem? hat);have c2:=b9C (b0f n) ht;have hbl:=Lib.bitLen_le (b0f n) 64 (Nat.le_refl _) ht;have wa:IntKind.i64.wrap (((64*((a0e n).length - 1):Nat):Int)+(Lib.bitLen (b0f n):Int))=((a7K n:Nat):Int):=by
   have hb:a7K n=64*((a0e n).length - 1)+Lib.bitLen (b0f n):=if_neg h0;rw [hb,wI (by omega) (by omega)];omega
  refine goI dr0 (ff6 e1 el wl wm wa kN) c1 hm c2 trivial trivial trivial ?_;exact a0a rfl IsPure.out
theorem c2K (x:GI)(h:x.wf)(hf:x.few):a0b C0 216 [x.D] (boo (a9Y x.z.natAbs)):=by
 refine a0c.walk w1 c2a rfl fun F=>?_
 have c1:=c6P x h hf;have c2:=a9G x h hf;have hlen:(Lib.decDigits x.z.natAbs).length≤27*1000000+1:=a9v (k:=1000000) (by unfold GI.few at hf;omega);have hil:(Lib.itoa x.z).length≤27000002:=by
  unfold Lib.itoa;split
  ·rw [List.length_cons];omega
  ·rw [show x.z.toNat=x.z.natAbs by omega];omega
 have c3:=a3A (Lib.itoa x.z) (by omega);rw [(a4u x.z).2] at c3;have hsz:=a0r (Lib.decDigits x.z.natAbs);have hlb:=b8A x.z.natAbs;obtain ⟨b,hb⟩:∃ b,a9Y x.z.natAbs=b:=⟨_,rfl⟩
 have e2:decide (((Lib.decDigits x.z.natAbs).length:Int)>600)=b:=by rw [← hb];exact decide_eq_decide.2 (by omega)
 obtain ⟨p,hp⟩:∃ b,decide (a7K x.z.natAbs>1800)=b:=⟨_,rfl⟩
 have e1:decide (((a7K x.z.natAbs:Nat):Int)>1800)=p:=by rw [← hp];exact decide_eq_decide.2 (by omega)
 rw [hb,hp] at hlb;rw [hb,hlb];dsimp only [GI.D] at c1 c2 ⊢;cases p
 ·refine goI dr0 e1 c1 trivial trivial trivial trivial trivial ?_
  exact a0a rfl IsPure.out
 ·refine goI dr0 (ff3 e1 e2 hsz) c1 c2 c3 trivial trivial trivial ?_
  exact a0a rfl IsPure.out
theorem c2Y {r:Rat}{x:GF}{k:Nat}(h:FR r x k)(hk:k<100000):x.n.wf∧x.n.few∧(mkG (x.d:Int)).wf∧(mkG (x.d:Int)).few∧x.n.z=r.num∧x.d=r.den∧0<x.d :=
 ⟨h.is.1,h.fn (by omega),a0G _,by
  show (a0e ((x.d:Int)).natAbs).length<1000000;rw [Int.natAbs_natCast];have:=h.ld;omega,h.is.2.1,h.is.2.2,h.dpos⟩
theorem b8D {r:Rat}{x:GF}{k:Nat}(h:FR r x k)(hk:k<100000):a0b C0 158 [x.D] (boo (a7a r)):=by
 refine a0c.walk w1 c2w rfl fun F=>?_
 obtain ⟨h1,h2,h3,h4,h5,h6,_⟩:=c2Y h hk;have c1:=c2K x.n h1 h2;have c2:=c2K (mkG (x.d:Int)) h3 h4;have hb:a7a r=(a9Y x.n.z.natAbs||a9Y (mkG (x.d:Int)).z.natAbs):=by
  unfold a7a a9Y;rw [h5,← h6];rfl
 rw [hb];obtain ⟨p,hp⟩:∃ b,a9Y x.n.z.natAbs=b:=⟨_,rfl⟩
 obtain ⟨q,hq⟩:∃ b,a9Y (mkG (x.d:Int)).z.natAbs=b:=⟨_,rfl⟩
 rw [hp] at c1;rw [hq] at c2;rw [hp,hq];dsimp only [GI.D,GF.D] at c1 c2 ⊢;generalize mkG (x.d:Int)=y at c2 ⊢;cases p<;>cases q
 all_goals
  refine goI dr0 kB c1 c2 trivial trivial trivial trivial ?_;exact a0a rfl IsPure.out
theorem c2b {r:Rat}{x:GF}{k:Nat}(h:FR r x k)(hk:k<100000):a0b C0 50 [x.D] (str (sb (txt r))):=by
 refine a0c.walk w1 c5B rfl fun F=>?_
 obtain ⟨h1,h2,h3,h4,h5,h6,h7⟩:=c2Y h hk;have c0:=a7R x h7;have c1:=a9G x.n h1 h2;have c2:=a9G (mkG (x.d:Int)) h3 h4;have hd:Lib.itoa (mkG (x.d:Int)).z=Lib.decDigits r.den:=by
  show Lib.itoa (x.d:Int)=_;unfold Lib.itoa;rw [if_neg (by omega),h6];rfl
 rw [hd] at c2;rw [h5] at c1;have l1:(Lib.itoa r.num).length≤27000002:=by
  have:(Lib.decDigits x.n.z.natAbs).length≤27*1000000+1:=a9v (k:=1000000) (by unfold GI.few at h2;omega)
  rw [h5] at this;unfold Lib.itoa;split
  ·rw [List.length_cons];omega
  ·rw [show r.num.toNat=r.num.natAbs by omega];omega
 have l2:(Lib.decDigits r.den).length≤27000001:=by
  have:(Lib.decDigits (mkG (x.d:Int)).z.natAbs).length≤27*1000000+1:=a9v (k:=1000000) (by unfold GI.few at h4;omega)
  rw [← h6];exact this
 have s1:=a0r (Lib.itoa r.num);have s2:=a0r (Lib.decDigits r.den);have s3:(sb [47]).size=1:=rfl;have s4:=a0r (Lib.itoa r.num++[47]);have z1:(sb (Lib.itoa r.num)).size+(sb [47]).size≤9223372036854775807:=by rw [s1,s3];omega
 have z2:(sb (Lib.itoa r.num++[47])).size+(sb (Lib.decDigits r.den)).size≤9223372036854775807:=by rw [s4,s2,List.length_append,List.length_singleton];omega
 have a1:sb (Lib.itoa r.num)++(⟨#[47]⟩:ByteArray)=sb (Lib.itoa r.num++[47]):=b5G _ [47];have a2:=b5G (Lib.itoa r.num++[47]) (Lib.decDigits r.den);rw [List.append_assoc] at a2;dsimp only [GI.D,GF.D] at c0 c1 c2 ⊢;generalize mkG (x.d:Int)=y at c0 c2 ⊢;unfold txt
 by_cases g:x.d=1
 ·rw [decide_eq_true g] at c0
  rw [if_pos (h6 ▸ g)];refine goI b6F kB c0 c1 trivial trivial trivial trivial ?_;exact a0a rfl IsPure.out
 ·rw [decide_eq_false g] at c0
  rw [if_neg (fun q=>g (h6.trans q))];refine goI b6F (ff2 a1 a2) c0 c1 c2 trivial trivial trivial ?_;exact a0a rfl IsPure.out
set_option maxHeartbeats 4000000
def a6B {α:Type}(f:α→Nat):List α→Nat
 | []=>0
 | a::r=>if f a≠0 then f a else a6B f r
theorem b0D {α:Type}{f:α→Nat}{l:List α}{i:Nat}(ha:∀ (j:Nat) (y:α),j<i→l[j]? = some y→f y=0):a6B f l=a6B f (l.drop i):=by
 induction l generalizing i with
 | nil=>simp
 | cons a r ih =>
  cases i with
  | zero=>rfl
  | succ i =>
   have h0:=ha 0 a (by omega) rfl;show (if f a≠0 then f a else a6B f r)=_;rw [if_neg (fun k=>k h0),List.drop_succ_cons];exact ih fun j y hj hy=>ha (j+1) y (by omega) hy
theorem a6j {α:Type}{f:α→Nat}{v:List α}{i:Nat}{l:α}(ha:∀ (j:Nat) (y:α),j<i→v[j]? = some y→f y=0)(hl:v[i]? = some l)(h:f l≠0):a6B f v=f l:=by
 rw [b0D ha,List.drop_eq_getElem_cons (List.getElem?_eq_some_iff.1 hl).1,(List.getElem?_eq_some_iff.1 hl).2];exact if_pos h
theorem a2n {α:Type}{f:α→Nat}{v:List α}(ha:∀ (j:Nat) (y:α),j<v.length→v[j]? = some y→f y=0):a6B f v=0:=by
 rw [b0D (i:=v.length) ha,List.drop_length];rfl
theorem a5I {α:Type}{f:α→Nat}{v:List α}(h:a6B f v=0):∀ l∈v,f l=0:=by
 induction v with
 | nil=>intro l hl;cases hl
 | cons a r ih =>
  have h':(if f a≠0 then f a else a6B f r)=0:=h
  by_cases g:f a=0
  ·rw [if_neg (fun k=>k g)] at h'
   intro l hl;rcases List.mem_cons.1 hl with rfl|h2
   ·exact g
   ·exact ih h' l h2
  ·rw [if_pos g] at h';exact absurd h' g
theorem d3X:a0b C0 77 [i64 0] (⟨mkG 0,1⟩:GF).D:=d2o 0
def b9D (r:Rat):List UInt8:=if a7a r=true then [] else txt r
theorem c5L {n:GI}{k:Nat}(h:n.wf)(hk:1≤k)(hl:(a0e n.z.natAbs).length≤k):FR (n.z:Rat) ⟨n,1⟩ k:=by
 refine ⟨⟨h,(Rat.num_intCast _).symm,(Rat.den_intCast _).symm⟩,?_⟩;unfold rk;rw [Rat.num_intCast,Rat.den_intCast];exact ⟨hl,Nat.le_trans (a0D (n:=1) (k:=1) (by decide)) hk⟩
def two (a b:Nat):Nat:=if a≠0 then a else b
theorem c9r (v:List (List UInt8))(b:Bool)(hl:v.length≤1000000)(hf:∀ l∈v,l.length≤100000):a0b C0 190 [.clo (.func 55) [] [],txD b v] (i64 (a6B chk v:Nat)):=by
 refine a0c.walk w1 c3b rfl fun F=>?_
 have el:(((v.map fun l=>str (sb l)).length:Nat):Int)=(v.length:Int):=by rw [List.length_map]
 refine goI dr0 el trivial trivial trivial trivial trivial trivial ?_;refine OkS.loop (α:=Nat × Nat) (fun p=>⟨[(0,.clo (.func 55) [] []),(8,txD b v),(9,i64 (v.length:Int)),(10,i64 (p.1:Int))],[],p.2⟩) (fun p=>v.length - p.1)
  (fun p=>p.1≤v.length∧∀ (j:Nat) (l:List UInt8),j<p.1→v[j]? = some l→chk l=0) (0,_) ⟨Nat.zero_le _,fun j r hj=>absurd hj (Nat.not_lt_zero j)⟩ wkI ?_
 rintro ⟨i,m⟩ F ⟨hi,ha⟩;dsimp only at hi ha ⊢;rcases Nat.lt_or_ge i v.length with h2|h2
 ·have e1:=ltT h2
  have wi:=wiI (i:=i) (by omega);obtain ⟨l,hl2⟩:=a0H h2;have hm:(v.map fun l=>str (sb l))[i]? = some (str (sb l)):=by rw [List.getElem?_map,hl2];rfl
  have c:=b9L l (hf l (List.mem_of_getElem? hl2));rcases Nat.decEq (chk l) 0 with h3|h3
  ·have e2:=b4x h3
   rw [a6j ha hl2 h3];refine goI dr0 (ff3 e1 e2 kN) hm c trivial trivial trivial trivial ?_;exact a0a rfl IsPure.out
  ·have e2:=b5l h3
   refine goI dr0 (ff4 e1 e2 wi kN) hm c trivial trivial trivial trivial ?_;exact ⟨(i+1,_),⟨h2,a2e hl2 ha h3⟩,by dsimp only;omega,wkI⟩
 ·have e1:=ltF h2
  have:i=v.length:=by omega
  subst this;rw [a2n ha];refine goI dr0 e1 trivial trivial trivial trivial trivial trivial ?_;exact a0a rfl IsPure.out
theorem b4s (r:Rat):(b9D r).length≤100000:=by
 unfold b9D a7a;split
 ·exact Nat.zero_le _
 ·rename_i h
  simp only [Bool.or_eq_true,decide_eq_true_eq,not_or] at h;have h1:(Lib.itoa r.num).length≤601:=by
   unfold Lib.itoa;split
   ·rw [List.length_cons];omega
   ·rw [show r.num.toNat=r.num.natAbs by omega];omega
  unfold txt;split
  ·omega
  ·rw [List.length_append,List.length_cons];omega
theorem b0O (a b:Nat):a4g [(a:Int),(b:Int)]=((two a b:Nat):Int):=by
 show (if (a:Int)≠0 then (a:Int) else if (b:Int)≠0 then (b:Int) else 0)=_;unfold two
 by_cases h:a=0
 ·rw [if_neg (show ¬ (a:Int)≠0 by omega),if_neg (show ¬ a≠0 from fun k=>k h)]
  by_cases h2:b=0
  ·rw [if_neg (show ¬ (b:Int)≠0 by omega),h2];rfl
  ·rw [if_pos (show (b:Int)≠0 by omega)]
 ·rw [if_pos (show (a:Int)≠0 by omega),if_pos h]
theorem d2J {a b:Nat}(h:a≠0):two a b=a:=if_pos h
theorem d0b {a b:Nat}(h:a=0):two a b=b:=if_neg (fun k=>k h)
theorem a7d (a b:Rat):a4R a b<0↔a<b:=by
 unfold a4R;split
 ·rename_i h;exact ⟨fun _=>h,fun _=>by decide⟩
 ·rename_i h
  split
  ·exact ⟨fun q=>absurd q (by decide),fun q=>absurd q h⟩
  ·exact ⟨fun q=>absurd q (by decide),fun q=>absurd q h⟩
theorem b2B (a b c:Nat):a4g [(a:Int),(b:Int),(c:Int)]=((two a (two b c):Nat):Int):=by
 show (if (a:Int)≠0 then (a:Int) else a4g [(b:Int),(c:Int)])=_;rw [b0O]
 by_cases h:a=0
 ·rw [if_neg (show ¬ (a:Int)≠0 by omega),d0b h]
 ·rw [if_pos (show (a:Int)≠0 by omega),d2J h]
abbrev b9X:Dr:=[(1,[0,1,2,3,4],[5,6,7])]
open Go.Proofs Go.RowKit
set_option maxRecDepth 20000
set_option maxHeartbeats 4000000
structure SpT where
 lo:List UInt8
 hi:List UInt8
def SpT.D (s:SpT):D:=.agg [str (sb s.lo),str (sb s.hi)]
instance  (s:SpT):CellsPure s.D:=by unfold SpT.D;exact inferInstance
instance  (s:SpT):IsPure s.D:=by unfold SpT.D;exact inferInstance
def SpT.few (s:SpT):Prop:=s.lo.length≤100000∧s.hi.length≤100000
def a1D (s:SpT):Nat:=if two (chk s.lo) (chk s.hi)≠0 then two (chk s.lo) (chk s.hi) else if a4R (a0q s.lo) (a0q s.hi)>0 then 11 else 0
def b2b (x y:GF):D:=.agg [i64 x.n.s,x.n.w,i64 (mkG (x.d:Int)).s,(mkG (x.d:Int)).w,i64 y.n.s,y.n.w,i64 (mkG (y.d:Int)).s,(mkG (y.d:Int)).w]
instance  (x y:GF):CellsPure (b2b x y):=by unfold b2b;exact inferInstance
instance  (x y:GF):IsPure (b2b x y):=by unfold b2b;exact inferInstance
theorem c4w (a b:List UInt8):a6B chk [a,b]=two (chk a) (chk b):=by
 show (if chk a≠0 then chk a else if chk b≠0 then chk b else 0)=(if chk a≠0 then chk a else chk b);split
 ·rfl
 ·split<;>omega
theorem mOf (s:SpT)(hs:s.few)(h1:chk s.lo=0)(h2:chk s.hi=0):a0b C0 191 [s.D] (b2b (a1v s.lo) (a1v s.hi)):=by
 refine a0c.walk w1 c1K rfl fun F=>?_
 have d1:=b3p hs.1 h1;have d2:=b3p hs.2 h2;unfold SpT.D b2b;unfold GF.D at d1 d2;generalize a1v s.lo=A at *;generalize a1v s.hi=B at *;have p1:IsPure A.n.w:=inferInstance;have p2:IsPure B.n.w:=inferInstance;generalize mkG (A.d:Int)=A2 at *;generalize mkG (B.d:Int)=B2 at *;refine goI b9X kB d1 d2 trivial trivial trivial trivial ?_;exact a0a rfl IsPure.out
theorem a9t (s:SpT)(hs:s.few):a0b C0 116 [s.D] (i64 (a1D s:Nat)):=by
 refine a0c.walk w1 c1A rfl fun F=>?_
 have c1:=c9r [s.lo,s.hi] true (by simp) (by simp;exact hs);rw [c4w] at c1;have hab:two (chk s.lo) (chk s.hi)=0→chk s.lo=0∧chk s.hi=0:=by unfold two;split<;>omega
 have co:=mOf s hs;have hq:a1D s=if two (chk s.lo) (chk s.hi)≠0 then two (chk s.lo) (chk s.hi) else if a4R (a0q s.lo) (a0q s.hi)>0 then 11 else 0:=rfl
 rw [hq];unfold SpT.D at *;generalize two (chk s.lo) (chk s.hi)=K at *;rcases Nat.decEq K 0 with g|g
 ·have e1:=b4x g
  rw [if_pos (g:K≠0)];refine goI dr0 e1 c1 trivial trivial trivial trivial trivial ?_;exact a0a rfl IsPure.out
 have e1:=b5l g;rw [if_neg (fun h:K≠0=>h g)];obtain ⟨g1,g2⟩:=hab g;have co:=co g1 g2;have cc:=c8T (b1a g1) (b1a g2) (by decide);unfold b2b at co;unfold GF.D at cc;generalize a1v s.lo=A at *;generalize a1v s.hi=B at *;have p1:IsPure A.n.w:=inferInstance;have p2:IsPure B.n.w:=inferInstance;generalize mkG (A.d:Int)=A2 at *;generalize mkG (B.d:Int)=B2 at *
 by_cases g3:a4R (a0q s.lo) (a0q s.hi)>0
 ·have e2:decide (a4R (a0q s.lo) (a0q s.hi)>0)=true:=decide_eq_true g3
  rw [if_pos g3];refine goI dr0 (ff2 e1 e2) c1 co cc trivial trivial trivial ?_;exact a0a rfl IsPure.out
 ·have e2:decide (a4R (a0q s.lo) (a0q s.hi)>0)=false:=decide_eq_false g3
  rw [if_neg g3];refine goI dr0 (ff2 e1 e2) c1 co cc trivial trivial trivial ?_;exact a0a rfl IsPure.out
def wgt (w:Int):Bool:=decide (0≤w)&&decide (w≤999999999)
def a1Y (l:List Int):Int:=l.foldl (fun a b=>a+b) 0
def a7J (l:List Int):Nat:=if l.all wgt then (if a1Y l=0 then 6 else 0) else 3
def d0f (l:List Int):Int:=if a7J l=0 then a1Y l else 0
theorem a4k {l:List Int}{i:Nat}{x:Int}(h:l[i]? = some x):a1Y (l.take (i+1))=a1Y (l.take i)+x:=by
 unfold a1Y;rw [List.take_add_one,h,Option.toList_some,List.foldl_append];rfl
theorem a5T {l:List Int}(h:l.all wgt=true):∀ i,i≤l.length→0≤a1Y (l.take i)∧a1Y (l.take i)≤999999999*i
 | 0,_=>by simp [a1Y]
 | i+1,hi=>by
  obtain ⟨x,hx⟩:=a0H (l:=l) (i:=i) (by omega);obtain ⟨h1,h2⟩:=a5T h i (by omega)
  have:=List.all_eq_true.1 h x (List.mem_of_getElem? hx)
  unfold wgt at this;simp only [Bool.and_eq_true,decide_eq_true_eq] at this;rw [a4k hx];omega
theorem b5h (b:Bool)(l:List Int)(hl:l.length≤1000000):a0b C0 118 [.sl b 1 (l.map fun w=>i64 w)] (.tup [i64 (d0f l),i64 (a7J l:Nat)]):=by
 refine a0c.walk w1 c2f rfl fun F=>?_
 have el:(((l.map fun w=>i64 w).length:Nat):Int)=(l.length:Int):=by rw [List.length_map]
 have ho:d0f l=if a7J l=0 then a1Y l else 0:=rfl
 have hw:a7J l=if l.all wgt then (if a1Y l=0 then 6 else 0) else 3:=rfl
 rw [ho];refine goI dr0 el trivial trivial trivial trivial trivial trivial ?_;refine OkS.loop (α:=Nat × Nat) (fun p=>⟨[(4,i64 (a1Y (l.take p.1))),(7,.sl b 1 (l.map fun w=>i64 w)),(8,i64 (l.length:Int)),(9,i64 (p.1:Int))],[],p.2⟩) (fun p=>l.length - p.1)
  (fun p=>p.1≤l.length∧(l.take p.1).all wgt=true) (0,_) ⟨Nat.zero_le _,rfl⟩ wkI ?_
 rintro ⟨i,m⟩ F ⟨hi,ha⟩;dsimp only at hi ha ⊢;rcases Nat.lt_or_ge i l.length with h2|h2
 ·have e1:=ltT h2
  have wi:=wiI (i:=i) (by omega);obtain ⟨x,hx⟩:=a0H h2;have hm:(l.map fun w=>i64 w)[i]? = some (i64 x):=by rw [List.getElem?_map,hx];rfl
  have hs:=a4k hx;obtain ⟨g1,g2⟩:=a5T ha i (by rw [List.length_take];omega);rw [List.take_take,Nat.min_self] at g1 g2;obtain ⟨p,hp⟩:∃ p,decide (x<0)=p:=⟨_,rfl⟩
  obtain ⟨q,hq⟩:∃ p,decide (x>999999999)=p:=⟨_,rfl⟩
  have hwx:wgt x=(!p && !q):=by
   rw [← hp,← hq];unfold wgt;rw [Bool.eq_iff_iff];simp only [Bool.and_eq_true,decide_eq_true_eq,Bool.not_eq_true',decide_eq_false_iff_not];omega
  have hbad:wgt x=false→a7J l=3:=fun h=>by rw [hw,b0b hx h];rfl
  cases p
  ·cases q
   ·have hws:IntKind.i64.wrap (a1Y (l.take i)+x)=a1Y (l.take (i+1)):=by
     have:=of_decide_eq_false hp
     have:=of_decide_eq_false hq
     rw [hs];exact wI (by omega) (by omega)
    refine goI dr0 (ff6 e1 hp hq hws wi kN) hm trivial trivial trivial trivial trivial ?_;exact ⟨(i+1,_),⟨h2,a4x hx ha hwx⟩,by dsimp only;omega,wkI⟩
   ·rw [hbad hwx]
    refine goI dr0 (ff4 e1 hp hq kN) hm trivial trivial trivial trivial trivial ?_;exact a0a rfl IsPure.out
  ·rw [hbad (by rw [hwx];rfl)]
   refine goI dr0 (ff3 e1 hp kN) hm trivial trivial trivial trivial trivial ?_;exact a0a rfl IsPure.out
 have e1:=ltF h2
 have:i=l.length:=by omega
 subst this;rw [List.take_length] at ha ⊢;rw [ha,if_pos rfl] at hw;rw [hw]
 by_cases g:a1Y l=0
 ·have e2:(a1Y l==0)=true:=beq_iff_eq.2 g
  rw [if_pos g];refine goI dr0 (ff2 e1 e2) trivial trivial trivial trivial trivial trivial ?_;exact a0a rfl IsPure.out
 ·have e2:(a1Y l==0)=false:=beq_eq_false_iff_ne.2 g
  rw [if_neg g];refine goI dr0 (ff2 e1 e2) trivial trivial trivial trivial trivial trivial ?_;exact a0a rfl IsPure.out
abbrev b9o:Dr:=[(3,[0,1,2],[3,4,5,6])]
open Go.Proofs Go.RowKit
set_option maxRecDepth 20000
set_option maxHeartbeats 4000000
def a2c (a b:Rat):Bool:=a7a a||a7a b
def a4J (a b:Rat):D:=.agg [str (sb (if a2c a b then [] else txt a)),str (sb (if a2c a b then [] else txt b))]
instance  (a b:Rat):CellsPure (a4J a b):=by unfold a4J;exact inferInstance
instance  (a b:Rat):IsPure (a4J a b):=by unfold a4J;exact inferInstance
theorem b2Q {a b:Rat}{x y:GF}{i j:Nat}(hx:FR a x i)(hy:FR b y j)(hi:i<100000)(hj:j<100000):a0b C0 119 [x.D,y.D] (.tup [a4J a b,i64 (if a2c a b then 4 else 0:Nat)]):=by
 refine a0c.walk w1 c0X rfl fun F=>?_
 have c1:=b8D hx hi;have c2:=c2b hx hi;have c3:=b8D hy hj;have c4:=c2b hy hj;unfold a4J;have hb:a2c a b=(a7a a||a7a b):=rfl;rw [hb];obtain ⟨p,hp⟩:∃ p,a7a a=p:=⟨_,rfl⟩
 obtain ⟨q,hq⟩:∃ p,a7a b=p:=⟨_,rfl⟩
 rw [hp] at c1 ⊢;rw [hq] at c3 ⊢;cases p<;>cases q
 all_goals
  refine goI b9o kB c1 c2 c3 c4 trivial trivial ?_;exact a0a rfl IsPure.out
abbrev a9Q:Dr:=[(5,[0,1,2,3,4,5,6,7],[8,9]),(7,[0,1,2],[3,4])]
open Go.Proofs Go.RowKit
set_option maxRecDepth 20000
set_option maxHeartbeats 4000000
theorem d2P (z:Int)(h:Sm z):a0b C0 77 [i64 z] (⟨mkG z,1⟩:GF).D:=by
 have e:(⟨mkG z,1⟩:GF).D=smF z 1:=by
  unfold GF.D;rw [b7U,a5C h];rfl
 rw [e];exact d2o z
theorem b4k {w:Int}(h:wgt w=true):Sm w∧w.natAbs≤999999999:=by
 unfold wgt at h;simp only [Bool.and_eq_true,decide_eq_true_eq] at h;exact ⟨⟨by omega,by omega⟩,by omega⟩
theorem a6f {z:Int}(h:z.natAbs<18446744073709551616):FR (z:Rat) ⟨mkG z,1⟩ 1:=by
 have:=c5L (n:=mkG z) (k:=1) (a0G _) (Nat.le_refl _) (by rw [a2t];exact a0D (k:=1) (by unfold BB;omega))
 rwa [a2t] at this
def a3t (x:Nat→Rat)(w:Nat→Int):Nat→Rat
 | 0=>0
 | i+1=>a3t x w i+x i*(w i:Rat)
def a6K (x:Nat→GF)(w:Nat→Int):Nat→GF
 | 0=>⟨mkG 0,1⟩
 | i+1=>b8W (a6K x w i) (b8X (x i) ⟨mkG (w i),1⟩)
theorem b0r {x:Nat→Rat}{y:Nat→GF}{w:Nat→Int}:∀ n,(∀ i,i<n→FR (x i) (y i) 600)→(∀ i,i<n→(w i).natAbs≤999999999)→FR (a3t x w n) (a6K y w n) (602*n+1)
 | 0,_,_=>c4y 1 (Nat.le_refl _)
 | n+1,h1,h2=>by
  refine (c4A (b0r n (fun i hi=>h1 i (by omega)) fun i hi=>h2 i (by omega)) (b2O (h1 n (by omega)) (a6f (by have:=h2 n (by omega);omega)))).mono (by omega)
def wAt (l:List Int)(i:Nat):Int:=l.getD i 0
def a8x (v:List (List UInt8))(l:List Int)(s:Int):Rat:=a3t (fun i=>a0q (lv v i)) (wAt l) v.length / (s:Rat)
def b4N (v:List (List UInt8))(l:List Int)(s:Int):GF:=c6D (a6K (fun i=>a1v (lv v i)) (wAt l) v.length) ⟨mkG s,1⟩
theorem b6u {v:List (List UInt8)}(hc:a3o v=0){i:Nat}(hi:i<v.length):chk (lv v i)=0:=b2Z hc _ (List.mem_of_getElem? (a9B hi))
theorem a3M {l:List Int}{i:Nat}(h:i<l.length):l[i]? = some (wAt l i):=by
 unfold wAt;rw [List.getD_eq_getElem?_getD,List.getElem?_eq_getElem h];rfl
theorem b1j {l:List Int}(h:l.all wgt=true){i:Nat}(hi:i<l.length):wgt (wAt l i)=true:=List.all_eq_true.1 h _ (List.mem_of_getElem? (a3M hi))
theorem b3g {v:List (List UInt8)}{l:List Int}{s:Int}(hc:a3o v=0)(hl:l.length=v.length)(hw:l.all wgt=true)(h0:s≠0)(hs:s.natAbs<18446744073709551616):FR (a8x v l s) (b4N v l s) (602*v.length+2):=by
 have h1:FR (a3t (fun i=>a0q (lv v i)) (wAt l) v.length) (a6K (fun i=>a1v (lv v i)) (wAt l) v.length) (602*v.length+1):=b0r v.length (fun i hi=>b1a (b6u hc hi)) fun i hi=>(b4k (b1j hw (by omega))).2
 have h2:=c3B h1 (a6f hs) fun h=>h0 (by exact_mod_cast h)
 exact h2
theorem c3t (b1 b2:Bool)(v:List (List UInt8))(l:List Int)(s:Int)(hc:a3o v=0)(hv:v.length≤256)(hl:l.length=v.length)(hw:l.all wgt=true)(h0:s≠0)(hs:s.natAbs<1000000000000):a0b C0 120 [.sl b1 4 (v.map fun l=>(a1v l).D),.sl b2 1 (l.map fun w=>i64 w),i64 s] (b4N v l s).D:=by
 refine a0c.walk w1 c1J rfl fun F=>?_
 have el:(((v.map fun l=>(a1v l).D).length:Nat):Int)=(v.length:Int):=by rw [List.length_map]
 have hz0:=d3X;have hS:a6K (fun i=>a1v (lv v i)) (wAt l) 0=⟨mkG 0,1⟩:=rfl;rw [← hS] at hz0;refine goI a9Q el hz0 trivial trivial trivial trivial trivial ?_;refine OkS.loop (α:=Nat × Nat) (fun p=>⟨[(1,.sl b2 1 (l.map fun w=>i64 w)),(2,i64 s),(6,.optr 0 0 4 0 0),(7,.optr 101 2 4 0 0),(11,.sl b1 4 (v.map fun l=>(a1v l).D)),(12,i64 (v.length:Int)),(13,i64 (p.1:Int))],[⟨101,2,114,4,[(a6K (fun i=>a1v (lv v i)) (wAt l) p.1).D]⟩,⟨0,0,114,4,[.agg [i64 0,a2a,i64 0,a2a]]⟩],p.2⟩) (fun p=>v.length - p.1)
  (fun p=>p.1≤v.length) (0,_) (Nat.zero_le _) wkI ?_
 rintro ⟨i,m⟩ F hi;dsimp only at hi ⊢;have hSi:=b0r (x:=fun i=>a0q (lv v i)) (y:=fun i=>a1v (lv v i)) (w:=wAt l) i (fun k hk=>b1a (b6u hc (by omega))) fun k hk=>(b4k (b1j hw (by omega))).2
 rcases Nat.lt_or_ge i v.length with h2|h2
 ·have e1:=ltT h2
  have wi:=wiI (i:=i) (by omega);have hvi:=a9B h2;have hm:(v.map fun l=>(a1v l).D)[i]? = some (a1v (lv v i)).D:=by rw [List.getElem?_map,hvi];rfl
  have hm2:(l.map fun w=>i64 w)[i]? = some (i64 (wAt l i)):=by rw [List.getElem?_map,a3M (by omega)];rfl
  have hw1:=b4k (b1j hw (i:=i) (by omega));have d1:=d2P (wAt l i) hw1.1;have hx:=b1a (b6u hc h2);have hy:=a6f (z:=wAt l i) (by have:=hw1.2;omega);have d2:=c1W hx hy (by decide);have d3:=c1e hSi (b2O hx hy) (by omega);have hs2:b8W (a6K (fun i=>a1v (lv v i)) (wAt l) i) (b8X (a1v (lv v i)) ⟨mkG (wAt l i),1⟩)=a6K (fun i=>a1v (lv v i)) (wAt l) (i+1):=rfl;rw [hs2] at d3;generalize hA:a6K (fun i=>a1v (lv v i)) (wAt l) (i+1)=A at *;generalize a6K (fun i=>a1v (lv v i)) (wAt l) i=B at *;generalize a1v (lv v i)=X at *;generalize (⟨mkG (wAt l i),1⟩:GF)=Y at *;generalize b8X X Y=Z at *;refine goI a9Q (ff3 e1 wi kN) hm hm2 d1 d2 d3 trivial ?_;exact ⟨(i+1,_),h2,by dsimp only;omega,by (dsimp only;rw [hA];exact wkI)⟩
 have e1:=ltF h2
 have:i=v.length:=by omega
 subst this;have d1:=d2P s ⟨by omega,by omega⟩;have d2:=c8o hSi (a6f (z:=s) (by omega)) (fun h=>h0 (by exact_mod_cast h)) (by omega);have hM:c6D (a6K (fun i=>a1v (lv v i)) (wAt l) v.length) ⟨mkG s,1⟩=b4N v l s:=rfl;rw [hM] at d2;generalize b4N v l s=M at *;generalize a6K (fun i=>a1v (lv v i)) (wAt l) v.length=A at *;generalize (⟨mkG s,1⟩:GF)=Y at *;refine goI a9Q e1 d1 d2 trivial trivial trivial trivial ?_;exact a0a rfl IsPure.out
abbrev a3G:Dr:=[(11,[0,1,2,3,4,5,6,7,8,9,10],[11,12,13])]
open Go.Proofs Go.RowKit
set_option maxRecDepth 20000
set_option maxHeartbeats 4000000
abbrev spD (b:Bool)(v:List SpT):D:=.sl b 2 (v.map SpT.D)
def c3h (v:List SpT):Prop:=v.length≤100000∧∀ s∈v,s.few
def c1i (v:List SpT):List D:=v.map fun s=>(a1v s.lo).D
def c2Z (v:List SpT):List D:=v.map fun s=>(a1v s.hi).D
def a2q (v:List SpT):Nat:=if v.length=0 then 2 else if 256<v.length then 5 else a6B a1D v
theorem a2g {s:SpT}(h:a1D s=0):chk s.lo=0∧chk s.hi=0∧¬ a4R (a0q s.lo) (a0q s.hi)>0:=by
 unfold a1D at h;split at h
 ·rename_i g;exact absurd h g
 ·rename_i g
  split at h
  ·cases h
  ·rename_i g2
   have g3:two (chk s.lo) (chk s.hi)=0:=by omega
   unfold two at g3;split at g3<;>exact ⟨by omega,by omega,g2⟩
theorem b5V {v:List SpT}{i:Nat}{s:SpT}(h:v[i]? = some s):c1i (v.take (i+1))=c1i (v.take i)++[(a1v s.lo).D]∧c2Z (v.take (i+1))=c2Z (v.take i)++[(a1v s.hi).D]:=by
 unfold c1i c2Z;rw [List.take_add_one,h,Option.toList_some,List.map_append,List.map_append];exact ⟨rfl,rfl⟩
theorem c4d {H Hf:Hp}{a b c a' b':D}(h1:Fz H Hf a a')(h2:Fz H Hf b b'):Fz H Hf (.tup [a,b,c]) (.tup [a',b',c]):=.tup rfl fun i d d' h h'=>by
 match i with
 | 0=>cases h;cases h';exact h1
 | 1=>cases h;cases h';exact h2
 | 2=>cases h;cases h';exact .refl _
 | n+3=>cases h
theorem c0w {K g T sz K' g' T' sz':Nat}{l l':List D}(h:Nat.beq K' K=false):l=[]∨Hp.get (a5j K' g' T' sz' l'++a5j K g T sz l) K=some ⟨K,g,T,sz,l⟩:=by
 cases l with
 | nil=>exact .inl rfl
 | cons x l =>
  right;cases l' with
  | nil=>simp [a5j,Hp.get]
  | cons y l'=>simp [a5j,Hp.get,h]
theorem c0n (v:List SpT)(b:Bool)(hl:v.length≤1000000)(hf:∀ l∈v,l.few):a0b C0 192 [.clo (.func 116) [] [],spD b v] (i64 (a6B a1D v:Nat)):=by
 refine a0c.walk w1 c0W rfl fun F=>?_
 have el:(((v.map SpT.D).length:Nat):Int)=(v.length:Int):=by rw [List.length_map]
 refine goI dr0 el trivial trivial trivial trivial trivial trivial ?_;refine OkS.loop (α:=Nat × Nat) (fun p=>⟨[(0,.clo (.func 116) [] []),(8,spD b v),(9,i64 (v.length:Int)),(10,i64 (p.1:Int))],[],p.2⟩) (fun p=>v.length - p.1)
  (fun p=>p.1≤v.length∧∀ (j:Nat) (l:SpT),j<p.1→v[j]? = some l→a1D l=0) (0,_) ⟨Nat.zero_le _,fun j r hj=>absurd hj (Nat.not_lt_zero j)⟩ wkI ?_
 rintro ⟨i,m⟩ F ⟨hi,ha⟩;dsimp only at hi ha ⊢;rcases Nat.lt_or_ge i v.length with h2|h2
 ·have e1:=ltT h2
  have wi:=wiI (i:=i) (by omega);obtain ⟨l,hl2⟩:=a0H h2;have hm:(v.map SpT.D)[i]? = some (.agg [str (sb l.lo),str (sb l.hi)]):=by rw [List.getElem?_map,hl2];rfl
  have c:=a9t l (hf l (List.mem_of_getElem? hl2));unfold SpT.D at c;rcases Nat.decEq (a1D l) 0 with h3|h3
  ·have e2:=b4x h3
   rw [a6j ha hl2 h3];refine goI dr0 (ff3 e1 e2 kN) hm c trivial trivial trivial trivial ?_;exact a0a rfl IsPure.out
  ·have e2:=b5l h3
   refine goI dr0 (ff4 e1 e2 wi kN) hm c trivial trivial trivial trivial ?_;exact ⟨(i+1,_),⟨h2,a2e hl2 ha h3⟩,by dsimp only;omega,wkI⟩
 ·have e1:=ltF h2
  have:i=v.length:=by omega
  subst this;rw [a2n ha];refine goI dr0 e1 trivial trivial trivial trivial trivial trivial ?_;exact a0a rfl IsPure.out
theorem c4C (v:List SpT)(b:Bool)(hl:v.length≤1000000)(hf:∀ l∈v,l.few):a0b C0 52 [spD b v] (i64 (a6B a1D v:Nat)):=by
 refine a0c.walk w1 c8A rfl fun F=>?_
 have el:(((v.map SpT.D).length:Nat):Int)=(v.length:Int):=by rw [List.length_map]
 refine goI dr0 el trivial trivial trivial trivial trivial trivial ?_;refine OkS.loop (α:=Nat × Nat) (fun p=>⟨[(6,spD b v),(7,i64 (v.length:Int)),(8,i64 (p.1:Int))],[],p.2⟩) (fun p=>v.length - p.1)
  (fun p=>p.1≤v.length∧∀ (j:Nat) (l:SpT),j<p.1→v[j]? = some l→a1D l=0) (0,_) ⟨Nat.zero_le _,fun j r hj=>absurd hj (Nat.not_lt_zero j)⟩ wkI ?_
 rintro ⟨i,m⟩ F ⟨hi,ha⟩;dsimp only at hi ha ⊢;rcases Nat.lt_or_ge i v.length with h2|h2
 ·have e1:=ltT h2
  have wi:=wiI (i:=i) (by omega);obtain ⟨l,hl2⟩:=a0H h2;have hm:(v.map SpT.D)[i]? = some (.agg [str (sb l.lo),str (sb l.hi)]):=by rw [List.getElem?_map,hl2];rfl
  have c:=a9t l (hf l (List.mem_of_getElem? hl2));unfold SpT.D at c;rcases Nat.decEq (a1D l) 0 with h3|h3
  ·have e2:=b4x h3
   rw [a6j ha hl2 h3];refine goI dr0 (ff3 e1 e2 kN) hm c trivial trivial trivial trivial ?_;exact a0a rfl IsPure.out
  ·have e2:=b5l h3
   refine goI dr0 (ff4 e1 e2 wi kN) hm c trivial trivial trivial trivial ?_;exact ⟨(i+1,_),⟨h2,a2e hl2 ha h3⟩,by dsimp only;omega,wkI⟩
 ·have e1:=ltF h2
  have:i=v.length:=by omega
  subst this;rw [a2n ha];refine goI dr0 e1 trivial trivial trivial trivial trivial trivial ?_;exact a0a rfl IsPure.out
def b9a (v:List SpT):D:=if a2q v=0 then .sl false 4 (c1i v) else a2a
def b9e (v:List SpT):D:=if a2q v=0 then .sl false 4 (c2Z v) else a2a
instance  (v:List SpT):IsPure (b9a v):=by
 unfold b9a c1i;split<;>exact inferInstance
instance  (v:List SpT):IsPure (b9e v):=by
 unfold b9e c2Z;split<;>exact inferInstance
def a3d (v:List SpT):D:=.tup [b9a v,b9e v,i64 (a2q v:Nat)]
instance  (v:List SpT):IsPure (a3d v):=by
 unfold a3d;exact inferInstance
theorem c4u (b:Bool)(v:List SpT)(hv:c3h v):a0b C0 117 [spD b v] (a3d v):=by
 refine a0c.walk w1 c1w rfl fun F=>?_
 have el:(((v.map SpT.D).length:Nat):Int)=(v.length:Int):=by rw [List.length_map]
 have c1:=c0n v b (Nat.le_trans hv.1 (by decide)) hv.2;have hE:a2q v=if v.length=0 then 2 else if 256<v.length then 5 else a6B a1D v:=rfl
 have pD:IsPure (a3d v):=inferInstance
 by_cases g1:v.length=0
 ·have e1:((v.length:Int)==0)=true:=beq_iff_eq.2 (by omega)
  rw [if_pos g1] at hE;unfold a3d b9a b9e;rw [hE,if_neg (by decide),if_neg (by decide)];refine goI a3G (ff2 e1 el) trivial trivial trivial trivial trivial trivial ?_;exact a0a rfl IsPure.out
 have e1:((v.length:Int)==0)=false:=beq_eq_false_iff_ne.2 (by omega);rw [if_neg g1] at hE
 by_cases g2:256<v.length
 ·have e2:decide ((v.length:Int)>256)=true:=decide_eq_true (by omega)
  rw [if_pos g2] at hE;unfold a3d b9a b9e;rw [hE,if_neg (by decide),if_neg (by decide)];refine goI a3G (ff3 e1 e2 el) trivial trivial trivial trivial trivial trivial ?_;exact a0a rfl IsPure.out
 have e2:decide ((v.length:Int)>256)=false:=decide_eq_false (by omega);rw [if_neg g2] at hE;rcases Nat.decEq (a6B a1D v) 0 with g3|g3
 ·have e3:=b4x g3
  unfold a3d b9a b9e;rw [hE,if_neg g3,if_neg g3];refine goI a3G (ff4 e1 e2 e3 el) c1 trivial trivial trivial trivial trivial ?_;exact a0a rfl IsPure.out
 have e3:=b5l g3;rw [g3] at hE;refine goI a3G (ff4 e1 e2 e3 el) c1 trivial trivial trivial trivial trivial ?_;refine OkS.loop (α:=Nat × List D × Nat × List D × Nat × Nat) (fun p=>⟨[(2,a6T 1105 p.2.2.1 4 p.2.1),(3,a6T 1111 p.2.2.2.2.1 4 p.2.2.2.1),(19,spD b v),(20,i64 (v.length:Int)),(21,i64 (p.1:Int))],a5j 1111 p.2.2.2.2.1 114 4 p.2.2.2.1++a5j 1105 p.2.2.1 114 4 p.2.1,p.2.2.2.2.2⟩) (fun p=>v.length - p.1)
  (fun p=>p.1≤v.length∧p.2.1=c1i (v.take p.1)∧p.2.2.2.1=c2Z (v.take p.1)) (0,[],0,[],0,_) ⟨Nat.zero_le _,rfl,rfl⟩ wkI ?_
 rintro ⟨i,L1,q1,L2,q2,m⟩ F ⟨hi,hL1,hL2⟩;dsimp only at hi hL1 hL2 ⊢;have hz:=a5I g3;rcases Nat.lt_or_ge i v.length with h2|h2
 ·have e4:=ltT h2
  have wi:=wiI (i:=i) (by omega);obtain ⟨l,hl2⟩:=a0H h2;have hm:(v.map SpT.D)[i]? = some (.agg [str (sb l.lo),str (sb l.hi)]):=by rw [List.getElem?_map,hl2];rfl
  obtain ⟨z1,z2,-⟩:=a2g (hz l (List.mem_of_getElem? hl2));have hfw:=hv.2 l (List.mem_of_getElem? hl2);have d1:=b3p hfw.1 z1;have d2:=b3p hfw.2 z2;obtain ⟨s1,s2⟩:=b5V hl2;rw [← hL1] at s1;rw [← hL2] at s2;have n1:L1.length=i:=by rw [hL1];unfold c1i;rw [List.length_map,List.length_take];omega
  have n2:L2.length=i:=by rw [hL2];unfold c2Z;rw [List.length_map,List.length_take];omega
  unfold GF.D at d1 d2 s1 s2;generalize a1v l.lo=A at *;generalize a1v l.hi=B at *;have p1:IsPure A.n.w:=inferInstance;have p2:IsPure B.n.w:=inferInstance;generalize mkG (A.d:Int)=A2 at *;generalize mkG (B.d:Int)=B2 at *;clear hL1 hL2;rcases L1 with _|⟨x1,L1⟩
  ·rcases L2 with _|⟨x2,L2⟩
   ·dsimp only [a3a,a2V,List.nil_append]
    refine goI a3G (ff3 e4 wi kN) hm d1 d2 trivial trivial trivial ?_;exact ⟨(i+1,[_],_,[_],_,_),⟨h2,s1.symm,s2.symm⟩,by dsimp only;omega,wkI⟩
   ·exact absurd (n1.trans n2.symm) (by simp)
  ·rcases L2 with _|⟨x2,L2⟩
   ·exact absurd (n1.trans n2.symm) (by simp)
   ·have t1:List.take (L1.length+1) (x1::L1)=x1::L1:=by simp
    have t2:List.take (L2.length+1) (x2::L2)=x2::L2:=by simp
    simp only [List.length_cons] at n1 n2;dsimp only [a1X,a1W];refine sZ 900 ?_;refine nwI e4 ?_;refine OkS.seq ?_;refine ifI ?_;refine skI ?_;refine OkS.seq ?_;refine OkS.block ?_;refine sZ 1000 ?_;refine gwI kN ?_;refine ixI kT hm ?_;refine gwI kN ?_;refine OkS.regW w1 1100 [0,1,2,3,4,5,6,7,8,9,10] [11,12,13] 5 [1,2,3,4,0] (1105) (by kernel_rfl) (by kernel_rfl) ?_;refine dsI ?_;refine gvI (ff3 t1 t2 kN) ?_;refine a2z rfl rfl rfl rfl ?_;refine dsI ?_;refine And.intro (by exact sdI) ?_;refine dsI ?_;refine a0p.same _ d1 inferInstance ?_;refine dsI ?_;refine gvI (ff3 t1 t2 kN) ?_;refine a2z rfl rfl rfl rfl ?_;refine dsI ?_;refine And.intro (by exact sdI) ?_;refine dsI ?_;refine a0p.same _ d2 inferInstance ?_;refine dsI ?_;refine gvI (ff3 t1 t2 kN) ?_;refine And.intro (.inr trivial) ?_;refine goI a3G (ff4 wi t1 t2 kN) trivial trivial trivial trivial trivial trivial ?_;exact ⟨(i+1,x1::L1++[_],_,x2::L2++[_],_,_),⟨h2,s1.symm,s2.symm⟩,by dsimp only;omega,by (dsimp only;rw [a2u,a2u];exact wkI)⟩
 ·have e4:=ltF h2
  have:i=v.length:=by omega
  subst this;rw [List.take_length] at hL1 hL2;have h1:a3d v=.tup [.sl false 4 L1,.sl false 4 L2,i64 0]:=by
   unfold a3d b9a b9e;rw [hE,if_pos rfl,if_pos rfl,← hL1,← hL2];rfl
  rw [h1];refine goI a3G e4 trivial trivial trivial trivial trivial trivial ?_;exact ⟨_,c4d (a8o (c0w rfl) rfl) (a8o a9T rfl),by rw [h1] at pD;exact pD.out,rfl⟩
def loQ (v:List SpT)(w:List Int):Rat:=a8x (v.map SpT.lo) w (a1Y w)
def hiQ (v:List SpT)(w:List Int):Rat:=a8x (v.map SpT.hi) w (a1Y w)
def a1Q (v:List SpT)(w:List Int):Nat:=if a2q v≠0 then a2q v else if w.length≠v.length then 2 else if a7J w≠0 then a7J w else if a2c (loQ v w) (hiQ v w) then 4 else 0
def a5h (v:List SpT)(w:List Int):D:=if a1Q v w=0 then a4J (loQ v w) (hiQ v w) else .agg [str (sb []),str (sb [])]
instance  (v:List SpT)(w:List Int):CellsPure (a5h v w):=by unfold a5h;split<;>exact inferInstance
instance  (v:List SpT)(w:List Int):IsPure (a5h v w):=by unfold a5h;split<;>exact inferInstance
theorem b1b {v:List (List UInt8)}(h:∀ l∈v,chk l=0):a3o v=0:=b4Y fun _ _ _ hj=>h _ (List.mem_of_getElem? hj)
theorem b1D {l:List Int}(h:a7J l=0)(hl:l.length≤1000):l.all wgt=true∧a1Y l≠0∧d0f l=a1Y l∧(a1Y l).natAbs<1000000000000:=by
 have ho:d0f l=a1Y l:=if_pos h;unfold a7J at h;split at h
 ·rename_i ha
  split at h
  ·cases h
  ·rename_i h0
   obtain ⟨g1,g2⟩:=a5T ha l.length (Nat.le_refl _);rw [List.take_length] at g1 g2;exact ⟨ha,h0,ho,by omega⟩
 ·cases h
theorem d0u (b1 b2:Bool)(v:List SpT)(hv:c3h v)(h100:v.length≤100)(w:List Int)(hw:w.length≤1000):a0b C0 53 [spD b1 v,.sl b2 1 (w.map fun w=>i64 w)] (.tup [a5h v w,i64 (a1Q v w:Nat)]):=by
 refine a0c.walk w1 c8h rfl fun F=>?_
 have el:(((v.map SpT.D).length:Nat):Int)=(v.length:Int):=by rw [List.length_map]
 have elw:(((w.map fun w=>i64 w).length:Nat):Int)=(w.length:Int):=by rw [List.length_map]
 have c1:=c4u b1 v hv;have c2:=b5h b2 w (by omega);have hE:a1Q v w=if a2q v≠0 then a2q v else if w.length≠v.length then 2 else if a7J w≠0 then a7J w else if a2c (loQ v w) (hiQ v w) then 4 else 0:=rfl
 have hD:a5h v w=if a1Q v w=0 then a4J (loQ v w) (hiQ v w) else .agg [str (sb []),str (sb [])]:=rfl
 unfold a3d at c1;have p1:IsPure (b9a v):=inferInstance;have p2:IsPure (b9e v):=inferInstance;have hlo:a2q v=0→b9a v=.sl false 4 ((v.map SpT.lo).map fun l=>(a1v l).D):=fun h=>by unfold b9a c1i;rw [if_pos h,List.map_map];rfl
 have hhi:a2q v=0→b9e v=.sl false 4 ((v.map SpT.hi).map fun l=>(a1v l).D):=fun h=>by unfold b9e c2Z;rw [if_pos h,List.map_map];rfl
 have hall:a2q v=0→v.length≤256∧a3o (v.map SpT.lo)=0∧a3o (v.map SpT.hi)=0:=fun h=>by
  unfold a2q at h;split at h
  ·cases h
  ·split at h
   ·cases h
   ·have hz:=a5I h
    refine ⟨by omega,b1b fun l hl=>?_,b1b fun l hl=>?_⟩
    ·obtain ⟨s,hs,rfl⟩:=List.mem_map.1 hl
     exact (a2g (hz s hs)).1
    ·obtain ⟨s,hs,rfl⟩:=List.mem_map.1 hl
     exact (a2g (hz s hs)).2.1
 have hwz:=@b1D w;have cm:=c3t false b2;have cg:=@b2Q (loQ v w) (hiQ v w);obtain ⟨A,hA⟩:∃ A,a2q v=A:=⟨_,rfl⟩
 rw [hA] at c1 hE hlo hhi hall;rcases Nat.decEq A 0 with g1|g1
 ·have e1:=b4x g1
  rw [if_pos g1] at hE;rw [hE,if_neg g1] at hD;rw [hD,hE];refine goI dr0 e1 c1 trivial trivial trivial trivial trivial ?_;exact a0a rfl IsPure.out
 have e1:=b5l g1;rw [if_neg (by omega)] at hE;rw [hlo g1,hhi g1] at c1;obtain ⟨h256,r1,r2⟩:=hall g1
 by_cases g2:w.length=v.length
 rotate_left
 ·have e2:((w.length:Int) != (v.length:Int))=true:=d0k g2
  rw [if_pos g2] at hE;rw [hE,if_neg (by decide)] at hD;rw [hD,hE];refine goI dr0 (ff4 e1 el elw e2) c1 trivial trivial trivial trivial trivial ?_;exact a0a rfl IsPure.out
 have e2:((w.length:Int) != (v.length:Int))=false:=c9Q g2;rw [if_neg (by omega)] at hE;rcases Nat.decEq (a7J w) 0 with g3|g3
 ·have e3:=b4x g3
  rw [if_pos g3] at hE;rw [hE,if_neg g3] at hD;rw [hD,hE];refine goI dr0 (ff5 e1 el elw e2 e3) c1 c2 trivial trivial trivial trivial ?_;exact a0a rfl IsPure.out
 have e3:=b5l g3;rw [if_neg (by omega)] at hE;obtain ⟨w3,w4,w5,w6⟩:=hwz g3 hw;rw [w5] at c2;have m1:=cm (v.map SpT.lo) w (a1Y w) r1 (by rw [List.length_map];exact h256) (by rw [List.length_map];exact g2) w3 w4 w6;have m2:=cm (v.map SpT.hi) w (a1Y w) r2 (by rw [List.length_map];exact h256) (by rw [List.length_map];exact g2) w3 w4 w6;have f1:=b3g r1 (by rw [List.length_map];exact g2) w3 w4 (by omega);have f2:=b3g r2 (by rw [List.length_map];exact g2) w3 w4 (by omega);have c3:=cg f1 f2 (by rw [List.length_map];omega) (by rw [List.length_map];omega);have hD2:a5h v w=a4J (loQ v w) (hiQ v w):=by
  rw [hD];split
  ·rfl
  ·rename_i h
   rw [hE] at h;split at h
   ·rename_i hb
    unfold a4J;rw [if_pos hb,if_pos hb]
   ·exact absurd rfl h
 rw [hD2,hE];have hsp:∃ x y,a4J (loQ v w) (hiQ v w)=.agg [str (sb x),str (sb y)]:=⟨_,_,rfl⟩
 obtain ⟨x,y,hxy⟩:=hsp;rw [hxy] at c3 ⊢;generalize b4N (v.map SpT.lo) w (a1Y w)=X at *;generalize b4N (v.map SpT.hi) w (a1Y w)=Y at *;generalize (if a2c (loQ v w) (hiQ v w)=true then 4 else 0)=N at *;refine goI dr0 (ff5 e1 el elw e2 e3) c1 c2 m1 m2 c3 trivial ?_;exact a0a rfl IsPure.out
abbrev a1B:Dr:=[(7,[0,1,2,3,4,5,6,7,8,9,10,11,12,13,14],[15,16,17,18])]
open Go.Proofs Go.RowKit
set_option maxRecDepth 20000
set_option maxHeartbeats 8000000
instance:Inhabited SpT:=⟨⟨[],[]⟩⟩
abbrev ssB (b:Bool)(v:List (List SpT)):D:=.sl b 1 (v.map fun s=>spD false s)
abbrev wsB (b:Bool)(w:List Int):D:=.sl b 1 (w.map fun x=>i64 x)
abbrev ssD (v:List (List SpT)):D:=ssB false v
abbrev wsD (w:List Int):D:=wsB false w
def b1x (n:Nat):Nat:=if n=0 then 2 else if 64<n then 5 else 0
def b9b (n0 n:Nat):Nat:=if n=0 then 2 else if 8<n then 5 else if n≠n0 then 2 else 0
def b0y (n0:Nat)(s:List SpT):Nat:=two (b9b n0 s.length) (a6B a1D s)
def a0I (v:List (List SpT))(f:Nat):List SpT:=v.map fun s=>s.getD f default
def n0S (v:List (List SpT)):Nat:=(v.getD 0 []).length
def b2R (v:List (List SpT))(w:List Int):Nat :=
 if b1x v.length≠0 then b1x v.length else if a6B (b0y (n0S v)) v≠0 then a6B (b0y (n0S v)) v else if w.length≠v.length then 2 else b4e (fun f=>a1Q (a0I v f) w) (n0S v)
def b2a (v:List (List SpT))(w:List Int)(n:Nat):List D:=(List.range n).map fun f=>a5h (a0I v f) w
def b5s (v:List (List SpT))(w:List Int):D:=if b2R v w=0 then .sl false 2 (b2a v w (n0S v)) else a2a
theorem b1q (v:List (List SpT))(w:List Int)(n:Nat):b2a v w (n+1)=b2a v w n++[a5h (a0I v n) w]:=by
 unfold b2a;rw [List.range_succ,List.map_append];rfl
instance  (v:List (List SpT))(w:List Int)(n:Nat):IsPure (.sl false 2 (b2a v w n)):=by unfold b2a;exact inferInstance
theorem fw2 (p q:Bool)(a b:Nat):a0b C0 47 [.sl true 1 [i64 (if p then (a:Int) else 0),i64 (if q then (b:Int) else 0)]] (i64 (two (if p then a else 0) (if q then b else 0):Nat)):=by
 have e1:(if p then (a:Int) else 0)=((if p then a else 0:Nat):Int):=by cases p<;>rfl
 have e2:(if q then (b:Int) else 0)=((if q then b else 0:Nat):Int):=by cases q<;>rfl
 rw [e1,e2,← b0O];exact b7s [((if p then a else 0:Nat):Int),((if q then b else 0:Nat):Int)] (by simp)
theorem fw3 (p q r:Bool)(a b c:Nat):a0b C0 47 [.sl true 1 [i64 (if p then (a:Int) else 0),i64 (if q then (b:Int) else 0),i64 (if r then (c:Int) else 0)]] (i64 (two (if p then a else 0) (two (if q then b else 0) (if r then c else 0)):Nat)):=by
 have e1:(if p then (a:Int) else 0)=((if p then a else 0:Nat):Int):=by cases p<;>rfl
 have e2:(if q then (b:Int) else 0)=((if q then b else 0:Nat):Int):=by cases q<;>rfl
 have e3:(if r then (c:Int) else 0)=((if r then c else 0:Nat):Int):=by cases r<;>rfl
 rw [e1,e2,e3,← b2B];exact b7s [((if p then a else 0:Nat):Int),((if q then b else 0:Nat):Int),((if r then c else 0:Nat):Int)] (by simp)
theorem b9J (n:Nat):b1x n=two (if ((n:Int)==0) then 2 else 0) (if decide ((n:Int)>64) then 5 else 0):=by
 unfold b1x two;simp only [beq_iff_eq,decide_eq_true_eq]
 repeat' split
 all_goals omega
theorem c0E (n0 n:Nat):b9b n0 n=two (if ((n:Int)==0) then 2 else 0) (two (if decide ((n:Int)>8) then 5 else 0) (if ((n:Int) != (n0:Int)) then 2 else 0)):=by
 unfold b9b two;simp only [beq_iff_eq,decide_eq_true_eq,bne_iff_ne]
 repeat' split
 all_goals omega
theorem a5z {n0:Nat}{s:List SpT}(h:b0y n0 s=0):s.length=n0∧0<n0∧n0≤8∧∀ x∈s,a1D x=0:=by
 unfold b0y two at h;split at h
 ·rename_i g;exact absurd h g
 ·rename_i g
  unfold b9b at g;refine ⟨?_,?_,?_,a5I h⟩<;>(repeat' split at g)<;>omega
theorem b7c {v:List (List SpT)}{f k:Nat}{s:List SpT}(h:v[k]? = some s):(a0I v f)[k]? = some (s.getD f default):=by
 unfold a0I;rw [List.getElem?_map,h];rfl
theorem c0e {v:List (List SpT)}{f k:Nat}{s:List SpT}(h:v[k]? = some s):((a0I v f).take (k+1)).map SpT.D=((a0I v f).take k).map SpT.D++[(s.getD f default).D]:=by
 rw [List.take_add_one,b7c h,Option.toList_some,List.map_append];rfl
theorem b9s (v:List SpT)(w:List Int):a6p (.tup [a5h v w,i64 (a1Q v w:Nat)]):=by
 refine a6p.tup fun d hd=>?_
 rcases List.mem_cons.1 hd with rfl|hd
 ·unfold a5h a4J
  split<;>exact a6p.agg fun d hd=>by
   rcases List.mem_cons.1 hd with rfl|hd
   ·exact .prim _
   ·rcases List.mem_cons.1 hd with rfl|hd
    ·exact .prim _
    ·cases hd
 ·rcases List.mem_cons.1 hd with rfl|hd
  ·exact .prim _
  ·cases hd
theorem a4w (b1 b2:Bool)(v:List (List SpT))(hl:v.length≤1000)(hv:∀ s∈v,c3h s)(w:List Int)(hw:w.length≤1000):a0b C0 16 [ssB b1 v,wsB b2 w] (.tup [b5s v w,i64 (b2R v w:Nat)]):=by
 refine a0c.walk w1 c8e rfl fun F=>?_
 have el:(((v.map fun s=>spD false s).length:Nat):Int)=(v.length:Int):=by rw [List.length_map]
 have elw:(((w.map fun x=>i64 x).length:Nat):Int)=(w.length:Int):=by rw [List.length_map]
 have hE:b2R v w=if b1x v.length≠0 then b1x v.length else if a6B (b0y (n0S v)) v≠0 then a6B (b0y (n0S v)) v else if w.length≠v.length then 2 else b4e (fun f=>a1Q (a0I v f) w) (n0S v):=rfl
 have hD:b5s v w=if b2R v w=0 then .sl false 2 (b2a v w (n0S v)) else a2a:=rfl
 obtain ⟨n0,hn0⟩:∃ n,n0S v=n:=⟨_,rfl⟩
 rw [hn0] at hE hD;obtain ⟨p,hp⟩:∃ p,((v.length:Int)==0)=p:=⟨_,rfl⟩
 obtain ⟨q,hq⟩:∃ p,decide ((v.length:Int)>64)=p:=⟨_,rfl⟩
 have u2:=a2M p 2;have u5:=a2M q 5;have hA:=b9J v.length;rw [hp,hq] at hA;have cf:a0b C0 47 [.sl true 1 [i64 (if p then 2 else 0),i64 (if q then 5 else 0)]] (i64 (b1x v.length:Nat)):=by rw [hA];exact fw2 p q 2 5
 have h64:b1x v.length=0→0<v.length∧v.length≤64:=fun h=>by
  unfold b1x at h;split at h
  ·cases h
  ·split at h
   ·cases h
   ·omega
 clear hA;obtain ⟨A,hAA⟩:∃ A,b1x v.length=A:=⟨_,rfl⟩
 rw [hAA] at cf hE h64;rcases Nat.decEq A 0 with g1|g1
 ·have e1:=b4x g1
  rw [if_pos g1] at hE;rw [hE,if_neg g1] at hD;rw [hD,hE];refine goI a1B (ff4 e1 el hp hq) u2 u5 cf trivial trivial trivial ?_;exact a0a rfl IsPure.out
 have e1:=b5l g1;obtain ⟨v1,v2⟩:=h64 g1;rw [if_neg (by omega)] at hE;obtain ⟨s0,hs0⟩:=a0H v1;have hs0l:s0.length=n0:=by rw [← hn0];unfold n0S;rw [List.getD_eq_getElem?_getD,hs0];rfl
 have hm0:(v.map fun s=>spD false s)[0]? = some (spD false s0):=by rw [List.getElem?_map,hs0];rfl
 have el0:(((s0.map SpT.D).length:Nat):Int)=(n0:Int):=by rw [List.length_map,hs0l]
 refine goI a1B (ff4 e1 el hp hq) u2 u5 cf trivial trivial trivial ?_;clear u2 u5 cf hp hq;refine OkS.loop (α:=Nat × Nat) (fun p=>⟨[(0,ssB b1 v),(1,wsB b2 w),(31,ssB b1 v),(32,i64 (v.length:Int)),(33,i64 (p.1:Int))],[],p.2⟩) (fun p=>v.length - p.1)
  (fun p=>p.1≤v.length∧∀ (j:Nat) (s:List SpT),j<p.1→v[j]? = some s→b0y n0 s=0) (0,_) ⟨Nat.zero_le _,fun j r hj=>absurd hj (Nat.not_lt_zero j)⟩ wkI ?_
 rintro ⟨i,m⟩ F ⟨hi,ha⟩;dsimp only at hi ha ⊢;rcases Nat.lt_or_ge i v.length with h2|h2
 ·have e2:=ltT h2
  have wi:=wiI (i:=i) (by omega);obtain ⟨s,hs⟩:=a0H h2;have hm:(v.map fun s=>spD false s)[i]? = some (spD false s):=by rw [List.getElem?_map,hs];rfl
  have els:(((s.map SpT.D).length:Nat):Int)=(s.length:Int):=by rw [List.length_map]
  have hsf:=hv s (List.mem_of_getElem? hs);obtain ⟨p,hp⟩:∃ p,((s.length:Int)==0)=p:=⟨_,rfl⟩
  obtain ⟨q,hq⟩:∃ p,decide ((s.length:Int)>8)=p:=⟨_,rfl⟩
  obtain ⟨r,hr⟩:∃ p,((s.length:Int) != (n0:Int))=p:=⟨_,rfl⟩
  have u2:=a2M p 2;have u5:=a2M q 5;have u6:=a2M r 2;have hA:=c0E n0 s.length;rw [hp,hq,hr] at hA;have cf:a0b C0 47 [.sl true 1 [i64 (if p then 2 else 0),i64 (if q then 5 else 0),i64 (if r then 2 else 0)]] (i64 (b9b n0 s.length:Nat)):=by rw [hA];exact fw3 p q r 2 5 2
  have cs:=c4C s false (Nat.le_trans hsf.1 (by decide)) hsf.2;have hB:b0y n0 s=two (b9b n0 s.length) (a6B a1D s):=rfl;have hat:=fun h=>a6j (f:=b0y n0) ha hs h
  clear hA;generalize b9b n0 s.length=B at *;generalize a6B a1D s=B2 at *;rcases Nat.decEq B 0 with g2|g2
  ·have e3:=b4x g2
   rw [d2J g2] at hB;rw [hat (by omega),hB,if_pos g2] at hE;rw [hE,if_neg g2] at hD;rw [hD,hE];refine goI a1B (ff7 e2 els el0 hp hq hr (ff2 e3 kN)) hm hm0 u2 u5 u6 cf ?_;exact a0a rfl IsPure.out
  have e3:=b5l g2;rw [d0b g2] at hB;rcases Nat.decEq B2 0 with g3|g3
  ·have e4:=b4x g3
   rw [hat (by omega),hB,if_pos g3] at hE;rw [hE,if_neg g3] at hD;rw [hD,hE];refine goI a1B (ff7 e2 els el0 hp hq hr (ff2 e3 kN)) hm hm0 u2 u5 u6 cf ?_;refine goI a1B e4 cs trivial trivial trivial trivial trivial ?_;exact a0a rfl IsPure.out
  have e4:=b5l g3;refine goI a1B (ff7 e2 els el0 hp hq hr (ff2 e3 kN)) hm hm0 u2 u5 u6 cf ?_;refine goI a1B (ff2 e4 wi) cs trivial trivial trivial trivial trivial ?_;exact ⟨(i+1,_),⟨h2,a2e hs ha (by rw [hB,g3])⟩,by dsimp only;omega,wkI⟩
 have e2:=ltF h2
 have:i=v.length:=by omega
 subst this;rw [a2n ha,if_neg (by decide)] at hE;have hz:∀ s∈v,s.length=n0∧0<n0∧n0≤8∧∀ x∈s,a1D x=0:=fun s hs=>by
  obtain ⟨j,hj⟩:=List.getElem?_of_mem (a:=s) (l:=v) hs;exact a5z (ha j s (List.getElem?_eq_some_iff.1 hj).1 hj)
 obtain ⟨-,z0,z8,-⟩:=hz s0 (List.mem_of_getElem? hs0)
 by_cases g2:w.length=v.length
 rotate_left
 ·have e3:=d0k g2
  rw [if_pos g2] at hE;rw [hE,if_neg (by decide)] at hD;rw [hD,hE];refine goI a1B (ff4 e2 el elw e3) trivial trivial trivial trivial trivial trivial ?_;exact a0a rfl IsPure.out
 have e3:=c9Q g2;rw [if_neg (by omega)] at hE;refine goI a1B (ff5 e2 el elw e3 el0) hm0 trivial trivial trivial trivial trivial ?_;refine OkS.loop (α:=Nat × List D × Nat × Nat) (fun p=>⟨[(0,ssB b1 v),(1,wsB b2 w),(11,a6T 2903 p.2.2.1 2 p.2.1),(72,i64 (n0:Int)),(73,i64 (p.1:Int))],a5j 2903 p.2.2.1 46 2 p.2.1,p.2.2.2⟩) (fun p=>n0 - p.1)
  (fun p=>p.1≤n0∧p.2.1=b2a v w p.1∧∀ j,j<p.1→a1Q (a0I v j) w=0) (0,[],0,_) ⟨Nat.zero_le _,rfl,fun j hj=>absurd hj (Nat.not_lt_zero j)⟩ wkI ?_
 rintro ⟨f,L,g3,m2⟩ F ⟨hf,hL,hmz⟩;dsimp only at hf hL hmz ⊢;rcases Nat.lt_or_ge f n0 with h3|h3
 rotate_left
 ·have e4:=ltF h3
  have:f=n0:=by omega
  subst this;rw [a5v hmz] at hE;rw [hE,if_pos rfl] at hD;rw [hD,hE];refine goI a1B e4 trivial trivial trivial trivial trivial trivial ?_;subst hL;exact ⟨_,b5F (a8o (by have:=a9T (H:=[]) (K:=2903) (g:=g3) (T:=46) (sz:=2) (l:=b2a v w f);rwa [List.append_nil] at this) rfl),IsPure.out,rfl⟩
 have e4:=ltT h3;have wf:=wiI (i:=f) (by omega);have hLl:L.length=f:=by rw [hL];unfold b2a;rw [List.length_map,List.length_range]
 have hcv:(a0I v f).length=v.length:=by unfold a0I;rw [List.length_map]
 have hsn:=b1q v w f;rw [← hL] at hsn;clear hL;obtain ⟨AD,hAD⟩:∃ A,a6T 2903 g3 2 L=A:=⟨_,rfl⟩
 obtain ⟨AH,hAH⟩:∃ A,a5j 2903 g3 46 2 L=A:=⟨_,rfl⟩
 rw [hAD,hAH];refine goI a1B (ff2 e4 el) trivial trivial trivial trivial trivial trivial ?_;refine OkS.loopF (α:=Nat × List D × Nat × Nat) (fun p=>⟨[(0,ssB b1 v),(1,wsB b2 w),(11,AD),(12,i64 (f:Int)),(13,a6T 2406 p.2.2.1 2 p.2.1),(72,i64 (n0:Int)),(73,i64 (f:Int)),(76,ssB b1 v),(77,i64 (v.length:Int)),(78,i64 (p.1:Int))],a5j 2406 p.2.2.1 46 2 p.2.1++AH,p.2.2.2⟩) (fun p=>v.length - p.1)
  (fun p F'=>F'=F∧p.1≤v.length∧p.2.1=((a0I v f).take p.1).map SpT.D) (0,[],0,_) ⟨rfl,Nat.zero_le _,rfl⟩ wkI ?_
 rintro ⟨k,M,g4,m3⟩ F' ⟨rfl,hk,hM⟩;dsimp only at hk hM ⊢;rcases Nat.lt_or_ge k v.length with h5|h5
 ·have e5:=ltT h5
  have wk:=wiI (i:=k) (by omega);obtain ⟨s,hs⟩:=a0H h5;have hm:(v.map fun s=>spD false s)[k]? = some (spD false s):=by rw [List.getElem?_map,hs];rfl
  obtain ⟨z1,-,-,z4⟩:=hz s (List.mem_of_getElem? hs);obtain ⟨x,hx⟩:=a0H (l:=s) (i:=f) (by omega);have hgx:s.getD f default=x:=by rw [List.getD_eq_getElem?_getD,hx];rfl
  have hm2:(s.map SpT.D)[f]? = some (.agg [str (sb x.lo),str (sb x.hi)]):=by rw [List.getElem?_map,hx];rfl
  have hsn2:=c0e (f:=f) hs;rw [← hM,hgx] at hsn2;have hMl:M.length=k:=by rw [hM,List.length_map,List.length_take];omega
  clear hM;unfold SpT.D at hsn2;rcases M with _|⟨y,M⟩
  ·dsimp only [a3a,a2V,List.nil_append]
   refine goI a1B (ff3 e5 wk kN) hm hm2 trivial trivial trivial trivial ?_;exact ⟨(k+1,[_],_,_),⟨by trivial,h5,hsn2.symm⟩,by dsimp only;omega,wkI⟩
  ·have htk:List.take (M.length+1) (y::M)=y::M:=by simp
   simp only [List.length_cons] at hMl;dsimp only [a1X,a1W];refine goI a1B (ff4 e5 wk htk kN) hm hm2 trivial trivial trivial trivial ?_;exact ⟨(k+1,y::M++[_],_,_),⟨by trivial,h5,hsn2.symm⟩,by dsimp only;omega,by (dsimp only;rw [a2u];exact wkI)⟩
 have e5:=ltF h5
 have:k=v.length:=by omega
 subst this;rw [← hcv,List.take_length] at hM;have hfc:c3h (a0I v f):=⟨by omega,fun x hx=>by
  unfold a0I at hx;obtain ⟨s,hs,rfl⟩:=List.mem_map.1 hx;obtain ⟨z1,-⟩:=hz s hs;obtain ⟨y,hy⟩:=a0H (l:=s) (i:=f) (by omega);rw [List.getD_eq_getElem?_getD,hy];exact (hv s hs).2 y (List.mem_of_getElem? hy)⟩
 have cM:=d0u false b2 (a0I v f) hfc (by omega) w hw;have hmE:b4e (fun f=>a1Q (a0I v f) w) n0=if a1Q (a0I v f) w≠0 then a1Q (a0I v f) w else b4e (fun f=>a1Q (a0I v f) w) n0:=by
  split
  ·rename_i h
   exact b2l (f:=fun f=>a1Q (a0I v f) w) hmz h3 h
  ·rfl
 refine goI a1B e5 trivial trivial trivial trivial trivial trivial ?_;rw [← hcv];rw [hM];refine a0l.own _ (a0w.lendS cM rfl (d0K (FzS.of (a8o a9T rfl)) (FzS.refl _ _)) inferInstance (b9s _ _)) ?_;rintro d H2 n2 ⟨rfl,rfl,rfl⟩;have hms:∃ x y,a5h (a0I v f) w=.agg [str (sb x),str (sb y)]:=by
  unfold a5h a4J;split<;>exact ⟨_,_,rfl⟩
 obtain ⟨x,y,hxy⟩:=hms;rw [hxy] at hsn ⊢;obtain ⟨N,hN⟩:∃ N,a1Q (a0I v f) w=N:=⟨_,rfl⟩
 rw [hN] at hmE ⊢;clear cM hfc;obtain ⟨y1,M1,hyM⟩:∃ y M,(a0I v f).map SpT.D=y::M:=by
  rcases h:(a0I v f).map SpT.D with _|⟨y,M⟩
  ·have:=congrArg List.length h
   rw [List.length_map,hcv,List.length_nil] at this;omega
  ·exact ⟨_,_,rfl⟩
 rw [hyM];dsimp only [a1X,a1W,List.cons_append,List.nil_append];rcases Nat.decEq N 0 with g5|g5
 ·have e6:=b4x g5
  rw [hmE,if_pos g5] at hE;rw [hE,if_neg g5] at hD;rw [hD,hE];refine goI a1B e6 trivial trivial trivial trivial trivial trivial ?_;exact a0a rfl IsPure.out
 have e6:=b5l g5;have hmz2:∀ j,j<f+1→a1Q (a0I v j) w=0:=fun j hj=>by
  rcases Nat.lt_or_ge j f with h|h
  ·exact hmz j h
  ·rw [show j=f by omega,hN];exact g5
 subst hAD hAH;rcases L with _|⟨z,L⟩
 ·dsimp only [a3a,a2V,List.nil_append]
  refine goI a1B (ff3 e6 wf kN) trivial trivial trivial trivial trivial trivial ?_;exact ⟨(f+1,[_],_,_),⟨h3,hsn.symm,hmz2⟩,by dsimp only;omega,wkI⟩
 ·have htk:List.take (L.length+1) (z::L)=z::L:=by simp
  simp only [List.length_cons] at hLl;dsimp only [a1X,a1W];refine goI a1B (ff4 e6 wf htk kN) trivial trivial trivial trivial trivial trivial ?_;exact ⟨(f+1,z::L++[_],_,_),⟨h3,hsn.symm,hmz2⟩,by dsimp only;omega,by (dsimp only;rw [a2u];exact wkI)⟩
theorem c6b {c:Int}(h:(Lit.int .u8 c).wf=true):0≤c∧c<256:=by
 simp only [Lit.wf,Bool.and_eq_true,decide_eq_true_eq] at h;have h1:IntKind.u8.min=0:=by kernel_rfl
 have h2:IntKind.u8.max=255:=by kernel_rfl
 rw [h1,h2] at h;omega
section
variable {H:Type} {enc:TypeId × Value→H} {W:World} {fuel:Nat} {cs:List Value} {x:DataW H × List MemPlace} {t:TypeId}
theorem c3D (h:DataW.trod enc Tryz.prog W 0 (fun _=>true) true fuel 46 cs=some x):∃ s:SpT,a6U W cs s.D.cells∧True:=by
 obtain ⟨h1,n,h2⟩:=d0q (l:=[(44,0,1),(44,1,1)]) (m:=2) (by kernel_rfl) (by kernel_rfl) h;obtain ⟨y0,k0⟩:=h2 0 _ _ _ rfl;obtain ⟨y1,k1⟩:=h2 1 _ _ _ rfl;obtain ⟨a0,r0,_⟩:=c2O k0;obtain ⟨a1,r1,_⟩:=c2O k1;exact ⟨⟨a0,a1⟩,c8P h1 (c5x (b:=1) (c:=1) r0 r1),trivial⟩
theorem b9B (h:DataW.trod enc Tryz.prog W 0 (fun _=>true) true fuel 38 cs=some x):∃ l:List SpT,a6U W cs [spD false l]∧(∀ a∈l,True)∧l.length≤maxLen :=
 c3k (g:=SpT.D) (ok:=fun _=>True) (e:=46) (sz:=2) (by kernel_rfl) (by kernel_rfl) (by decide) (fun _ _ _ h=>c3D h) h
theorem b6I (h:DataW.trod enc Tryz.prog W 0 (fun _=>true) true fuel 36 cs=some x):∃ l:List (List SpT),a6U W cs [ssD l]∧(∀ a∈l,a.length≤maxLen)∧l.length≤maxLen :=
 c3k (g:=fun s=>spD false s) (ok:=fun s=>s.length≤maxLen) (e:=38) (by kernel_rfl) (by kernel_rfl) (by decide) (fun _ _ _ h=>by
  obtain ⟨l,r,_,hl⟩:=b9B h;exact ⟨l,r,hl⟩) h
theorem c4L (h:DataW.trod enc Tryz.prog W 0 (fun _=>true) true fuel 37 cs=some x):∃ l:List Int,a6U W cs [wsD l]∧(∀ a∈l,True)∧l.length≤maxLen :=
 c3k (g:=fun x=>i64 x) (ok:=fun _=>True) (e:=3) (by kernel_rfl) (by kernel_rfl) (by decide) (fun _ _ _ h=>by
  obtain ⟨z,r⟩:=c6O h;exact ⟨z,r,trivial⟩) h
end
set_option maxHeartbeats 8000000
theorem c0Y {l:List UInt8}(h:chk l=0):rR (a0q l)=str (sb l):=by unfold rR;rw [(a2x h).2.2.1]
theorem c8b {a b:Rat}{i j:Nat}(ha:rk a i)(hb:rk b j)(h0:b≠0):rk (a / b) (i+j):=by
 rw [Rat.div_def];exact b0T ha (c1Z hb h0)
set_option maxHeartbeats 4000000
theorem b0M (n:Nat):a0V (Lib.decDigits n)=true:=by
 obtain ⟨h1,h2,h3⟩:=a1k n;rcases Nat.eq_zero_or_pos n with h|h
 ·have e:Lib.decDigits n=[48]:=by
   have:=b0o 0
   rw [h];exact of_decide_eq_true (this.trans (decide_eq_true rfl))
  rw [e];rfl
 ·obtain ⟨c,l,e,hc⟩:=b9y (Nat.pos_iff_ne_zero.1 h)
  rw [e] at h1 ⊢;unfold a0V c2e;rw [h1];simp [hc]
theorem b7d {n:Nat}{l:List UInt8}(h:n≠dv l):decide (Lib.decDigits n=l)=false:=decide_eq_false fun e=>h (by rw [← e,(a1k n).2.1])
theorem b0p {r:Rat}(h:a7a r=false):chk (txt r)=0:=by
 have hs:a0M (txt r)=Lib.decDigits r.num.natAbs:=by unfold a0M;rw [a5U,(a4u _).2]
 have hd:=a5e r;have hh:=a6e r;unfold a7a at h;simp only [Bool.or_eq_false_iff,decide_eq_false_iff_not] at h;have hb:a3B (txt r)=false:=by
  rw [a4s,hs,a9L,hh,b0M];have e1:(decide (r.num<0)&&decide (Lib.decDigits r.num.natAbs=[48]))=false:=by
   by_cases g:r.num<0
   ·rw [b7d (show r.num.natAbs≠dv [48] by show r.num.natAbs≠0;omega),Bool.and_false]
   ·rw [decide_eq_false g,Bool.false_and]
  rw [e1]
  by_cases g:r.den=1
  ·rw [decide_eq_true g];rfl
  ·rw [hd,if_neg g,b0M,b7d (show r.den≠dv [48] from r.den_nz),b7d (show r.den≠dv [49] from g),decide_eq_false g];rfl
 unfold chk;rw [hb,if_neg (by decide),hs]
 by_cases g:r.den=1
 ·rw [hd,if_pos g,hh,decide_eq_true g,if_neg (by simp;omega),if_neg (fun k=>absurd k.1 (by decide))]
 ·rw [hd,if_neg g,(a1k _).2.1,(a1k _).2.1,if_neg (by omega),if_neg (fun k=>k.2 r.reduced)]
theorem a2r (r:Rat):a0q (txt r)=r:=by
 unfold a0q b3b;rw [a5U,b8m,a6e,a5e]
 by_cases g:r.den=1
 ·rw [decide_eq_true g]
  show mkRat r.num 1=r;rw [← g];exact Rat.mkRat_self r
 ·rw [decide_eq_false g,if_neg g,(a1k _).2.1]
  exact Rat.mkRat_self r
end Go.Ide
