/- The layer of own lemmas and contracts, part 12. -/
import Derived.Test.YtpehlicnhjoknabGreatDoorP11
import Derived.Test.YtpehlicnhjoknabGreatDoorP6
import Derived.Test.YtpehlicnhjoknabGreatDoorP10
import Derived.Test.YtpehlicnhjoknabGreatDoorP3
set_option linter.unusedVariables false
set_option linter.unusedSimpArgs false
namespace Go.Ide
open Go.Proofs Go.RowKit
set_option maxRecDepth 20000
set_option maxHeartbeats 4000000
def txt (r:Rat):List UInt8:=if r.den=1 then Lib.itoa r.num else Lib.itoa r.num++47::Lib.decDigits r.den
def qZ (x y:Int):Rat:=mkRat (if y<0 then -x else x) y.natAbs
theorem a9R {x:Int}{d:Nat}(hd:d≠0):(mkRat x d).num=sg (decide (x<0)) (x.natAbs / Nat.gcd x.natAbs d)∧(mkRat x d).den=d / Nat.gcd x.natAbs d:=by
 rw [mkRat,dif_neg hd,Rat.normalize_eq];refine ⟨?_,rfl⟩;dsimp only;have hg:0<Nat.gcd x.natAbs d:=Nat.gcd_pos_of_pos_right _ (Nat.pos_of_ne_zero hd);obtain ⟨p,hp⟩:=Nat.gcd_dvd_left x.natAbs d;have e1:x.natAbs / Nat.gcd x.natAbs d=p:=by
  refine Nat.div_eq_of_eq_mul_right hg hp
 have e2:x=(Nat.gcd x.natAbs d:Int)*sg (decide (x<0)) p:=by
  have h0:(x.natAbs:Int)=(Nat.gcd x.natAbs d:Int)*(p:Int):=by rw [← Int.natCast_mul,← hp]
  unfold sg
  by_cases hx:x<0
  ·rw [decide_eq_true hx,if_pos rfl,Int.mul_neg,← h0];omega
  ·rw [decide_eq_false hx,if_neg (by decide),← h0];omega
 rw [e1]
 conv=>lhs;arg 1;rw [e2]
 rw [Int.mul_ediv_cancel_left _ (by omega)]
theorem b3S (q:Nat):((((((a0p q).map a0q).length:Nat):Int)==1)=true∧∃ a,(a0p q)[0]? = some a∧(((a:Nat):Int)==1)=decide (q=1))∨((((((a0p q).map a0q).length:Nat):Int)==1)=false∧q≠1):=by
 rw [List.length_map]
 by_cases h:(a0p q).length=1
 ·refine .inl ⟨beq_iff_eq.2 (by omega),?_⟩
  obtain ⟨a,ha⟩:=a3g (l:=a0p q) (i:=0) (by omega);refine ⟨a,ha,?_⟩;have e:a0p q=[a]:=by
   obtain ⟨b,hb⟩:=List.length_eq_one_iff.1 h;rw [hb] at ha ⊢;cases ha;rfl
  have e2:q=a:=by rw [← a0r q,e];simp [a0h]
  rw [e2];rw [Bool.eq_iff_iff,beq_iff_eq,decide_eq_true_iff];omega
 ·refine .inr ⟨beq_eq_false_iff_ne.2 (by omega),fun hq=>h ?_⟩
  rw [hq,a3M (by decide) (by decide)];rfl
theorem b5u (x y:Int)(hy0:y≠0)(hx:b3D x)(hy:b3D y):a0b C0 86 [rZ x,rZ y] (str (sb (txt (qZ x y)))):=by
 refine a0c.walk w1 d2I rfl fun F=>?_
 unfold qZ;refine sR 0 ?_;refine OkS.seqX (α:=Nat) (fun n=>⟨[(2,.optr 0 0 2 0 0),(3,.optr 1 1 2 0 0)],[⟨1,1,154,2,[.agg [boo false,rD y.natAbs]]⟩,⟨0,0,154,2,[rZ (if y<0 then -x else x)]⟩],n⟩) (fun _=>True) ?_ ?_
 ·by_cases h:y<0
  ·have cx:=b9c x hx
   have cy:=b9c y hy;have e1:rZ (-y)=.agg [boo false,rD y.natAbs]:=by
    show D.agg [boo (decide (-y<0)),rD (-y).natAbs]=_;rw [decide_eq_false (by omega),Int.natAbs_neg]
   rw [e1] at cy;rw [if_pos h];refine sZ 100 ?_;refine nwI (decide_eq_true h) ?_;refine ifI ?_;refine OkS.regD w1 200 [0,1,2] [3,4,5] (by kernel_rfl) ?_;refine gwI kN ?_;refine a0o.same _ cx inferInstance ?_;refine gwI kN ?_;refine a0k.same _ cy inferInstance ?_;refine stI ?_;exact ⟨trivial,_,trivial,wkI⟩
  ·have e1:rZ y=.agg [boo false,rD y.natAbs]:=by
    show D.agg [boo (decide (y<0)),rD y.natAbs]=_;rw [decide_eq_false h]
   rw [if_neg h];refine sZ 100 ?_;refine nwI (decide_eq_false h) ?_;refine ifI ?_;refine skI ?_;refine ⟨rfl,5,trivial,?_⟩;rw [← e1];exact wkI
 rintro n0 -;obtain ⟨z,hz⟩:∃ z,z=(if y<0 then -x else x):=⟨_,rfl⟩
 have hza:z.natAbs=x.natAbs:=by rw [hz];split<;>omega
 obtain ⟨d,hd⟩:∃ d,d=y.natAbs:=⟨_,rfl⟩
 have hd0:d≠0:=by omega
 unfold b3D at hx hy;rw [← hza] at hx;rw [← hd] at hy;rw [← hz,← hd];clear hz hza hd hy0;clear x y;have cg:=b3N z.natAbs d hx hy;obtain ⟨qn,qd⟩:=a9R (x:=z) hd0;have hg:0<Nat.gcd z.natAbs d:=Nat.gcd_pos_of_pos_right _ (Nat.pos_of_ne_zero hd0);have hgl:(a0p (Nat.gcd z.natAbs d)).length<1000000:=Nat.lt_of_le_of_lt (a0C _ _ (Nat.gcd_le_right _ (Nat.pos_of_ne_zero hd0))) hy;have c4:=d2e z.natAbs (Nat.gcd z.natAbs d) (by omega) hx hgl;have c5:a0b C0 155 [rD d,rD (Nat.gcd z.natAbs d)] (.tup [.sl false 1 ((a0p (d / Nat.gcd z.natAbs d)).map a0q),rD (d%Nat.gcd z.natAbs d)]):=d2e d (Nat.gcd z.natAbs d) (by omega) hy hgl;have hpl:(a0p (z.natAbs / Nat.gcd z.natAbs d)).length<1000000:=Nat.lt_of_le_of_lt (a0C _ _ (Nat.div_le_self _ _)) hx;have hql:(a0p (d / Nat.gcd z.natAbs d)).length<1000000:=Nat.lt_of_le_of_lt (a0C _ _ (Nat.div_le_self _ _)) hy;have etx:txt (mkRat z d)=if d / Nat.gcd z.natAbs d=1 then Lib.itoa (sg (decide (z<0)) (z.natAbs / Nat.gcd z.natAbs d)) else Lib.itoa (sg (decide (z<0)) (z.natAbs / Nat.gcd z.natAbs d))++47::Lib.decDigits (d / Nat.gcd z.natAbs d):=by
  unfold txt;rw [qn,qd]
 rw [etx];clear etx qn qd hg hgl;generalize z.natAbs / Nat.gcd z.natAbs d=p at *;generalize d / Nat.gcd z.natAbs d=q at *;generalize z.natAbs%Nat.gcd z.natAbs d=r1 at *;generalize d%Nat.gcd z.natAbs d=r2 at *;generalize Nat.gcd z.natAbs d=gg at *;have c6:=a3O (decide (z<0)) p (by omega);have hab:(sg (decide (z<0)) p).natAbs=p:=by unfold sg;split<;>omega
 have c7:=c1M (sg (decide (z<0)) p) (by unfold b3D;rw [hab];exact hpl);have c8:=a3O false q (by omega);have c9:=c1M (sg false q) (by unfold b3D;show (a0p q).length<1000000;exact hql);have e9:Lib.itoa (sg false q)=Lib.decDigits q:=by rw [b7v false q (by simp)];rfl
 rw [e9] at c9;have l1:=a7P (a0z p);rw [a0r] at l1;have l2:=a7P (a0z q);rw [a0r] at l2;have l3:(Lib.itoa (sg (decide (z<0)) p)).length≤(Lib.decDigits p).length+1:=by
  unfold Lib.itoa;split
  ·rw [hab,List.length_cons];exact Nat.le_refl _
  ·rw [show (sg (decide (z<0)) p).toNat=p by omega];omega
 generalize sg (decide (z<0)) p=pz at *;have s1:=a0t (Lib.itoa pz);have s2:=a0t (Lib.decDigits q);have s3:(⟨#[47]⟩:ByteArray).size=1:=rfl;have s4:(sb (Lib.itoa pz)++(⟨#[47]⟩:ByteArray)).size=(sb (Lib.itoa pz)).size+(⟨#[47]⟩:ByteArray).size:=ByteArray.size_append;generalize Lib.itoa pz=t1 at *;generalize Lib.decDigits q=t2 at *;refine sR 300 ?_;refine cI cg ?_;refine sR 400 ?_;refine cI c4 ?_;refine sR 500 ?_;refine cI c5 ?_;refine sR 600 ?_;refine cI c6 ?_;refine cI c7 ?_;have ht:=b3S q;rcases ht with ⟨h1,a,ha,h2⟩|⟨h1,h2⟩
 ·have ha':=a6u ha
  refine OkS.seq ?_;refine sZ 700 ?_;refine gwI h1 ?_;refine ixI kT ha' ?_;refine gwI (ff2 h1 h2) ?_
  by_cases hq:q=1
  ·rw [decide_eq_true hq,if_pos hq]
   refine ifI ?_;refine sR 800 ?_;refine rtI ?_;exact a0a rfl IsPure.out
  ·rw [decide_eq_false hq,if_neg hq]
   refine ifI ?_;refine skI ?_;refine sR 900 ?_;refine a0k.same _ c8 inferInstance ?_;refine stI ?_;refine a0k.same _ c9 inferInstance ?_;refine stI ?_;refine rtI ?_;refine a0a ?_ IsPure.out;show str ((⟨t1.toArray⟩++⟨([47]:List UInt8).toArray⟩:ByteArray)++⟨t2.toArray⟩)=_;rw [a4I,a4I,List.append_assoc];rfl
 ·rw [if_neg h2]
  refine OkS.seq ?_;refine sZ 700 ?_;refine nwI h1 ?_;refine gwI kF ?_;refine ifI ?_;refine skI ?_;refine sR 900 ?_;refine a0k.same _ c8 inferInstance ?_;refine stI ?_;refine a0k.same _ c9 inferInstance ?_;refine stI ?_;refine rtI ?_;refine a0a ?_ IsPure.out;show str ((⟨t1.toArray⟩++⟨([47]:List UInt8).toArray⟩:ByteArray)++⟨t2.toArray⟩)=_;rw [a4I,a4I,List.append_assoc];rfl
set_option maxHeartbeats 2000000
theorem b0o (k:Nat)(h:k<10):(UInt8.ofNat (48+k)).toNat=48+k:=by
 rw [UInt8.toNat_ofNat'];omega
theorem a1N:∀ n:Nat,(Lib.decDigits n).all a0y=true∧dv (Lib.decDigits n)=n∧(Lib.decDigits n)≠[]:=fun n=>by
 induction n using Nat.strongRecOn with
 | _ n ih =>
  have one:∀ k,k<10→a0y (UInt8.ofNat (48+k))=true:=fun k hk=>by
   unfold a0y;rw [b0o k hk,Bool.and_eq_true];exact ⟨Nat.ble_eq_true_of_le (by omega),Nat.ble_eq_true_of_le (by omega)⟩
  have vone:∀ k,k<10→dv [UInt8.ofNat (48+k)]=k:=fun k hk=>by
   show 0*10+((UInt8.ofNat (48+k)).toNat - 48)=k;rw [b0o k hk];omega
  rw [Lib.decDigits];split
  ·rename_i h
   exact ⟨by rw [List.all_cons,one n h];rfl,vone n h,by simp⟩
  ·rename_i h
   obtain ⟨h1,h2,h3⟩:=ih (n / 10) (by omega);refine ⟨by rw [List.all_append,h1,List.all_cons,one _ (Nat.mod_lt _ (by decide))];rfl,?_,by simp⟩;rw [a4H,h2,vone _ (Nat.mod_lt _ (by decide)),List.length_singleton];omega
theorem c8v {c:UInt8}(h:a0y c=true):c≠47∧c≠45:=by
 obtain ⟨h1,h2⟩:=a2s h;exact ⟨fun hh=>by subst hh;simp at h1,fun hh=>by subst hh;simp at h1⟩
theorem a5P (z:Int):a1R (Lib.itoa z)=decide (z<0)∧a0l (Lib.itoa z)=Lib.decDigits z.natAbs:=by
 unfold Lib.itoa
 by_cases h:z<0
 ·rw [if_pos h,decide_eq_true h]
  exact ⟨rfl,rfl⟩
 ·rw [if_neg h,decide_eq_false h,show z.toNat=z.natAbs by omega]
  have h1:=a6q (a1N z.natAbs).1;exact ⟨h1,a1I (a1N z.natAbs).1⟩
theorem c5K (z:Int):rv (Lib.itoa z)=z:=by
 unfold rv;rw [(a5P z).1,(a5P z).2,(a1N z.natAbs).2.1]
 by_cases h:z<0
 ·rw [decide_eq_true h,if_pos rfl];omega
 ·rw [decide_eq_false h,if_neg (by decide)];omega
theorem a6I (z:Int):∀ c∈Lib.itoa z,(c != 47)=true:=fun c hc=>by
 have hd:∀ n,∀ c∈Lib.decDigits n,(c != 47)=true:=fun n c h=>by
  have:=(c8v (List.all_eq_true.1 (a1N n).1 c h)).1
  simpa using this
 unfold Lib.itoa at hc;split at hc
 ·rcases List.mem_cons.1 hc with rfl|h
  ·rfl
  ·exact hd _ c h
 ·exact hd _ c hc
theorem a3R {p:UInt8→Bool}:∀ {l:List UInt8} (m:List UInt8),(∀ c∈l,p c=true)→(l++m).takeWhile p=l++m.takeWhile p
 | [],_,_=>rfl
 | a::l,m,h=>by
  rw [List.cons_append,List.takeWhile_cons,if_pos (h a List.mem_cons_self),a3R m fun c hc=>h c (List.mem_cons_of_mem _ hc)];rfl
theorem a4C (r:Rat):a0d (txt r)=(Lib.itoa r.num).length:=by
 unfold a0d txt;split
 ·have:=a3R (p:=(· != 47)) [] (a6I r.num)
  rw [List.append_nil] at this;rw [this];simp
 ·rw [a3R (p:=(· != 47)) _ (a6I r.num)]
  simp
theorem b3o (r:Rat):a2k (txt r)=Lib.itoa r.num:=by
 unfold a2k;rw [a4C];unfold txt;split
 ·exact List.take_of_length_le (Nat.le_refl _)
 ·exact List.take_left' rfl
theorem b0y (r:Rat):a1x (txt r)=if r.den=1 then [] else Lib.decDigits r.den:=by
 unfold a1x;rw [a4C];unfold txt;split
 ·exact List.drop_of_length_le (Nat.le_succ _)
 ·rw [List.drop_append]
  rw [List.drop_of_length_le (Nat.le_succ _),Nat.add_sub_cancel_left];rfl
theorem b9w (r:Rat):a4g (txt r) = !decide (r.den=1):=by
 unfold a4g;rw [a4C];unfold txt
 by_cases h:r.den=1
 ·rw [if_pos h,decide_eq_true h,decide_eq_false (by omega)];rfl
 ·rw [if_neg h,decide_eq_false h,List.length_append,List.length_cons,decide_eq_true (by omega)];rfl
theorem b4I (r:Rat):c8Y (txt r)=r.num:=by unfold c8Y;rw [b3o,c5K]
theorem c0K (r:Rat):c8M (txt r)=r.den:=by
 unfold c8M;rw [b9w,b0y]
 by_cases h:r.den=1
 ·rw [decide_eq_true h,h];rfl
 ·rw [decide_eq_false h,if_neg h,if_pos (show (!false)=true from rfl),a9i (a1N _).1,(a1N _).2.1]
theorem b4J (r:Rat):(a0l (a2k (txt r))).all a0y=true:=by rw [b3o,(a5P _).2];exact (a1N _).1
theorem b4b (r:Rat):(a0l (a1x (txt r))).all a0y=true:=by
 rw [b0y];split
 ·rfl
 ·rw [a1I (a1N _).1];exact (a1N _).1
theorem b8N (z:Int):Lib.itoa z≠[]:=by
 unfold Lib.itoa;split
 ·simp
 ·exact (a1N _).2.2
theorem c2e (r:Rat):txt r≠[]:=by
 unfold txt;split
 ·exact b8N _
 ·simp
theorem b2A (r:Rat):a1R (txt r)=decide (r.num<0):=by
 rw [← (a5P r.num).1];unfold txt;split
 ·rfl
 ·have:=b8N r.num
  cases h:Lib.itoa r.num with
  | nil=>exact absurd h this
  | cons c l=>rfl
theorem b4y (r:Rat):decide (txt r=[48])=decide (r.num=0):=by
 refine decide_eq_decide.2 ⟨fun h=>?_,fun h=>?_⟩
 ·have h1:=b4I r
  rw [h] at h1;rw [← h1];decide
 ·have:r.den=1:=by
   have:=r.reduced
   rw [h] at this;simpa using this
  unfold txt;rw [if_pos this,h];show Lib.decDigits 0=[48];rw [Lib.decDigits,dif_pos (by decide)];rfl
abbrev rR (r:Rat):D:=str (sb (txt r))
def c0F (r:Rat):Prop:=(txt r).length≤1000000
theorem b7e (r:Rat)(hl:c0F r):a0b C0 78 [rR r] (i64 (a7W r)):=by
 refine a0c.walk w1 d1Z rfl fun F=>?_
 have hsz:=a0t (txt r);unfold c0F at hl;have ez:=a4Y (txt r) [48];rw [b4y] at ez;have en:=b2A r;refine sR 0 ?_;refine OkS.seq ?_;refine OkS.seq ?_;have ez2:a1t (sb (txt r)) ⟨#[48]⟩=decide (r.num=0):=ez;have hne:=c2e r;refine OkS.reg w1 100 (by kernel_rfl) ?_;refine nwI ez2 ?_
 by_cases h0:r.num=0
 ·rw [decide_eq_true h0]
  refine ifI ?_;refine sR 200 ?_;refine rtI ?_;exact a0a (by unfold a7W;rw [h0];rfl) IsPure.out
 ·rw [decide_eq_false h0]
  have hpos:0<(txt r).length:=List.length_pos_iff.2 hne;have e0:decide (((sb (txt r)).size:Int)>0)=true:=decide_eq_true (by omega);have e1:((((txt r).getD (Int.toNat 0) 0).toNat:Int)==45)=decide (r.num<0):=by
   rw [← en];cases ht:txt r with
   | nil=>exact absurd ht hne
   | cons c l=>exact a7b c l
  refine ifI ?_;refine skI ?_;refine OkS.seq ?_;refine sZ 300 ?_;refine gwI e0 ?_;refine gwI (ff3 kT e0 e1) ?_
  by_cases hn:r.num<0
  ·rw [decide_eq_true hn]
   refine ifI ?_;refine sR 400 ?_;refine rtI ?_;exact a0a (by unfold a7W;congr 3;omega) IsPure.out
  ·rw [decide_eq_false hn]
   refine ifI ?_;refine skI ?_;refine sR 500 ?_;refine rtI ?_;exact a0a (by unfold a7W;congr 3;omega) IsPure.out
theorem b0q {r:Rat}(h:r.num<0):(txt r).drop 1=txt (-r)∧(txt (-r)).length+1=(txt r).length:=by
 have e:Lib.itoa r.num=45::Lib.itoa (-r.num):=by
  unfold Lib.itoa;rw [if_pos h,if_neg (by omega),show (-r.num).toNat=r.num.natAbs by omega]
 have e2:txt r=45::txt (-r):=by
  unfold txt;rw [Rat.neg_den,Rat.neg_num,e];split<;>rfl
 rw [e2];exact ⟨rfl,rfl⟩
theorem c0q {r:Rat}(h:0<r.num):txt (-r)=45::txt r:=by
 obtain ⟨h1,h2⟩:=b0q (r:=-r) (by rw [Rat.neg_num];omega);rw [Rat.neg_neg] at h1;have h3:=b2A (-r);rw [decide_eq_true (by rw [Rat.neg_num];omega)] at h3;cases ht:txt (-r) with
 | nil=>rw [ht] at h3;cases h3
 | cons c l =>
  rw [ht] at h1 h3
  have:c=45:=by simpa [a1R] using h3
  rw [this,← h1];rfl
theorem c5N (r:Rat):decide (a7W r<0)=decide (r.num<0):=decide_eq_decide.2 (by unfold a7W;omega)
theorem c3Z (r:Rat):(a7W r==0)=decide (r.num=0):=by
 rw [Bool.eq_iff_iff,beq_iff_eq,decide_eq_true_iff];unfold a7W;omega
theorem d1y (r:Rat)(hl:c0F r):a0b C0 79 [rR r] (rR (-r)):=by
 refine a0c.walk w1 d2H rfl fun F=>?_
 have hsz:=a0t (txt r);have cs:=b7e r hl;unfold c0F at hl;have e1:=c5N r;have e2:=c3Z r;refine sR 0 ?_;refine OkS.seq ?_;refine sR 100 ?_;refine cI cs ?_;rw [e1]
 by_cases h:r.num<0
 ·obtain ⟨t1,t2⟩:=b0q h
  have ee:(sb (txt r)).extract (Int.toNat 1) (txt r).length=sb (txt (-r)):=by
   rw [a2b,List.take_of_length_le (Nat.le_refl _),← t1];rfl
  rw [decide_eq_true h];refine ifI ?_;refine sZ 200 ?_;refine gwI (ff2 hsz kN) ?_;rw [ee];refine rtI ?_;exact a0a rfl IsPure.out
 ·rw [decide_eq_false h]
  refine ifI ?_;refine skI ?_;refine OkS.seq ?_;refine sR 300 ?_;refine cI cs ?_;rw [e2]
  by_cases h0:r.num=0
  ·rw [decide_eq_true h0]
   refine ifI ?_;refine sR 400 ?_;refine rtI ?_;refine a0a ?_ IsPure.out
   have:r=0:=Rat.num_eq_zero.1 h0
   rw [this];rfl
  ·have tp:=c0q (r:=r) (by omega)
   have z3:(⟨#[45]⟩:ByteArray).size=1:=rfl;rw [decide_eq_false h0];refine ifI ?_;refine skI ?_;refine sR 500 ?_;refine rtI ?_;refine a0a ?_ IsPure.out;show str ((⟨([45]:List UInt8).toArray⟩:ByteArray)++⟨(txt r).toArray⟩)=str (sb (txt (-r)));rw [a4I,tp];rfl
def a5i (r:Rat):Rat:=if r.num<0 then -r else r
theorem a7c (r:Rat):(a5i r).num=r.num.natAbs∧(a5i r).den=r.den:=by
 unfold a5i;split
 ·rw [Rat.neg_num,Rat.neg_den];exact ⟨by omega,rfl⟩
 ·exact ⟨by omega,rfl⟩
def qk (r:Rat):Bool:=!decide (20<(txt r).length) && !(decide (9<a0d (txt (a5i r)))||decide (10<(txt (a5i r)).length - a0d (txt (a5i r))))
theorem c0P (r:Rat):(txt (a5i r)).length≤(txt r).length:=by
 unfold a5i;split
 ·rename_i h
  have:=(b0q h).2
  omega
 ·exact Nat.le_refl _
theorem a7I (r:Rat):Lib.itoa (a5i r).num=Lib.decDigits r.num.natAbs:=by
 rw [(a7c r).1];unfold Lib.itoa;rw [if_neg (by omega)];rfl
theorem b0v {r:Rat}(h:qk r=true):r.num.natAbs<10^9∧r.den<10^9:=by
 unfold qk at h;simp only [Bool.and_eq_true,Bool.not_eq_true',Bool.or_eq_false_iff,decide_eq_false_iff_not] at h;obtain ⟨h1,h2,h3⟩:=h;have hs:=a4C (a5i r);rw [a7I] at hs;have hd:=b0y (a5i r);rw [(a7c r).2] at hd;have hdl:(a1x (txt (a5i r))).length=(txt (a5i r)).length - (a0d (txt (a5i r))+1):=by unfold a1x;rw [List.length_drop]
 have d1:=a5j _ (a1N r.num.natAbs).1;have d2:=a5j _ (a1N r.den).1;rw [(a1N _).2.1] at d1 d2;refine ⟨Nat.lt_of_lt_of_le d1 (Nat.pow_le_pow_right (by decide) (by omega)),?_⟩
 by_cases h1:r.den=1
 ·rw [h1];decide
 ·rw [if_neg h1] at hd
  rw [hd] at hdl;exact Nat.lt_of_lt_of_le d2 (Nat.pow_le_pow_right (by decide) (by omega))
theorem b7Y (r:Rat)(hl:c0F r):a0b C0 83 [rR r] (.tup [i64 (if qk r then r.num else 0),i64 (if qk r then (r.den:Int) else 0),boo (qk r)]):=by
 refine a0c.walk w1 d1v rfl fun F=>?_
 have hsz:=a0t (txt r);unfold c0F at hl;have hne:=c2e r;have hpos:0<(txt r).length:=List.length_pos_iff.2 hne;refine sR 0 ?_;refine sR 100 ?_;refine OkS.seq ?_;refine OkS.seq ?_
 by_cases h20:20<(txt r).length
 ·have e2:decide (((txt r).length:Int)>20)=true:=decide_eq_true (by omega)
  have eq:qk r=false:=by unfold qk;rw [decide_eq_true h20];rfl
  rw [eq];refine OkS.reg w1 200 (by kernel_rfl) ?_;refine nwI (ff2 hsz e2) ?_;refine ifI ?_;refine sR 300 ?_;refine rtI ?_;exact a0a rfl IsPure.out
 ·have e2:decide (((txt r).length:Int)>20)=false:=decide_eq_false (by omega)
  have eq:qk r = !(decide (9<a0d (txt (a5i r)))||decide (10<(txt (a5i r)).length - a0d (txt (a5i r)))):=by unfold qk;rw [decide_eq_false h20];rfl
  have en:=b2A r;refine OkS.reg w1 200 (by kernel_rfl) ?_;refine nwI (ff2 hsz e2) ?_;refine ifI ?_;refine skI ?_;refine OkS.seqX (α:=Nat) (fun n=>⟨[(5,rR r),(6,boo (decide (r.num<0)))],[],n⟩) (fun _=>True) ?_ ?_
  ·have e0:decide (((sb (txt r)).size:Int)>0)=true:=decide_eq_true (by omega)
   have e1:((((txt r).getD (Int.toNat 0) 0).toNat:Int)==45)=decide (r.num<0):=by
    rw [← en];cases ht:txt r with
    | nil=>exact absurd ht hne
    | cons c l=>exact a7b c l
   refine OkS.reg w1 400 (by kernel_rfl) ?_;refine gwI e0 ?_;refine gwI (ff3 kT e0 e1) ?_;exact ⟨trivial,_,trivial,wkI⟩
  rintro n0 -;refine OkS.seqX (α:=Nat) (fun n=>⟨[(5,rR (a5i r)),(6,boo (decide (r.num<0)))],[],n⟩) (fun _=>True) ?_ ?_
  ·refine sR 500 ?_
   by_cases h:r.num<0
   ·obtain ⟨t1,t2⟩:=b0q h
    have ea:a5i r = -r:=by unfold a5i;rw [if_pos h]
    have ee:(sb (txt r)).extract (Int.toNat 1) (txt r).length=sb (txt (a5i r)):=by
     rw [ea,a2b,List.take_of_length_le (Nat.le_refl _),← t1];rfl
    rw [decide_eq_true h];refine ifI ?_;refine OkS.reg w1 600 (by kernel_rfl) ?_;refine gwI (ff2 hsz kN) ?_;rw [ee];exact ⟨trivial,_,trivial,wkI⟩
   ·have ea:a5i r=r:=by unfold a5i;rw [if_neg h]
    rw [decide_eq_false h,ea];refine ifI ?_;refine skI ?_;exact ⟨rfl,_,trivial,wkI⟩
  rintro n1 -;have hal:=c0P r;have hsa:=a4C (a5i r);rw [a7I] at hsa;have hn:=b3o (a5i r);rw [a7I] at hn;have hd:=b0y (a5i r);rw [(a7c r).2] at hd;have hh:=b9w (a5i r);rw [(a7c r).2] at hh;unfold a4g at hh;have hle:=a2o (txt (a5i r));have cs:=b2Z (txt (a5i r)) (by omega);have hszA:=a0t (txt (a5i r));clear hsz hne hpos e2 en;generalize hT:txt (a5i r)=T at *;have eR:rR (a5i r)=str (sb T):=by rw [← hT]
  rw [eR];clear hT eR;refine sR 700 ?_;refine cI cs ?_;have w8:IntKind.i64.wrap ((T.length:Int) - (a0d T:Int))=((T.length - a0d T:Nat):Int):=by rw [wI (by omega) (by omega)];omega
  have eb:decide (((T.length - a0d T:Nat):Int)>10)=decide (10<T.length - a0d T):=decide_eq_decide.2 (by omega)
  by_cases h9:9<a0d T
  ·have e8:decide ((a0d T:Int)>9)=true:=decide_eq_true (by omega)
   rw [decide_eq_true h9] at eq;have eq2:qk r=false:=eq;rw [eq2];refine OkS.seq ?_;refine sZ 800 ?_;refine nwI e8 ?_;refine gwI kT ?_;refine ifI ?_;refine sR 900 ?_;refine rtI ?_;exact a0a rfl IsPure.out
  have e8:decide ((a0d T:Int)>9)=false:=decide_eq_false (by omega);rw [decide_eq_false h9] at eq
  by_cases h10:10<T.length - a0d T
  ·rw [decide_eq_true h10] at eq eb
   have eq2:qk r=false:=eq;rw [eq2];refine OkS.seq ?_;refine sZ 800 ?_;refine nwI e8 ?_;refine gwI (ff4 kF hszA w8 eb) ?_;refine ifI ?_;refine sR 900 ?_;refine rtI ?_;exact a0a rfl IsPure.out
  rw [decide_eq_false h10] at eq eb;have eq2:qk r=true:=eq;rw [eq2];refine OkS.seq ?_;refine sZ 800 ?_;refine nwI e8 ?_;refine gwI (ff4 kF hszA w8 eb) ?_;refine ifI ?_;refine skI ?_;have hd1:=a1N r.num.natAbs;have hd2:=a1N r.den;have c1:=b0H (Lib.decDigits r.num.natAbs) hd1.1 (by omega);rw [hd1.2.1] at c1;have e10:(sb T).extract 0 (a0d T)=sb (Lib.decDigits r.num.natAbs):=by
   rw [a2b,List.drop_zero,← hn];rfl
  refine sZ 1000 ?_;refine gwI (ff2 hszA kN) ?_;refine gwI e10 ?_;refine a0k.same _ c1 inferInstance ?_;refine stI ?_;refine OkS.seqX (α:=Nat) (fun n=>⟨[(6,boo (decide (r.num<0))),(8,i64 (r.num.natAbs:Int)),(9,i64 (r.den:Int))],[],n⟩) (fun _=>True) ?_ ?_
  ·by_cases hden:r.den=1
   ·rw [decide_eq_true hden] at hh
    have e11:decide ((a0d T:Int)<(T.length:Int))=false:=decide_eq_false (by have:=of_decide_eq_false (p:=a0d T<T.length) hh;omega);rw [hden];refine sZ 1100 ?_;refine nwI (ff2 hszA e11) ?_;refine ifI ?_;refine skI ?_;exact ⟨rfl,_,trivial,wkI⟩
   ·rw [decide_eq_false hden] at hh
    rw [if_neg hden] at hd;have hlt:=of_decide_eq_true (p:=a0d T<T.length) hh;have e11:decide ((a0d T:Int)<(T.length:Int))=true:=decide_eq_true (by omega);have wk:IntKind.i64.wrap (((a0d T:Nat):Int)+1)=((a0d T+1:Nat):Int):=wI (by omega) (by omega);have e12:(sb T).extract (a0d T+1) T.length=sb (Lib.decDigits r.den):=by
     rw [a2b,List.take_of_length_le (Nat.le_refl _),← hd];rfl
    have hdl:(Lib.decDigits r.den).length≤18:=by
     rw [← hd];unfold a1x;rw [List.length_drop];omega
    have c2:=b0H (Lib.decDigits r.den) hd2.1 hdl;rw [hd2.2.1] at c2;refine sZ 1100 ?_;refine nwI (ff2 hszA e11) ?_;refine ifI ?_;refine OkS.reg w1 1200 (by kernel_rfl) ?_;refine gwI (ff3 hszA wk kN) ?_;refine gwI e12 ?_;refine a0k.same _ c2 inferInstance ?_;refine stI ?_;exact ⟨trivial,_,trivial,wkI⟩
  rintro n2 -;obtain ⟨b1,b2⟩:=b0v eq2;refine OkS.seqX (α:=Nat) (fun n=>⟨[(8,i64 r.num),(9,i64 (r.den:Int))],[],n⟩) (fun _=>True) ?_ ?_
  ·refine sR 1300 ?_
   by_cases h:r.num<0
   ·have wn:IntKind.i64.wrap (0 - (r.num.natAbs:Int))=r.num:=by rw [wI (by omega) (by omega)];omega
    rw [decide_eq_true h];refine ifI ?_;refine OkS.reg w1 1400 (by kernel_rfl) ?_;refine nwI wn ?_;exact ⟨trivial,_,trivial,wkI⟩
   ·have en:(r.num.natAbs:Int)=r.num:=by omega
    rw [decide_eq_false h,en];refine ifI ?_;refine skI ?_;exact ⟨rfl,_,trivial,wkI⟩
  rintro n3 -;refine sR 1500 ?_;refine rtI ?_;exact a0a rfl IsPure.out
theorem b8Q (b:Bool)(n:Nat):(sg b n).natAbs=n:=by unfold sg;split<;>omega
theorem d3l (z:Int)(d:Nat)(hz:z.natAbs≤4000000000000000000)(hd0:0<d)(hd:d≤4000000000000000000):a0b C0 84 [i64 z,i64 (d:Int)] (rR (mkRat z d)):=by
 refine a0c.walk w1 d3g rfl fun F=>?_
 have hg:0<Nat.gcd z.natAbs d:=Nat.gcd_pos_of_pos_right _ hd0;have hgl:Nat.gcd z.natAbs d≤d:=Nat.gcd_le_right _ hd0;obtain ⟨qn,qd⟩:=a9R (x:=z) (d:=d) (by omega);have etx:txt (mkRat z d)=if d / Nat.gcd z.natAbs d=1 then Lib.itoa (mkRat z d).num else Lib.itoa (mkRat z d).num++47::Lib.decDigits (d / Nat.gcd z.natAbs d):=by
  unfold txt;rw [qd]
 have q1:z.tdiv (Nat.gcd z.natAbs d:Nat)=(mkRat z d).num:=by
  rw [qn];obtain ⟨p,hp⟩:=Nat.gcd_dvd_left z.natAbs d;have e1:z.natAbs / Nat.gcd z.natAbs d=p:=Nat.div_eq_of_eq_mul_right hg hp;have e2:z=(Nat.gcd z.natAbs d:Int)*sg (decide (z<0)) p:=by
   have h0:(z.natAbs:Int)=(Nat.gcd z.natAbs d:Int)*(p:Int):=by rw [← Int.natCast_mul,← hp]
   unfold sg
   by_cases hx:z<0
   ·rw [decide_eq_true hx,if_pos rfl,Int.mul_neg,← h0];omega
   ·rw [decide_eq_false hx,if_neg (by decide),← h0];omega
  rw [e1]
  conv=>lhs;arg 1;rw [e2]
  rw [Int.mul_tdiv_cancel_left _ (by omega)]
 have q2:(d:Int).tdiv (Nat.gcd z.natAbs d:Nat)=((d / Nat.gcd z.natAbs d:Nat):Int):=rfl;have q5:(mkRat z d).num.natAbs≤4000000000000000000:=by
  rw [qn];rw [b8Q];exact Nat.le_trans (Nat.div_le_self _ _) hz
 have q4:d / Nat.gcd z.natAbs d≤4000000000000000000:=Nat.le_trans (Nat.div_le_self _ _) hd;have hx:0<d / Nat.gcd z.natAbs d:=Nat.div_pos hgl hg;have ert:rR (mkRat z d)=str (sb (if d / Nat.gcd z.natAbs d=1 then Lib.itoa (mkRat z d).num else Lib.itoa (mkRat z d).num++47::Lib.decDigits (d / Nat.gcd z.natAbs d))):=by rw [← etx]
 rw [ert];clear etx ert qn qd;generalize (mkRat z d).num=pz at *;refine fR 0 ?_;refine OkS.seqW ⟨[(0,i64 z),(1,i64 d),(4,str ⟨#[]⟩)],[],50⟩ ?_ ?_
 ·refine OkS.seq ?_
  have l1:(decide (z < -4000000000000000000))=false:=by apply decide_eq_false;omega
  have l2:(decide (z>4000000000000000000))=false:=by apply decide_eq_false;omega
  have l3:(decide ((d:Int) < -4000000000000000000))=false:=by apply decide_eq_false;omega
  have l4:(decide ((d:Int)>4000000000000000000))=false:=by apply decide_eq_false;omega
  refine OkS.reg w1 100 (by kernel_rfl) ?_
  repeat' (first|(refine And.intro (by exact sdI) ?_;(refine dsI ?_);(try simp only [a8O,b5p,l1,l2,l3,l4]))|((refine brI (fun hb=>?_) (fun hb=>?_))<;>(try simp only [Bool.not_eq_true',Bool.not_eq_false'] at hb)<;>(try simp only [hb])<;>(refine dsI ?_)))
  refine ifI ?_;refine skI ?_;exact And.intro (by trivial) (wkI)
 refine OkS.seqW ⟨[(0,i64 z),(1,i64 d),(4,str ⟨#[]⟩)],[],100⟩ ?_ ?_
 ·refine fR 300 ?_
  refine ifI ?_;have e27:(decide ((d:Int)<0))=false:=by simp
  rw [e27];refine skI ?_;exact And.intro (by trivial) (wkI)
 refine OkS.seq ?_;have m1:max z (IntKind.i64.wrap (0 - z))=(z.natAbs:Int):=by rw [wI (by omega) (by omega)];omega
 refine OkS.reg w1 500 (by kernel_rfl) ?_;refine mwI m1 ?_;refine dI (c4r z.natAbs d (by omega) (by omega)) ?_;refine OkS.seq ?_;refine OkS.regD w1 600 [0,1,2,3,4,5,6] [7] (by kernel_rfl) ?_;refine nxI ?_;have w1p:IntKind.i64.wrap pz=pz:=wI (by omega) (by omega);rw [q1,q2,w1p,wN (Nat.le_trans q4 (by decide))];clear q1 q2 hg hgl;generalize d / Nat.gcd z.natAbs d=y at *;refine fR 700 ?_;have c1:=a4V pz.natAbs 1 (by omega);have c2:=a4V y 1 (by omega);rw [b7W] at c1 c2;have s1:=a1v 18 pz.natAbs (Nat.lt_of_le_of_lt q5 (by decide));have s2:=a1v 18 y (Nat.lt_of_le_of_lt q4 (by decide));have z1:=a8o (Lib.decDigits pz.natAbs);have z2:=a8o (Lib.decDigits y);have m1:max pz (IntKind.i64.wrap (0 - pz))=(pz.natAbs:Int):=by rw [wI (by omega) (by omega)];omega
 refine OkS.seqX (α:=Nat) (fun n=>⟨[(0,i64 pz),(1,i64 (y:Int)),(4,str ⟨#[]⟩),(6,str (sb (if pz<0 then [45] else [])))],[],n⟩) (fun _=>True) ?_ ?_
 ·refine fR 800 ?_
  by_cases h:pz<0
  ·rw [decide_eq_true h,if_pos h]
   refine ifI ?_;refine fI 900 ?_;exact ⟨rfl,_,trivial,wkI⟩
  ·rw [decide_eq_false h,if_neg h]
   refine ifI ?_;refine skI ?_;exact ⟨rfl,_,trivial,wkI⟩
 rintro n0 -;have ei:(if pz<0 then [45] else [])++Lib.decDigits pz.natAbs=Lib.itoa pz:=by
  unfold Lib.itoa;split
  ·rfl
  ·rw [show pz.toNat=pz.natAbs by omega];rfl
 have z3:=a0t (if pz<0 then [45] else []);have z4:(if pz<0 then [45] else []:List UInt8).length≤1:=by split<;>simp
 have z5:(Lib.itoa pz).length≤20:=by rw [← ei,List.length_append];omega
 refine sZ 1000 ?_;refine mwI m1 ?_;refine dI c1 ?_;rw [a4I,ei];have z6:=a8o (Lib.itoa pz);generalize Lib.itoa pz=t1 at *;clear ei z3 z4;refine OkS.seqX (α:=Nat) (fun n=>⟨[(6,str (sb (if y=1 then t1 else t1++47::Lib.decDigits y)))],[],n⟩) (fun _=>True) ?_ ?_
 ·refine fR 1100 ?_
  by_cases hy:y=1
  ·rw [if_pos hy]
   have e54:(decide ((y:Int)>1))=false:=by apply decide_eq_false;omega
   rw [e54];refine ifI ?_;refine skI ?_;exact ⟨rfl,_,trivial,wkI⟩
  ·rw [if_neg hy]
   have e54:(decide ((y:Int)>1))=true:=by apply decide_eq_true;omega
   have s3:(⟨#[47]⟩:ByteArray).size=1:=rfl;have sc:((⟨t1.toArray⟩:ByteArray)++(⟨#[47]⟩:ByteArray)).size=(⟨t1.toArray⟩:ByteArray).size+(⟨#[47]⟩:ByteArray).size:=ByteArray.size_append;rw [e54];refine ifI ?_;refine fI 1200 ?_;refine dI c2 ?_;have e47:(⟨#[47]⟩:ByteArray)=⟨([47]:List UInt8).toArray⟩:=rfl;rw [e47,a4I,a4I,List.append_assoc,List.cons_append,List.nil_append];exact ⟨rfl,_,trivial,wkI⟩
 rintro n1 -;refine fR 1300 ?_;refine rtI ?_;exact a0a rfl IsPure.out
theorem b2t {n k:Nat}(h:(a0e n).length≤k):(a0p n).length≤3*k:=by
 refine a1o (Nat.lt_of_lt_of_le (a2O n) ?_);rw [Nat.pow_mul];exact Nat.le_trans (Nat.pow_le_pow_right (by decide) h) (Nat.pow_le_pow_left (by decide) k)
theorem a9k {n k:Nat}(h:(a0e n).length≤k):(Lib.decDigits n).length≤27*k+1:=by
 have h1:=a7P (a0z n);rw [a0r] at h1
 have:=b2t h
 omega
theorem c3X {z:Int}{k:Nat}(h:(a0e z.natAbs).length≤k):(Lib.itoa z).length≤27*k+2:=by
 have:=a9k h
 unfold Lib.itoa;split
 ·rw [List.length_cons];omega
 ·rw [show z.toNat=z.natAbs by omega];omega
theorem a8y {r:Rat}{k:Nat}(h:rk r k)(hk:k≤10000):c0F r:=by
 have h1:=c3X h.1;have h2:=a9k h.2;unfold c0F txt;split
 ·omega
 ·rw [List.length_append,List.length_cons];omega
def LZ (x:Int)(p:Nat):Prop:=(a0p x.natAbs).length≤p
theorem LZ.mul {x y:Int}{p q:Nat}(hx:LZ x p)(hy:LZ y q):LZ (x*y) (p+q):=by
 unfold LZ at *;rw [Int.natAbs_mul]
 have:=a5n x.natAbs y.natAbs
 omega
theorem LZ.add {x y:Int}{p q:Nat}(hx:LZ x p)(hy:LZ y q):LZ (x+y) (p+q+1):=by
 unfold LZ at *;have h1:=a0C (x+y).natAbs (x.natAbs+y.natAbs) (Int.natAbs_add_le x y);have h2:=a7E x.natAbs y.natAbs;omega
theorem LZ.few {x:Int}{p:Nat}(h:LZ x p)(hp:p<1000000):b3D x:=Nat.lt_of_le_of_lt h hp
theorem LZ.num {r:Rat}{k:Nat}(h:rk r k):LZ r.num (3*k):=b2t h.1
theorem LZ.den {r:Rat}{k:Nat}(h:rk r k):LZ (r.den:Int) (3*k):=b2t h.2
theorem d0l (a b:Rat):qZ (a.num*b.den+b.num*a.den) ((a.den:Int)*b.den)=a+b:=by
 unfold qZ;have h:¬ ((a.den:Int)*b.den<0):=by
  rw [← Int.natCast_mul];omega
 rw [if_neg h,← Int.natCast_mul,Int.natAbs_natCast,Rat.add_def',]
theorem a7A {x y:Int}(hx:x.natAbs<10^9)(hy:y.natAbs<10^9):(x*y).natAbs<10^18:=by
 rw [Int.natAbs_mul];exact Nat.lt_of_lt_of_le (Nat.mul_lt_mul'' hx hy) (by decide)
theorem d4l (a b:Rat)(i j:Nat)(ha:rk a i)(hb:rk b j)(hij:i+j≤10000):a0b C0 32 [rR a,rR b] (rR (a+b)):=by
 refine a0c.walk w1 d3k rfl fun F=>?_
 have ta:=a8y ha (by omega);have tb:=a8y hb (by omega);have qa:=b7Y a ta;have qb:=b7Y b tb
 by_cases hq:qk a=true∧qk b=true
 ·obtain ⟨h1,h2⟩:=hq
  obtain ⟨n1,d1⟩:=b0v h1;obtain ⟨n2,d2⟩:=b0v h2;rw [h1,if_pos rfl,if_pos rfl] at qa;rw [h2,if_pos rfl,if_pos rfl] at qb;have p1:=a7A n1 (y:=(b.den:Int)) (by omega);have p2:=a7A n2 (y:=(a.den:Int)) (by omega);have p3:=a7A (x:=(a.den:Int)) (y:=(b.den:Int)) (by omega) (by omega);have m1:IntKind.i64.wrap (a.num*(b.den:Int))=a.num*b.den:=wI (by omega) (by omega);have m2:IntKind.i64.wrap (b.num*(a.den:Int))=b.num*a.den:=wI (by omega) (by omega);have m3:IntKind.i64.wrap (a.num*(b.den:Int)+b.num*(a.den:Int))=a.num*b.den+b.num*a.den:=wI (by omega) (by omega);have m4:IntKind.i64.wrap ((a.den:Int)*(b.den:Int))=((a.den*b.den:Nat):Int):=by rw [wI (by omega) (by omega),Int.natCast_mul]
  have p4:a.den*b.den<10^18:=by rw [← Int.natCast_mul,Int.natAbs_natCast] at p3;exact p3
  have cf:=d3l (a.num*b.den+b.num*a.den) (a.den*b.den) (by omega) (Nat.mul_pos a.den_pos b.den_pos) (by omega);rw [← Rat.add_def'] at cf;refine sR 0 ?_;refine sR 100 ?_;refine cI qa ?_;refine sR 200 ?_;refine cI qb ?_;refine OkS.seq ?_;refine sZ 300 ?_;refine gwI kT ?_;refine ifI ?_;refine sZ 400 ?_;refine nwI (ff4 m1 m2 m3 m4) ?_;refine cI cf ?_;refine rtI ?_;exact a0a rfl IsPure.out
 ·refine sR 0 ?_
  refine sR 100 ?_;refine cI qa ?_;refine sR 200 ?_;refine cI qb ?_;refine OkS.seqX (α:=Nat) (fun n=>⟨[(0,rR a),(1,rR b)],[],n⟩) (fun _=>True) ?_ ?_
  ·cases h1:qk a
   ·refine sZ 300 ?_
    refine gwI h1 ?_;refine gwI kF ?_;refine ifI ?_;refine skI ?_;exact ⟨rfl,_,trivial,wkI⟩
   ·have h2:qk b=false:=by
     cases h2:qk b
     ·rfl
     ·exact absurd ⟨h1,h2⟩ hq
    rw [h2];refine sZ 300 ?_;refine gwI h1 ?_;refine gwI kT ?_;refine ifI ?_;refine skI ?_;exact ⟨rfl,_,trivial,wkI⟩
  rintro n0 -;clear qa qb hq;have pa:=b3r (txt a) (b4J a) (b4b a) ta;have pb:=b3r (txt b) (b4J b) (b4b b) tb;rw [b4I,c0K] at pa pb;have lan:=LZ.num ha;have lad:=LZ.den ha;have lbn:=LZ.num hb;have lbd:=LZ.den hb;have da:=a.den_pos;have db:=b.den_pos;have c1:=b2o a.num b.den (lan.few (by omega)) (lbd.few (by omega));have c2:=b2o b.num a.den (lbn.few (by omega)) (lad.few (by omega));have c3:=c7U (a.num*b.den) (b.num*a.den) ((lan.mul lbd).few (by omega)) ((lbn.mul lad).few (by omega));have c4:=b2o (a.den:Int) b.den (lad.few (by omega)) (lbd.few (by omega));have c5:=b5u (a.num*b.den+b.num*a.den) ((a.den:Int)*b.den) (by rw [← Int.natCast_mul];have:=Nat.mul_pos da db;omega) (((lan.mul lbd).add (lbn.mul lad)).few (by omega)) ((lad.mul lbd).few (by omega));rw [d0l] at c5;refine sR 500 ?_;refine cI pa ?_;refine sR 600 ?_;refine cI pb ?_;refine OkS.seq ?_;refine OkS.regD w1 700 [0,1,2,3,4,5,6,7,8] [9,10,11] (by kernel_rfl) ?_;refine gwI kN ?_
  first|refine a0o.same _ c1 inferInstance ?_|refine a0k.same _ c1 inferInstance ?_
  refine gwI kN ?_
  first|refine a0o.same _ c2 inferInstance ?_|refine a0k.same _ c2 inferInstance ?_
  refine gwI kN ?_
  first|refine a0o.same _ c3 inferInstance ?_|refine a0k.same _ c3 inferInstance ?_
  refine gwI kN ?_
  first|refine a0o.same _ c4 inferInstance ?_|refine a0k.same _ c4 inferInstance ?_
  refine gwI kN ?_
  first|refine a0o.same _ c5 inferInstance ?_|refine a0k.same _ c5 inferInstance ?_
  refine gwI kN ?_;refine rtI ?_;exact a0a rfl IsPure.out
theorem d4D (a b:Rat)(i j:Nat)(ha:rk a i)(hb:rk b j)(hij:i+j≤10000):a0b C0 77 [rR a,rR b] (rR (a - b)):=by
 refine a0c.walk w1 d2O rfl fun F=>?_
 have c1:=d1y b (a8y hb (by omega));have c2:=d4l a (-b) i j ha (b9u hb) hij;rw [← Rat.sub_eq_add_neg] at c2;refine sR 0 ?_;refine sR 100 ?_;refine cI c1 ?_;refine cI c2 ?_;refine rtI ?_;exact a0a rfl IsPure.out
theorem c5J (a b:Rat):a7W (a - b)=a2F a b:=by
 unfold a7W a2F;have h1:(a - b).num<0↔a<b:=by
  have e:=Rat.lt_iff (a - b) 0;have e1:(a - b).num*((0:Rat).den:Int)<(0:Rat).num*((a - b).den:Int)↔(a - b).num<0:=by simp
  rw [← e1,← e];constructor<;>intro h<;>grind
 have h2:0<(a - b).num↔b<a:=by
  have e:=Rat.lt_iff 0 (a - b);have e1:(0:Rat).num*((a - b).den:Int)<(a - b).num*((0:Rat).den:Int)↔0<(a - b).num:=by simp
  rw [← e1,← e];constructor<;>intro h<;>grind
 by_cases h:a<b
 ·rw [if_pos h];have:=h1.2 h;omega
 ·rw [if_neg h]
  by_cases h':b<a
  ·rw [if_pos h'];have:=h2.2 h';omega
  ·rw [if_neg h']
   have:=mt h1.1 h
   have:=mt h2.1 h'
   omega
theorem d4z (a b:Rat)(i j:Nat)(ha:rk a i)(hb:rk b j)(hij:i+j<10000):a0b C0 34 [rR a,rR b] (i64 (a2F a b)):=by
 refine a0c.walk w1 d3c rfl fun F=>?_
 have c1:=d4D a b i j ha hb (by omega);have c2:=b7e (a - b) (a8y (c6G ha hb) (by omega));rw [c5J] at c2;refine sR 0 ?_;refine sR 100 ?_;refine cI c1 ?_;refine cI c2 ?_;refine rtI ?_;exact a0a rfl IsPure.out
theorem c0A (c:UInt8):a0y c=(!decide ((c.toNat:Int)<48) && !decide ((c.toNat:Int)>57)):=by
 unfold a0y;rw [Bool.eq_iff_iff,Bool.and_eq_true,Bool.and_eq_true];simp only [Bool.not_eq_true',decide_eq_false_iff_not,Nat.ble_eq];omega
theorem b1M {l:List UInt8}{i:Nat}{c:UInt8}(hc:l[i]? = some c)(h:(l.take i).all a0y=true):(l.take (i+1)).all a0y=a0y c:=by
 rw [List.take_add_one,hc,List.all_append,h];simp
theorem c8X {l:List UInt8}{i:Nat}{c:UInt8}(hc:l[i]? = some c)(h:a0y c=false):l.all a0y=false:=by
 cases ha:l.all a0y
 ·rfl
 ·have:=List.all_eq_true.1 ha c (List.mem_of_getElem? hc)
  rw [h] at this;cases this
theorem c1s (l:List UInt8)(hl:l.length≤1000000000):a0b C0 161 [str (sb l)] (boo (l.all a0y)):=by
 refine a0c.walk w1 c8x rfl fun F=>?_
 have hsz:=a0t l;refine sR 0 ?_;refine OkS.seq ?_;refine sR 100 ?_;refine OkS.block ?_;refine OkS.loop (α:=Nat × Nat) (fun p=>⟨[(0,str (sb l)),(3,i64 (p.1:Int))],[],p.2⟩) (fun p=>l.length - p.1) (fun p=>p.1≤l.length∧(l.take p.1).all a0y=true) (0,_) ⟨Nat.zero_le _,rfl⟩ wkI ?_;rintro ⟨i,n⟩ F ⟨hi,ha⟩;dsimp only at hi ha ⊢;refine OkS.seq ?_;refine sZ 200 ?_;refine nwI hsz ?_;refine ifI ?_
 (refine brI (fun hlt=>?_) (fun hlt=>?_))<;>(try simp only [Bool.not_eq_true',Bool.not_eq_false'] at hlt)<;>(try simp only [hlt])
 ·have hi2:i<l.length:=by
   have:=of_decide_eq_true hlt
   omega
  obtain ⟨c,hc⟩:∃ c,l[i]? = some c:=⟨l[i],List.getElem?_eq_getElem hi2⟩
  have hg:l.getD i 0=c:=by simp [hc]
  have wi:IntKind.i64.wrap ((i:Int)+1)=((i+1:Nat):Int):=wI (by omega) (by omega);have hid:=c0A c;have hat:=b1M hc ha;have hno:=c8X hc;refine skI ?_;refine OkS.seq ?_;refine OkS.block ?_;refine sZ 400 ?_;refine nwI (ff2 kN hg) ?_
  by_cases c1:(c.toNat:Int)<48
  ·rw [decide_eq_true c1] at hid
   have e4:=decide_eq_true c1;simp only [e4];refine gwI kT ?_;refine ifI ?_;refine sR 500 ?_;refine rtI ?_;exact a0a (by rw [hno hid]) IsPure.out
  ·rw [decide_eq_false c1] at hid
   have e4:=decide_eq_false c1;simp only [e4];refine gwI (ff3 kF kN hg) ?_
   by_cases c2:(c.toNat:Int)>57
   ·rw [decide_eq_true c2] at hid ⊢
    refine ifI ?_;refine sR 500 ?_;refine rtI ?_;exact a0a (by rw [hno hid]) IsPure.out
   ·rw [decide_eq_false c2] at hid ⊢
    refine ifI ?_;refine skI ?_;refine OkS.reg w1 300 (by kernel_rfl) ?_;refine nwI wi ?_;exact ⟨(i+1,_),⟨hi2,hat.trans hid⟩,by dsimp only;omega,wkI⟩
 ·have hi2:i=l.length:=by
   have:=of_decide_eq_false hlt
   omega
  subst hi2;rw [List.take_of_length_le (Nat.le_refl _)] at ha;refine exI ?_;refine sR 600 ?_;refine rtI ?_;exact a0a (by rw [ha]) IsPure.out
theorem b8m (c : UInt8) : (((c.toNat : Nat) : Int) == 48) = decide (c = 48) := by
  rw [Bool.eq_iff_iff, beq_iff_eq, decide_eq_true_iff, ← UInt8.toNat_inj]
  exact ⟨fun h => by have : c.toNat = 48 := by omega
                     exact this, fun h => by rw [h]; rfl⟩
theorem c3r (l:List UInt8)(hl:l.length≤1000000000):a0b C0 90 [str (sb l)] (boo (a1f l)):=by
 refine a0c.walk w1 d1x rfl fun F=>?_
 have hsz:=a0t l;have cd:=c1s l hl;refine sR 0 ?_;refine OkS.seq ?_;refine OkS.seq ?_
 match l,hl,hsz,cd with
 | [],_,hsz,_ =>
  have e1:((((sb []).size:Nat):Int)==0)=true:=rfl;refine OkS.reg w1 100 (by kernel_rfl) ?_;refine nwI e1 ?_;refine gwI kT ?_;refine ifI ?_;refine sR 200 ?_;refine rtI ?_;exact a0a rfl IsPure.out
 | [c],hl,hsz,cd =>
  have e1:((((sb [c]).size:Nat):Int)==0)=false:=rfl;have e2:decide ((((sb [c]).size:Nat):Int)>1)=false:=rfl;have ep:a1f [c]=[c].all a0y:=by
   unfold a1f c5P
   by_cases h:c=48
   ·subst h;rfl
   ·simp [h]
  rw [ep];refine OkS.reg w1 100 (by kernel_rfl) ?_;refine nwI e1 ?_;refine gwI kF ?_;simp only [e2];refine gwI kF ?_;refine ifI ?_;refine skI ?_;refine sR 300 ?_;refine cI cd ?_;refine rtI ?_;exact a0a rfl IsPure.out
 | c::d::l,hl,hsz,cd =>
  have hs2:(sb (c::d::l)).size=l.length+2:=hsz;have e1:((((sb (c::d::l)).size:Nat):Int)==0)=false:=beq_eq_false_iff_ne.2 (by omega);have e2:decide ((((sb (c::d::l)).size:Nat):Int)>1)=true:=decide_eq_true (by omega);have e3:((((c::d::l).getD (Int.toNat 0) 0).toNat:Int)==48)=decide (c=48):=b8m c;have ep:a1f (c::d::l)=if c=48 then false else (c::d::l).all a0y:=by
   unfold a1f c5P
   by_cases h:c=48
   ·subst h;simp
   ·simp [h]
  rw [ep];refine OkS.reg w1 100 (by kernel_rfl) ?_;refine nwI e1 ?_;refine gwI (ff2 kF e2) ?_;refine gwI (ff4 kT e2 e3 kF) ?_
  by_cases h:c=48
  ·rw [decide_eq_true h,if_pos h]
   refine ifI ?_;refine sR 200 ?_;refine rtI ?_;exact a0a rfl IsPure.out
  ·rw [decide_eq_false h,if_neg h]
   refine ifI ?_;refine skI ?_;refine sR 300 ?_;refine cI cd ?_;refine rtI ?_;exact a0a rfl IsPure.out
def c0e (r:Rat):Bool:=decide (600<(Lib.decDigits r.num.natAbs).length)||decide (600<(Lib.decDigits r.den).length)
theorem b8o (l:List UInt8):a0d l=(a2k l).length:=by
 have:=a2o l
 unfold a2k;rw [List.length_take];omega
theorem a5Y (l:List UInt8):a2k (a0l l)=a0N l∧a1x (a0l l)=a1x l∧a4g (a0l l)=a4g l∧decide (a2k l=[45,48])=(a1R l&&decide (a0N l=[48])):=by
 cases hb:a1R l
 ·have ed:a0l l=l:=by unfold a0l;rw [hb];rfl
  have en:a1R (a2k l)=false:=by
   unfold a2k;cases l with
   | nil=>rfl
   | cons c l =>
    cases hk:a0d (c::l) with
    | zero=>rfl
    | succ k=>exact hb
  have es:a0N l=a2k l:=by unfold a0N a0l;rw [en];rfl
  rw [ed,es];refine ⟨rfl,rfl,rfl,?_⟩;rw [Bool.false_and];refine decide_eq_false fun h=>?_
  rw [h] at en;cases en
 ·cases l with
  | nil=>cases hb
  | cons c m =>
   have hc:c=45:=by simpa [a1R] using hb
   subst hc;have ed:a0l (45::m)=m:=rfl;have e1:a0d (45::m)=a0d m+1:=by
    unfold a0d;rw [List.takeWhile_cons,if_pos (by decide),List.length_cons]
   have e2:a2k (45::m)=45::a2k m:=by unfold a2k;rw [e1,List.take_succ_cons]
   have e3:a1x (45::m)=a1x m:=by unfold a1x;rw [e1,List.drop_succ_cons]
   have e4:a4g (45::m)=a4g m:=by unfold a4g;rw [e1,List.length_cons];exact decide_eq_decide.2 (by omega)
   have e5:a0N (45::m)=a2k m:=by unfold a0N;rw [e2];rfl
   rw [ed,e2,e3,e4,e5];refine ⟨rfl,rfl,rfl,?_⟩;rw [Bool.true_and];exact decide_eq_decide.2 (by simp)
theorem a6g (l:List UInt8):a4E l=((!a1f (a0N l)||(a1R l&&decide (a0N l=[48])))||(a4g l&&(!a1f (a1x l)||decide (a1x l=[48])||decide (a1x l=[49])))):=by
 unfold a4E;rw [(a5Y l).2.2.2]
theorem b9Z {l:List UInt8}(h:a1f l=true):l≠[]:=(a2z h).1
theorem c3j {l:List UInt8}(h:0<l.length):(((l.getD (Int.toNat 0) 0).toNat:Int)==45)=a1R l:=by
 cases l with
 | nil=>cases h
 | cons c l=>exact a7b c l
theorem b3v (l:List UInt8)(hl:l.length≤100000):a0b C0 33 [str (sb l)] (i64 (chk l)):=by
 refine a0c.walk w1 d1F rfl fun F=>?_
 have hsz:=a0t l;obtain ⟨p1,p2,p3,-⟩:=a5Y l;have hdl:(a0l l).length≤l.length:=by
  unfold a0l;split
  ·rw [List.length_drop];omega
  ·exact Nat.le_refl _
 have hbf:=a6g l;have hchk1:(!a1f (a0N l)||(a1R l&&decide (a0N l=[48])))=true→chk l=1:=fun h=>by
  unfold chk;rw [hbf,h,Bool.true_or,if_pos rfl]
 have hchk2:(a4g l&&(!a1f (a1x l)||decide (a1x l=[48])||decide (a1x l=[49])))=true→chk l=1:=fun h=>by
  unfold chk;rw [hbf,h,Bool.or_true,if_pos rfl]
 have hne:a1f (a0N l)=true→0<l.length:=fun h=>by
  cases l with
  | nil=>exact absurd rfl (b9Z h)
  | cons c l=>rw [List.length_cons];omega
 refine sR 0 ?_;refine sR 100 ?_;refine OkS.seqX (α:=Nat) (fun n=>⟨[(0,str (sb l)),(3,str (sb (a0l l)))],[],n⟩) (fun _=>True) ?_ ?_
 ·rcases Nat.eq_zero_or_pos l.length with h0|h0
  ·have e0:l=[]:=List.eq_nil_of_length_eq_zero h0
   have e1:decide (((sb []).size:Int)>0)=false:=rfl;have ed:a0l l=l:=by rw [e0];rfl
   rw [ed,e0];refine sZ 200 ?_;refine nwI e1 ?_;refine gwI kF ?_;refine ifI ?_;refine skI ?_;exact ⟨rfl,_,trivial,wkI⟩
  ·have e0:decide (((sb l).size:Int)>0)=true:=decide_eq_true (by omega)
   have e1:=c3j h0;refine sZ 200 ?_;refine gwI e0 ?_;refine gwI (ff3 kT e0 e1) ?_;cases hb:a1R l
   ·have ed:a0l l=l:=by unfold a0l;rw [hb];rfl
    rw [ed];refine ifI ?_;refine skI ?_;exact ⟨rfl,_,trivial,wkI⟩
   ·have ed:a0l l=l.drop 1:=by unfold a0l;rw [hb];rfl
    have ee:(sb l).extract (Int.toNat 1) l.length=sb (a0l l):=by
     rw [a2b,List.take_of_length_le (Nat.le_refl _),ed];rfl
    refine ifI ?_;refine OkS.reg w1 300 (by kernel_rfl) ?_;refine gwI (ff2 hsz kN) ?_;rw [ee];exact ⟨trivial,_,trivial,wkI⟩
 rintro n0 -;have cs:=b2Z (a0l l) (by omega);have hle:=a2o (a0l l);have hszS:=a0t (a0l l);have hhs:a4g l=decide (a0d (a0l l)<(a0l l).length):=p3.symm;have e10:(sb (a0l l)).extract 0 (a0d (a0l l))=sb (a0N l):=by rw [← p1,a2b,List.drop_zero];rfl
 have e11:(sb (a0l l)).extract (a0d (a0l l)+1) (a0l l).length=sb (a1x l):=by rw [← p2,a2b,List.take_of_length_le (Nat.le_refl _)];rfl
 have hNl:a0d (a0l l)=(a0N l).length:=by rw [← p1];exact b8o _
 have hDl:(a1x l).length=(a0l l).length - (a0d (a0l l)+1):=by rw [← p2];unfold a1x;rw [List.length_drop]
 have pp:=fun h1 h2=>b3r (a0l l) h1 h2 (by omega)
 unfold c8Y c8M at pp;rw [p1,p2,p3] at pp;have edef:chk l=if a4E l then 1 else if 600<(a0N l).length∨600<(a1x l).length then 4 else if a4g l=true∧Nat.gcd (dv (a0N l)) (dv (a1x l))≠1 then 1 else 0:=rfl
 rw [hbf] at edef;generalize hN:a0N l=Nn at *;generalize hD:a1x l=Dn at *;generalize hH:a4g l=hv at *;generalize hK:chk l=Kn at *;generalize a0l l=Sn at *;generalize a0d Sn=k at *;clear p1 p2 p3 hbf hN hD hH hK;have cf:=c3r Nn (by omega);have cf2:=c3r Dn (by omega);have q0:=a4Y Nn [48];have q1:=a4Y Dn [48];have q2:=a4Y Dn [49];refine sR 400 ?_;refine cI cs ?_;refine OkS.seqX (α:=Nat) (fun n=>⟨[(0,str (sb l)),(3,str (sb Sn)),(4,i64 (k:Int))],[],n⟩) (fun _=>(!a1f Nn||(a1R l&&decide (Nn=[48])))=false) ?_ ?_
 ·refine sZ 500 ?_
  refine gwI (ff2 hszS kN) ?_;refine gwI e10 ?_;cases hp:a1f Nn
  ·rw [hp] at cf
   refine a0k.same _ cf inferInstance ?_;refine stI ?_;simp only [Bool.not_false];refine gwI kT ?_;refine ifI ?_;refine sR 600 ?_;refine rtI ?_;exact a0a (by rw [hchk1 (by rw [hp];rfl)];rfl) IsPure.out
  ·rw [hp] at cf
   have hl0:=hne hp;have e1:=c3j hl0;refine a0k.same _ cf inferInstance ?_;refine stI ?_;simp only [Bool.not_true];refine gwI (ff3 kF hsz e1) ?_;have q0':a1t (sb Nn) ⟨#[48]⟩=decide (Nn=[48]):=q0;cases hb:a1R l
   ·refine gwI kF ?_
    refine ifI ?_;refine skI ?_;exact ⟨rfl,_,rfl,wkI⟩
   ·refine gwI (ff4 kT kF hszS kN) ?_
    refine gwI (ff4 kT kF e10 q0') ?_
    by_cases h0:Nn=[48]
    ·rw [decide_eq_true h0]
     refine ifI ?_;refine sR 600 ?_;refine rtI ?_;exact a0a (by rw [hchk1 (by simp [hp,hb,h0])];rfl) IsPure.out
    ·rw [decide_eq_false h0]
     refine ifI ?_;refine skI ?_;exact ⟨rfl,_,by simp,wkI⟩
 rintro n1 hb1;clear hchk1 hne cf q0;refine OkS.seqX (α:=Nat) (fun n=>⟨[(0,str (sb l)),(3,str (sb Sn)),(4,i64 (k:Int))],[],n⟩) (fun _=>(hv&&(!a1f Dn||decide (Dn=[48])||decide (Dn=[49])))=false) ?_ ?_
 ·cases hv
  ·have e40:decide ((k:Int)<(Sn.length:Int))=false:=decide_eq_false (by have:=of_decide_eq_false hhs.symm;omega)
   refine sZ 700 ?_;refine nwI (ff2 hszS e40) ?_;refine gwI kF ?_;refine ifI ?_;refine skI ?_;exact ⟨rfl,_,rfl,wkI⟩
  ·have hkl:=of_decide_eq_true hhs.symm
   have e40:decide ((k:Int)<(Sn.length:Int))=true:=decide_eq_true (by omega);have wk:IntKind.i64.wrap ((k:Int)+1)=((k+1:Nat):Int):=wI (by omega) (by omega);have q1':a1t (sb Dn) ⟨#[48]⟩=decide (Dn=[48]):=q1;have q2':a1t (sb Dn) ⟨#[49]⟩=decide (Dn=[49]):=q2;refine sZ 700 ?_;refine nwI (ff2 hszS e40) ?_;refine gwI (ff4 kT wk hszS kN) ?_;simp only [e11];refine gcI kT ?_;cases hp:a1f Dn
   ·rw [hp] at cf2
    refine a0k.same _ cf2 inferInstance ?_;refine gwI kB ?_;refine gwI kT ?_;refine ifI ?_;refine sR 800 ?_;refine rtI ?_;exact a0a (by rw [hchk2 (by simp [hp])];rfl) IsPure.out
   ·rw [hp] at cf2
    have e12:(sb Sn).extract (IntKind.i64.wrap ((k:Int)+1)).toNat (sb Sn).size=sb Dn:=by rw [wk,hszS,Int.toNat_natCast];exact e11
    refine a0k.same _ cf2 inferInstance ?_;refine gwI kB ?_;simp only [e12,q1']
    by_cases h48:Dn=[48]
    ·rw [decide_eq_true h48]
     refine gwI kT ?_;refine ifI ?_;refine sR 800 ?_;refine rtI ?_;exact a0a (by rw [hchk2 (by simp [h48])];rfl) IsPure.out
    ·rw [decide_eq_false h48]
     refine gwI kB ?_;simp only [e12,q2']
     by_cases h49:Dn=[49]
     ·rw [decide_eq_true h49]
      refine ifI ?_;refine sR 800 ?_;refine rtI ?_;exact a0a (by rw [hchk2 (by simp [h49])];rfl) IsPure.out
     ·rw [decide_eq_false h49]
      refine ifI ?_;refine skI ?_;exact ⟨rfl,_,by simp,wkI⟩
 rintro n2 hb2;clear hchk2 cf2 q1 q2 e10 e11 hsz;have hpN:a1f Nn=true:=by
  cases h:a1f Nn
  ·rw [h] at hb1;simp at hb1
  ·rfl
 have hpD:hv=true→a1f Dn=true:=fun h0=>by
  cases h:a1f Dn
  ·rw [h,h0] at hb2;simp at hb2
  ·rfl
 rw [hb1,hb2] at edef;rw [if_neg (by decide)] at edef;have wl1:IntKind.i64.wrap ((Sn.length:Int) - (k:Int))=(Sn.length:Int) - (k:Int):=wI (by omega) (by omega);have wl2:IntKind.i64.wrap ((Sn.length:Int) - (k:Int) - 1)=(Sn.length:Int) - (k:Int) - 1:=wI (by omega) (by omega);have e91:decide ((Sn.length:Int) - (k:Int) - 1>600)=decide (600<Dn.length):=decide_eq_decide.2 (by omega);refine OkS.seqX (α:=Nat) (fun n=>⟨[(3,str (sb Sn)),(4,i64 (k:Int))],[],n⟩) (fun _=>Nn.length≤600∧Dn.length≤600) ?_ ?_
 ·by_cases g1:600<k
  ·have e9:decide ((k:Int)>600)=true:=decide_eq_true (by omega)
   rw [if_pos (.inl (by omega))] at edef;refine sZ 900 ?_;refine nwI e9 ?_;refine gwI kT ?_;refine ifI ?_;refine sR 1000 ?_;refine rtI ?_;exact a0a (by rw [edef];rfl) IsPure.out
  ·have e9:decide ((k:Int)>600)=false:=decide_eq_false (by omega)
   refine sZ 900 ?_;refine nwI e9 ?_;refine gwI (ff5 kF hszS wl1 wl2 e91) ?_
   by_cases g2:600<Dn.length
   ·rw [if_pos (.inr g2)] at edef
    rw [decide_eq_true g2];refine ifI ?_;refine sR 1000 ?_;refine rtI ?_;exact a0a (by rw [edef];rfl) IsPure.out
   ·rw [decide_eq_false g2]
    refine ifI ?_;refine skI ?_;exact ⟨rfl,_,⟨by omega,by omega⟩,wkI⟩
 rintro n3 ⟨g1,g2⟩;rw [if_neg (by omega)] at edef;clear e91 wl1 wl2 hb1 hb2;obtain ⟨-,dN⟩:=a2z hpN;refine OkS.seqX (α:=Nat) (fun n=>⟨[],[],n⟩) (fun _=>Kn=0) ?_ ?_
 ·cases hv
  ·have e40:decide ((k:Int)<(Sn.length:Int))=false:=decide_eq_false (by have:=of_decide_eq_false hhs.symm;omega)
   rw [if_neg (by simp)] at edef;refine sZ 1100 ?_;refine nwI (ff2 hszS e40) ?_;refine ifI ?_;refine skI ?_;exact ⟨rfl,_,edef,wkI⟩
  ·have hkl:=of_decide_eq_true hhs.symm
   have e40:decide ((k:Int)<(Sn.length:Int))=true:=decide_eq_true (by omega);obtain ⟨-,dD⟩:=a2z (hpD rfl);have pa:=pp (by rw [a1I dN];exact dN) (by rw [a1I dD];exact dD);rw [if_pos rfl,a9i dN,a9i dD] at pa;have lN:(a0p (dv Nn)).length<1000000:=Nat.lt_of_le_of_lt (a1o (Nat.lt_of_lt_of_le (a5j Nn dN) (Nat.pow_le_pow_left (by decide) Nn.length))) (by omega);have lD:(a0p (dv Dn)).length<1000000:=Nat.lt_of_le_of_lt (a1o (Nat.lt_of_lt_of_le (a5j Dn dD) (Nat.pow_le_pow_left (by decide) Dn.length))) (by omega);have cg:a0b C0 91 [rD ((dv Nn:Int)).natAbs,rD ((dv Dn:Int)).natAbs] (.sl false 1 ((a0p (Nat.gcd (dv Nn) (dv Dn))).map a0q)):=b3N (dv Nn) (dv Dn) lN lD;have ht:=b3S (Nat.gcd (dv Nn) (dv Dn));have ed1:Nat.gcd (dv Nn) (dv Dn)≠1→Kn=1:=fun h=>by rw [if_pos ⟨rfl,h⟩] at edef;exact edef
   have ed0:Nat.gcd (dv Nn) (dv Dn)=1→Kn=0:=fun h=>by rw [if_neg (fun hh=>hh.2 h)] at edef;exact edef
   clear edef;generalize Nat.gcd (dv Nn) (dv Dn)=gg at *;refine sZ 1100 ?_;refine nwI (ff2 hszS e40) ?_;refine ifI ?_;refine sR 1200 ?_;refine cI pa ?_;refine sR 1300 ?_;refine cI cg ?_;rcases ht with ⟨t1,a,ha,t2⟩|⟨t1,t2⟩
   ·have ha':=a6u ha
    have t1n:((((a0p gg).map a0q).length:Int) != 1)=false:=by unfold bne;rw [t1];rfl
    have t2n:((a:Int) != 1) = !decide (gg=1):=by unfold bne;rw [t2]
    refine sZ 1400 ?_;refine nwI t1n ?_;refine gwI kF ?_;refine ixI kF ha' ?_;refine gwI (ff2 kF t2n) ?_
    by_cases hg1:gg=1
    ·rw [decide_eq_true hg1]
     refine ifI ?_;refine skI ?_;exact ⟨rfl,_,ed0 hg1,wkI⟩
    ·rw [decide_eq_false hg1]
     refine ifI ?_;refine sR 1500 ?_;refine rtI ?_;exact a0a (by rw [ed1 hg1];rfl) IsPure.out
   ·have edf:=ed1 t2
    have t1n:((((a0p gg).map a0q).length:Int) != 1)=true:=by unfold bne;rw [t1];rfl
    refine sZ 1400 ?_;refine nwI t1n ?_;refine gwI kT ?_;refine ifI ?_;refine sR 1500 ?_;refine rtI ?_;exact a0a (by rw [edf];rfl) IsPure.out
 rintro n4 h0;refine sR 1600 ?_;refine rtI ?_;exact a0a (by rw [h0];rfl) IsPure.out
theorem c0G {n k:Nat}(hn:n≠0)(hk:k<10):Lib.decDigits (n*10+k)=Lib.decDigits n++[UInt8.ofNat (48+k)]:=by
 rw [Lib.decDigits,dif_neg (by omega)]
 congr 2
 ·omega
 ·congr 2;omega
theorem b3H {c:UInt8}(h:a0y c=true):UInt8.ofNat (48+(c.toNat - 48))=c:=by
 obtain ⟨h1,h2⟩:=a2s h;rw [← UInt8.toNat_inj,b0o _ (by omega)];omega
theorem c4N (l:List UInt8)(c:UInt8):dv (l++[c])=dv l*10+(c.toNat - 48):=by
 rw [a4H];simp [dv,dvF]
theorem c6X:∀ (n:Nat) (l:List UInt8),l.length=n→l≠[]→l.all a0y=true→l.head? ≠ some 48→dv l≠0∧Lib.decDigits (dv l)=l:=fun n=>by
 induction n with
 | zero=>intro l h0 h1;exact absurd (List.eq_nil_of_length_eq_zero h0) h1
 | succ n ih =>
  intro l h0 h1 h2 h3;rcases List.eq_nil_or_concat l with rfl|⟨m,c,rfl⟩
  ·exact absurd rfl h1
  ·rw [List.concat_eq_append] at h0 h1 h2 h3 ⊢
   rw [List.all_append,Bool.and_eq_true] at h2;have hc:a0y c=true:=by simpa using h2.2
   obtain ⟨c1,c2⟩:=a2s hc;rw [c4N]
   by_cases hm:m=[]
   ·subst hm
    have hc48:c≠48:=fun h=>h3 (by rw [h];rfl)
    have hcn:c.toNat≠48:=fun h=>hc48 (UInt8.toNat_inj.1 h)
    have e0:dv []*10+(c.toNat - 48)=c.toNat - 48:=by simp [dv,dvF]
    rw [e0];refine ⟨by omega,?_⟩;rw [Lib.decDigits,dif_pos (by omega),b3H hc];rfl
   ·have hh:m.head? ≠ some 48:=by
     cases m with
     | nil=>exact absurd rfl hm
     | cons a m=>exact h3
    obtain ⟨i1,i2⟩:=ih m (by rw [List.length_append,List.length_singleton] at h0;omega) hm h2.1 hh;refine ⟨by omega,?_⟩;rw [c0G i1 (by omega),i2,b3H hc]
theorem a7L {l:List UInt8}(h:a1f l=true):Lib.decDigits (dv l)=l∧(l≠[48]→dv l≠0):=by
 obtain ⟨h1,h2⟩:=a2z h
 by_cases h0:l=[48]
 ·subst h0
  refine ⟨?_,fun hh=>absurd rfl hh⟩;show Lib.decDigits 0=[48];rw [Lib.decDigits,dif_pos (by decide)];rfl
 ·have h3:l.head? ≠ some 48:=by
   unfold a1f at h;rw [Bool.and_eq_true,decide_eq_false h0,Bool.false_or] at h
   have:=h.2
   simpa using this
  obtain ⟨a,b⟩:=c6X _ l rfl h1 h2 h3;exact ⟨b,fun _=>a⟩
theorem b3u:∀ {l:List UInt8},a0d l<l.length→l.drop (a0d l)=47::l.drop (a0d l+1)
 | [],h=>by cases h
 | c::l,h=>by
  by_cases hc:c=47
  ·subst hc;rfl
  ·have e1:a0d (c::l)=a0d l+1:=by
    unfold a0d;rw [List.takeWhile_cons,if_pos (by simpa using hc),List.length_cons]
   rw [e1,List.length_cons] at h;rw [e1,List.drop_succ_cons,List.drop_succ_cons];exact b3u (by omega)
def b5E (l:List UInt8):Nat:=if a4g l then dv (a1x l) else 1
def a0g (l:List UInt8):Rat:=mkRat (rv (a2k l)) (b5E l)
theorem b6e {n:Int}{d:Nat}(hd:d≠0)(h:Nat.gcd n.natAbs d=1):(mkRat n d).num=n∧(mkRat n d).den=d:=by
 obtain ⟨q1,q2⟩:=a9R (x:=n) hd;rw [h,Nat.div_one] at q1 q2;rw [b3T] at q1;exact ⟨q1,q2⟩
theorem b0s {l:List UInt8}(h:chk l=0):a4E l=false∧(a0N l).length≤600∧(a1x l).length≤600∧(a4g l=true→Nat.gcd (dv (a0N l)) (dv (a1x l))=1):=by
 unfold chk at h;cases hb:a4E l
 ·rw [hb,if_neg (by decide)] at h
  split at h
  ·cases h
  ·rename_i h1
   split at h
   ·cases h
   ·rename_i h2
    refine ⟨rfl,by omega,by omega,fun h3=>?_⟩;rcases Nat.decEq (Nat.gcd (dv (a0N l)) (dv (a1x l))) 1 with h4|h4
    ·exact absurd ⟨h3,h4⟩ h2
    ·exact h4
 ·rw [hb,if_pos rfl] at h;cases h
theorem a3B {l:List UInt8}(h:chk l=0):(a0g l).num=rv (a2k l)∧(a0g l).den=b5E l∧txt (a0g l)=l∧(rv (a2k l)).natAbs=dv (a0N l):=by
 obtain ⟨h1,h2,h3,h4⟩:=b0s h;rw [a6g] at h1;simp only [Bool.or_eq_false_iff] at h1;obtain ⟨⟨b1,b2⟩,b3⟩:=h1;have p1:a1f (a0N l)=true:=by simpa using b1
 obtain ⟨d1,d2⟩:=a7L p1;have hab:(rv (a2k l)).natAbs=dv (a0N l):=by
  show (rv (a2k l)).natAbs=dv (a0l (a2k l));unfold rv;split<;>omega
 have hdd:a4g l=true→a1f (a1x l)=true∧a1x l≠[48]∧a1x l≠[49]:=fun hs=>by
  rw [hs,Bool.true_and] at b3;simp only [Bool.or_eq_false_iff] at b3;exact ⟨by simpa using b3.1.1,of_decide_eq_false b3.1.2,of_decide_eq_false b3.2⟩
 have hd0:b5E l≠0:=by
  unfold b5E;cases hs:a4g l
  ·simp
  ·obtain ⟨e1,e2,e3⟩:=hdd hs
   simpa using (a7L e1).2 e2
 have hg:Nat.gcd (rv (a2k l)).natAbs (b5E l)=1:=by
  rw [hab];unfold b5E;cases hs:a4g l
  ·simp
  ·simpa using h4 hs
 obtain ⟨m1,m2⟩:=b6e hd0 hg;refine ⟨m1,m2,?_,hab⟩;have hi:Lib.itoa (rv (a2k l))=a2k l:=by
  cases hb:a1R (a2k l)
  ·have e1:a0N l=a2k l:=by unfold a0N a0l;rw [hb];rfl
   rw [e1] at d1;have e2:rv (a2k l)=(dv (a2k l):Int):=by unfold rv a0l;rw [hb];rfl
   rw [e2];unfold Lib.itoa;rw [if_neg (by omega)];exact d1
  ·obtain ⟨m,hm⟩:∃ m,a2k l=45::m:=by
    cases hn:a2k l with
    | nil=>rw [hn] at hb;cases hb
    | cons c m =>
     rw [hn] at hb;exact ⟨m,by rw [show c=45 by simpa [a1R] using hb]⟩
   have e1:a0N l=m:=by unfold a0N;rw [hm];rfl
   have hne:a0N l≠[48]:=fun h=>by
    have:=(a5Y l).2.2.2
    rw [b2,hm] at this;have h2:=of_decide_eq_false this;rw [e1] at h;exact h2 (by rw [h])
   have hpos:=d2 hne;rw [e1] at d1 hpos;have e2:rv (a2k l) = -(dv m:Int):=by rw [hm];rfl
   rw [e2];unfold Lib.itoa;rw [if_pos (by omega),Int.natAbs_neg,Int.natAbs_natCast,d1,hm]
 unfold txt;rw [show (a0g l).num=rv (a2k l) from m1,show (a0g l).den=b5E l from m2,hi];have hle:=a2o l;cases hs:a4g l
 ·have e1:b5E l=1:=by unfold b5E;rw [hs];rfl
  have e2:=of_decide_eq_false (p:=a0d l<l.length) hs;rw [if_pos e1];unfold a2k;exact List.take_of_length_le (by omega)
 ·obtain ⟨e1,e2,e3⟩:=hdd hs
  have e4:b5E l=dv (a1x l):=by unfold b5E;rw [hs];rfl
  have e5:=(a7L e1).1;have e6:dv (a1x l)≠1:=fun h=>by
   rw [h,Lib.decDigits,dif_pos (by decide)] at e5;exact e3 e5.symm
  rw [e4,if_neg e6,e5];unfold a2k a1x;rw [← b3u (of_decide_eq_true hs),List.take_append_drop]
theorem a4a {l:List UInt8}(h:chk l=0):(a0N l).all a0y=true∧(a4g l=true→(a1x l).all a0y=true):=by
 obtain ⟨h1,-,-,-⟩:=b0s h;rw [a6g] at h1;simp only [Bool.or_eq_false_iff] at h1;obtain ⟨⟨b1,-⟩,b3⟩:=h1;refine ⟨(a2z (by simpa using b1)).2,fun hs=>?_⟩;rw [hs,Bool.true_and] at b3;simp only [Bool.or_eq_false_iff] at b3;exact (a2z (by simpa using b3.1.1)).2
theorem b3y {l:List UInt8}(h:chk l=0):rk (a0g l) 600:=by
 obtain ⟨m1,m2,-,m4⟩:=a3B h;obtain ⟨-,h2,h3,-⟩:=b0s h;obtain ⟨p1,p2⟩:=a4a h;have hb:∀ k,(10:Nat)^k≤BB^k:=fun k=>Nat.pow_le_pow_left (by decide) k
 refine ⟨?_,?_⟩
 ·rw [m1,m4]
  exact Nat.le_trans (a0V (Nat.lt_of_lt_of_le (a5j _ p1) (hb _))) h2
 ·rw [m2]
  unfold b5E;cases hs:a4g l
  ·exact Nat.le_trans (a0V (n:=1) (k:=1) (by decide)) (by decide)
  ·exact Nat.le_trans (a0V (Nat.lt_of_lt_of_le (a5j _ (p2 hs)) (hb _))) h3
theorem b1D {l:List UInt8}(h:chk l=0):FR (a0g l) (a3i l) 600:=by
 obtain ⟨m1,m2,-,-⟩:=a3B h;refine ⟨⟨a0Q _,?_,?_⟩,b3y h⟩
 ·show (mkG (rv (a2k l))).z=_
  rw [a3h,m1]
 ·show (if a4g l then dv (a1x l) else 1)=_
  rw [m2];rfl
theorem b3J {l:List UInt8}(hl:l.length≤100000)(h:chk l=0):a0b C0 70 [str (sb l)] (a3i l).D:=c6c l hl (a4a h).1 (a4a h).2
def a1L:List (List UInt8)→Nat
 | []=>0
 | l::r=>if chk l≠0 then chk l else a1L r
theorem a3S {v:List (List UInt8)}{i:Nat}(h:∀ (j:Nat) (l:List UInt8),j<i→v[j]? = some l→chk l=0):a1L v=a1L (v.drop i):=by
 induction i generalizing v with
 | zero=>rfl
 | succ i ih =>
  cases v with
  | nil=>rfl
  | cons l r =>
   have h0:=h 0 l (Nat.succ_pos i) rfl;rw [List.drop_succ_cons];show (if chk l≠0 then chk l else a1L r)=_;rw [if_neg (fun hh=>hh h0)];exact ih fun j m hj hm=>h (j+1) m (by omega) hm
theorem d3C (v:List (List UInt8))(hv:∀ l∈v,l.length≤100000)(hl:v.length≤1000000):a0b C0 31 [.sl false 1 (v.map fun l=>str (sb l))] (i64 (a1L v)):=by
 refine a0c.walk w1 d3a rfl fun F=>?_
 have el:(((v.map fun l=>str (sb l)).length:Nat):Int)=(v.length:Int):=by rw [List.length_map]
 refine sR 0 ?_;refine OkS.seq ?_;refine sR 100 ?_;refine OkS.block ?_;refine OkS.loop (α:=Nat × Nat) (fun p=>⟨[(0,.sl false 1 (v.map fun l=>str (sb l))),(3,i64 (p.1:Int))],[],p.2⟩) (fun p=>v.length - p.1) (fun p=>p.1≤v.length∧∀ (j:Nat) (l:List UInt8),j<p.1→v[j]? = some l→chk l=0) (0,_) ⟨Nat.zero_le _,fun j l hj=>absurd hj (Nat.not_lt_zero j)⟩ wkI ?_;rintro ⟨i,n⟩ F ⟨hi,ha⟩;dsimp only at hi ha ⊢;refine OkS.seq ?_;refine sZ 200 ?_;refine nwI el ?_;refine ifI ?_
 (refine brI (fun hlt=>?_) (fun hlt=>?_))<;>(try simp only [Bool.not_eq_true',Bool.not_eq_false'] at hlt)<;>(try simp only [hlt])
 ·have hi2:i<v.length:=by
   have:=of_decide_eq_true hlt
   omega
  obtain ⟨l,hl'⟩:∃ l,v[i]? = some l:=⟨v[i],List.getElem?_eq_getElem hi2⟩
  have hm:(v.map fun l=>str (sb l))[i]? = some (str (sb l)):=by rw [List.getElem?_map,hl'];rfl
  have cl:=b3v l (hv l (List.mem_of_getElem? hl'));have hd:a1L v=a1L (v.drop i):=a3S ha;have hdd:v.drop i=l::v.drop (i+1):=by
   rw [List.drop_eq_getElem_cons hi2];rw [List.getElem?_eq_getElem hi2] at hl';rw [Option.some.inj hl']
  have wi:IntKind.i64.wrap ((i:Int)+1)=((i+1:Nat):Int):=wI (by omega) (by omega);refine skI ?_;refine OkS.seq ?_;refine OkS.block ?_;refine sZ 400 ?_;refine gwI kN ?_;refine ixI kT hm ?_;refine gwI kN ?_;refine a0k.same _ cl inferInstance ?_;refine stI ?_
  by_cases g:chk l=0
  ·have e5:(((chk l:Nat):Int) != 0)=false:=by rw [g];rfl
   refine sZ 500 ?_;refine nwI e5 ?_;refine ifI ?_;refine skI ?_;refine OkS.reg w1 300 (by kernel_rfl) ?_;refine nwI wi ?_;refine ⟨(i+1,_),⟨hi2,fun j m hj hjm=>?_⟩,by dsimp only;omega,wkI⟩;rcases Nat.lt_or_ge j i with h|h
   ·exact ha j m h hjm
   ·have:j=i:=by dsimp only at hj;omega
    subst this;rw [hl'] at hjm;cases hjm;exact g
  ·have e5:(((chk l:Nat):Int) != 0)=true:=by
    have:(((chk l:Nat):Int)==0)=false:=beq_eq_false_iff_ne.2 (by omega)
    unfold bne;rw [this];rfl
   refine sZ 500 ?_;refine nwI e5 ?_;refine ifI ?_;refine sR 600 ?_;refine rtI ?_;refine a0a ?_ IsPure.out;rw [hd,hdd];show _=i64 ((if chk l≠0 then chk l else a1L (v.drop (i+1)):Nat):Int);rw [if_pos g]
 ·have hi2:i=v.length:=by
   have:=of_decide_eq_false hlt
   omega
  subst hi2;refine exI ?_;refine sR 700 ?_;refine rtI ?_;refine a0a ?_ IsPure.out;rw [a3S ha,List.drop_of_length_le (Nat.le_refl _)];rfl
theorem b8j (c:Nat):(97≤c∧c≤122)∨(122<c)∨(65≤c∧c≤90)∨((91≤c∧c≤96)∧c≠95)∨(c=95)∨(58≤c∧c≤64)∨(48≤c∧c≤57)∨(c<48∧c≠45∧c≠46)∨(c=45)∨(c=46):=by omega
theorem c9N (l:List UInt8)(hl:l.length≤1000000):a0b C0 141 [str (sb l)] (boo (a1l l)):=by
 refine a0c.walk w1 c9X rfl fun F=>?_
 have hsz:=a0t l;refine sR 0 ?_;refine OkS.seqX (α:=Nat) (fun n=>⟨[(0,str (sb l))],[],n⟩) (fun _=>1≤l.length∧l.length≤24) ?_ ?_
 ·by_cases h1:l.length<1
  ·have e1:decide ((l.length:Int)<1)=true:=decide_eq_true (by omega)
   refine sZ 100 ?_;refine nwI (ff2 hsz e1) ?_;refine gwI kT ?_;refine ifI ?_;refine sR 200 ?_;refine rtI ?_;exact a0a (by unfold a1l;rw [decide_eq_false (show ¬ 1≤l.length by omega)];simp) IsPure.out
  ·have e1:decide ((l.length:Int)<1)=false:=decide_eq_false (by omega)
   have e2:decide ((l.length:Int)>24)=decide (24<l.length):=decide_eq_decide.2 (by omega);refine sZ 100 ?_;refine nwI (ff2 hsz e1) ?_;refine gwI (ff3 kF hsz e2) ?_
   by_cases h2:24<l.length
   ·rw [decide_eq_true h2]
    refine ifI ?_;refine sR 200 ?_;refine rtI ?_;exact a0a (by unfold a1l;rw [decide_eq_false (show ¬ l.length≤24 by omega)];simp) IsPure.out
   ·rw [decide_eq_false h2]
    refine ifI ?_;refine skI ?_;exact ⟨rfl,_,⟨by omega,by omega⟩,wkI⟩
 rintro n0 ⟨l1,l2⟩;refine OkS.seq ?_;refine sR 300 ?_;refine OkS.block ?_;refine OkS.loop (α:=Nat × Nat) (fun p=>⟨[(0,str (sb l)),(3,i64 (p.1:Int))],[],p.2⟩) (fun p=>l.length - p.1) (fun p=>p.1≤l.length∧(l.take p.1).all (fun b=>a1w b.toNat)=true) (0,_) ⟨Nat.zero_le _,rfl⟩ wkI ?_;rintro ⟨i,n⟩ F ⟨hi,ha⟩;dsimp only at hi ha ⊢;refine OkS.seq ?_;refine sZ 400 ?_;refine nwI hsz ?_;refine ifI ?_
 (refine brI (fun hlt=>?_) (fun hlt=>?_))<;>(try simp only [Bool.not_eq_true',Bool.not_eq_false'] at hlt)<;>(try simp only [hlt])
 ·have hi2:i<l.length:=by
   have:=of_decide_eq_true hlt
   omega
  obtain ⟨c,hc⟩:∃ c,l[i]? = some c:=⟨l[i],List.getElem?_eq_getElem hi2⟩
  have hg:l.getD i 0=c:=by simp [hc]
  have wi:IntKind.i64.wrap ((i:Int)+1)=((i+1:Nat):Int):=wI (by omega) (by omega);refine skI ?_;refine OkS.seq ?_;refine OkS.block ?_;refine sZ 600 ?_;refine nwI (ff2 kN hg) ?_;have hcl:a1w c.toNat=false→a1l l=false:=fun h=>by
   unfold a1l;cases hall:l.all (fun b=>a1w b.toNat)
   ·rfl
   ·have:=List.all_eq_true.1 hall c (List.mem_of_getElem? hc)
    rw [h] at this;cases this
  have hsn:a1w c.toNat=true→(l.take (i+1)).all (fun b=>a1w b.toNat)=true:=fun h=>by
   rw [List.take_add_one,hc,List.all_append,ha];simpa using h
  have hc9:c.toNat<256:=c.toNat_lt;generalize c.toNat=c at *;refine OkS.seqX (α:=Nat) (fun n=>⟨[(0,str (sb l)),(3,i64 (i:Int)),(56,boo (!a1w c))],[],n⟩) (fun _=>True) ?_ ?_
  ·clear hcl hsn
   rcases b8j c with h|h|h|h|h|h|h|h|h|h
   ·skip
    have f1:decide ((c:Int)≥97)=true:=decide_eq_true (by omega);have f2:decide ((c:Int)≤122)=true:=decide_eq_true (by omega);have f3:decide ((c:Int)≥65)=true:=decide_eq_true (by omega);have f4:decide ((c:Int)≤90)=false:=decide_eq_false (by omega);have f5:decide ((c:Int)≥48)=true:=decide_eq_true (by omega);have f6:decide ((c:Int)≤57)=false:=decide_eq_false (by omega);have f7:((c:Int)==45)=false:=beq_eq_false_iff_ne.2 (by omega);have f8:((c:Int)==95)=false:=beq_eq_false_iff_ne.2 (by omega);have f9:((c:Int)==46)=false:=beq_eq_false_iff_ne.2 (by omega);have hnb:a1w c=true:=by
     unfold a1w;simp;omega
    rw [hnb];refine OkS.reg w1 700 (by kernel_rfl) ?_;refine gwI kB ?_
    try simp only [f1,f2,f3,f4,f5,f6,f7,f8,f9]
    refine gwI kB ?_
    try simp only [f1,f2,f3,f4,f5,f6,f7,f8,f9]
    refine gwI kB ?_
    try simp only [f1,f2,f3,f4,f5,f6,f7,f8,f9]
    refine gwI kB ?_
    try simp only [f1,f2,f3,f4,f5,f6,f7,f8,f9]
    refine gwI kB ?_
    try simp only [f1,f2,f3,f4,f5,f6,f7,f8,f9]
    refine gwI kB ?_
    try simp only [f1,f2,f3,f4,f5,f6,f7,f8,f9]
    refine gwI kB ?_
    try simp only [f1,f2,f3,f4,f5,f6,f7,f8,f9]
    refine gwI kB ?_
    try simp only [f1,f2,f3,f4,f5,f6,f7,f8,f9]
    refine gwI kB ?_
    try simp only [f1,f2,f3,f4,f5,f6,f7,f8,f9]
    exact ⟨by first|exact trivial|rfl|simp,_,trivial,wkI⟩
   ·skip
    have f1:decide ((c:Int)≥97)=true:=decide_eq_true (by omega);have f2:decide ((c:Int)≤122)=false:=decide_eq_false (by omega);have f3:decide ((c:Int)≥65)=true:=decide_eq_true (by omega);have f4:decide ((c:Int)≤90)=false:=decide_eq_false (by omega);have f5:decide ((c:Int)≥48)=true:=decide_eq_true (by omega);have f6:decide ((c:Int)≤57)=false:=decide_eq_false (by omega);have f7:((c:Int)==45)=false:=beq_eq_false_iff_ne.2 (by omega);have f8:((c:Int)==95)=false:=beq_eq_false_iff_ne.2 (by omega);have f9:((c:Int)==46)=false:=beq_eq_false_iff_ne.2 (by omega);have hnb:a1w c=false:=by
     unfold a1w;simp;omega
    rw [hnb];refine OkS.reg w1 700 (by kernel_rfl) ?_;refine gwI kB ?_
    try simp only [f1,f2,f3,f4,f5,f6,f7,f8,f9]
    refine gwI kB ?_
    try simp only [f1,f2,f3,f4,f5,f6,f7,f8,f9]
    refine gwI kB ?_
    try simp only [f1,f2,f3,f4,f5,f6,f7,f8,f9]
    refine gwI kB ?_
    try simp only [f1,f2,f3,f4,f5,f6,f7,f8,f9]
    refine gwI kB ?_
    try simp only [f1,f2,f3,f4,f5,f6,f7,f8,f9]
    refine gwI kB ?_
    try simp only [f1,f2,f3,f4,f5,f6,f7,f8,f9]
    refine gwI kB ?_
    try simp only [f1,f2,f3,f4,f5,f6,f7,f8,f9]
    refine gwI kB ?_
    try simp only [f1,f2,f3,f4,f5,f6,f7,f8,f9]
    refine gwI kB ?_
    try simp only [f1,f2,f3,f4,f5,f6,f7,f8,f9]
    exact ⟨by first|exact trivial|rfl|simp,_,trivial,wkI⟩
   ·skip
    have f1:decide ((c:Int)≥97)=false:=decide_eq_false (by omega);have f2:decide ((c:Int)≤122)=true:=decide_eq_true (by omega);have f3:decide ((c:Int)≥65)=true:=decide_eq_true (by omega);have f4:decide ((c:Int)≤90)=true:=decide_eq_true (by omega);have f5:decide ((c:Int)≥48)=true:=decide_eq_true (by omega);have f6:decide ((c:Int)≤57)=false:=decide_eq_false (by omega);have f7:((c:Int)==45)=false:=beq_eq_false_iff_ne.2 (by omega);have f8:((c:Int)==95)=false:=beq_eq_false_iff_ne.2 (by omega);have f9:((c:Int)==46)=false:=beq_eq_false_iff_ne.2 (by omega);have hnb:a1w c=true:=by
     unfold a1w;simp;omega
    rw [hnb];refine OkS.reg w1 700 (by kernel_rfl) ?_;refine gwI kB ?_
    try simp only [f1,f2,f3,f4,f5,f6,f7,f8,f9]
    refine gwI kB ?_
    try simp only [f1,f2,f3,f4,f5,f6,f7,f8,f9]
    refine gwI kB ?_
    try simp only [f1,f2,f3,f4,f5,f6,f7,f8,f9]
    refine gwI kB ?_
    try simp only [f1,f2,f3,f4,f5,f6,f7,f8,f9]
    refine gwI kB ?_
    try simp only [f1,f2,f3,f4,f5,f6,f7,f8,f9]
    refine gwI kB ?_
    try simp only [f1,f2,f3,f4,f5,f6,f7,f8,f9]
    refine gwI kB ?_
    try simp only [f1,f2,f3,f4,f5,f6,f7,f8,f9]
    refine gwI kB ?_
    try simp only [f1,f2,f3,f4,f5,f6,f7,f8,f9]
    refine gwI kB ?_
    try simp only [f1,f2,f3,f4,f5,f6,f7,f8,f9]
    exact ⟨by first|exact trivial|rfl|simp,_,trivial,wkI⟩
   ·skip
    have f1:decide ((c:Int)≥97)=false:=decide_eq_false (by omega);have f2:decide ((c:Int)≤122)=true:=decide_eq_true (by omega);have f3:decide ((c:Int)≥65)=true:=decide_eq_true (by omega);have f4:decide ((c:Int)≤90)=false:=decide_eq_false (by omega);have f5:decide ((c:Int)≥48)=true:=decide_eq_true (by omega);have f6:decide ((c:Int)≤57)=false:=decide_eq_false (by omega);have f7:((c:Int)==45)=false:=beq_eq_false_iff_ne.2 (by omega);have f8:((c:Int)==95)=false:=beq_eq_false_iff_ne.2 (by omega);have f9:((c:Int)==46)=false:=beq_eq_false_iff_ne.2 (by omega);have hnb:a1w c=false:=by
     unfold a1w;simp;omega
    rw [hnb];refine OkS.reg w1 700 (by kernel_rfl) ?_;refine gwI kB ?_
    try simp only [f1,f2,f3,f4,f5,f6,f7,f8,f9]
    refine gwI kB ?_
    try simp only [f1,f2,f3,f4,f5,f6,f7,f8,f9]
    refine gwI kB ?_
    try simp only [f1,f2,f3,f4,f5,f6,f7,f8,f9]
    refine gwI kB ?_
    try simp only [f1,f2,f3,f4,f5,f6,f7,f8,f9]
    refine gwI kB ?_
    try simp only [f1,f2,f3,f4,f5,f6,f7,f8,f9]
    refine gwI kB ?_
    try simp only [f1,f2,f3,f4,f5,f6,f7,f8,f9]
    refine gwI kB ?_
    try simp only [f1,f2,f3,f4,f5,f6,f7,f8,f9]
    refine gwI kB ?_
    try simp only [f1,f2,f3,f4,f5,f6,f7,f8,f9]
    refine gwI kB ?_
    try simp only [f1,f2,f3,f4,f5,f6,f7,f8,f9]
    exact ⟨by first|exact trivial|rfl|simp,_,trivial,wkI⟩
   ·skip
    have f1:decide ((c:Int)≥97)=false:=decide_eq_false (by omega);have f2:decide ((c:Int)≤122)=true:=decide_eq_true (by omega);have f3:decide ((c:Int)≥65)=true:=decide_eq_true (by omega);have f4:decide ((c:Int)≤90)=false:=decide_eq_false (by omega);have f5:decide ((c:Int)≥48)=true:=decide_eq_true (by omega);have f6:decide ((c:Int)≤57)=false:=decide_eq_false (by omega);have f7:((c:Int)==45)=false:=beq_eq_false_iff_ne.2 (by omega);have f8:((c:Int)==95)=true:=beq_iff_eq.2 (by omega);have f9:((c:Int)==46)=false:=beq_eq_false_iff_ne.2 (by omega);have hnb:a1w c=true:=by
     unfold a1w;simp;omega
    rw [hnb];refine OkS.reg w1 700 (by kernel_rfl) ?_;refine gwI kB ?_
    try simp only [f1,f2,f3,f4,f5,f6,f7,f8,f9]
    refine gwI kB ?_
    try simp only [f1,f2,f3,f4,f5,f6,f7,f8,f9]
    refine gwI kB ?_
    try simp only [f1,f2,f3,f4,f5,f6,f7,f8,f9]
    refine gwI kB ?_
    try simp only [f1,f2,f3,f4,f5,f6,f7,f8,f9]
    refine gwI kB ?_
    try simp only [f1,f2,f3,f4,f5,f6,f7,f8,f9]
    refine gwI kB ?_
    try simp only [f1,f2,f3,f4,f5,f6,f7,f8,f9]
    refine gwI kB ?_
    try simp only [f1,f2,f3,f4,f5,f6,f7,f8,f9]
    refine gwI kB ?_
    try simp only [f1,f2,f3,f4,f5,f6,f7,f8,f9]
    refine gwI kB ?_
    try simp only [f1,f2,f3,f4,f5,f6,f7,f8,f9]
    exact ⟨by first|exact trivial|rfl|simp,_,trivial,wkI⟩
   ·skip
    have f1:decide ((c:Int)≥97)=false:=decide_eq_false (by omega);have f2:decide ((c:Int)≤122)=true:=decide_eq_true (by omega);have f3:decide ((c:Int)≥65)=false:=decide_eq_false (by omega);have f4:decide ((c:Int)≤90)=true:=decide_eq_true (by omega);have f5:decide ((c:Int)≥48)=true:=decide_eq_true (by omega);have f6:decide ((c:Int)≤57)=false:=decide_eq_false (by omega);have f7:((c:Int)==45)=false:=beq_eq_false_iff_ne.2 (by omega);have f8:((c:Int)==95)=false:=beq_eq_false_iff_ne.2 (by omega);have f9:((c:Int)==46)=false:=beq_eq_false_iff_ne.2 (by omega);have hnb:a1w c=false:=by
     unfold a1w;simp;omega
    rw [hnb];refine OkS.reg w1 700 (by kernel_rfl) ?_;refine gwI kB ?_
    try simp only [f1,f2,f3,f4,f5,f6,f7,f8,f9]
    refine gwI kB ?_
    try simp only [f1,f2,f3,f4,f5,f6,f7,f8,f9]
    refine gwI kB ?_
    try simp only [f1,f2,f3,f4,f5,f6,f7,f8,f9]
    refine gwI kB ?_
    try simp only [f1,f2,f3,f4,f5,f6,f7,f8,f9]
    refine gwI kB ?_
    try simp only [f1,f2,f3,f4,f5,f6,f7,f8,f9]
    refine gwI kB ?_
    try simp only [f1,f2,f3,f4,f5,f6,f7,f8,f9]
    refine gwI kB ?_
    try simp only [f1,f2,f3,f4,f5,f6,f7,f8,f9]
    refine gwI kB ?_
    try simp only [f1,f2,f3,f4,f5,f6,f7,f8,f9]
    refine gwI kB ?_
    try simp only [f1,f2,f3,f4,f5,f6,f7,f8,f9]
    exact ⟨by first|exact trivial|rfl|simp,_,trivial,wkI⟩
   ·skip
    have f1:decide ((c:Int)≥97)=false:=decide_eq_false (by omega);have f2:decide ((c:Int)≤122)=true:=decide_eq_true (by omega);have f3:decide ((c:Int)≥65)=false:=decide_eq_false (by omega);have f4:decide ((c:Int)≤90)=true:=decide_eq_true (by omega);have f5:decide ((c:Int)≥48)=true:=decide_eq_true (by omega);have f6:decide ((c:Int)≤57)=true:=decide_eq_true (by omega);have f7:((c:Int)==45)=false:=beq_eq_false_iff_ne.2 (by omega);have f8:((c:Int)==95)=false:=beq_eq_false_iff_ne.2 (by omega);have f9:((c:Int)==46)=false:=beq_eq_false_iff_ne.2 (by omega);have hnb:a1w c=true:=by
     unfold a1w;simp;omega
    rw [hnb];refine OkS.reg w1 700 (by kernel_rfl) ?_;refine gwI kB ?_
    try simp only [f1,f2,f3,f4,f5,f6,f7,f8,f9]
    refine gwI kB ?_
    try simp only [f1,f2,f3,f4,f5,f6,f7,f8,f9]
    refine gwI kB ?_
    try simp only [f1,f2,f3,f4,f5,f6,f7,f8,f9]
    refine gwI kB ?_
    try simp only [f1,f2,f3,f4,f5,f6,f7,f8,f9]
    refine gwI kB ?_
    try simp only [f1,f2,f3,f4,f5,f6,f7,f8,f9]
    refine gwI kB ?_
    try simp only [f1,f2,f3,f4,f5,f6,f7,f8,f9]
    refine gwI kB ?_
    try simp only [f1,f2,f3,f4,f5,f6,f7,f8,f9]
    refine gwI kB ?_
    try simp only [f1,f2,f3,f4,f5,f6,f7,f8,f9]
    refine gwI kB ?_
    try simp only [f1,f2,f3,f4,f5,f6,f7,f8,f9]
    exact ⟨by first|exact trivial|rfl|simp,_,trivial,wkI⟩
   ·skip
    have f1:decide ((c:Int)≥97)=false:=decide_eq_false (by omega);have f2:decide ((c:Int)≤122)=true:=decide_eq_true (by omega);have f3:decide ((c:Int)≥65)=false:=decide_eq_false (by omega);have f4:decide ((c:Int)≤90)=true:=decide_eq_true (by omega);have f5:decide ((c:Int)≥48)=false:=decide_eq_false (by omega);have f6:decide ((c:Int)≤57)=true:=decide_eq_true (by omega);have f7:((c:Int)==45)=false:=beq_eq_false_iff_ne.2 (by omega);have f8:((c:Int)==95)=false:=beq_eq_false_iff_ne.2 (by omega);have f9:((c:Int)==46)=false:=beq_eq_false_iff_ne.2 (by omega);have hnb:a1w c=false:=by
     unfold a1w;simp;omega
    rw [hnb];refine OkS.reg w1 700 (by kernel_rfl) ?_;refine gwI kB ?_
    try simp only [f1,f2,f3,f4,f5,f6,f7,f8,f9]
    refine gwI kB ?_
    try simp only [f1,f2,f3,f4,f5,f6,f7,f8,f9]
    refine gwI kB ?_
    try simp only [f1,f2,f3,f4,f5,f6,f7,f8,f9]
    refine gwI kB ?_
    try simp only [f1,f2,f3,f4,f5,f6,f7,f8,f9]
    refine gwI kB ?_
    try simp only [f1,f2,f3,f4,f5,f6,f7,f8,f9]
    refine gwI kB ?_
    try simp only [f1,f2,f3,f4,f5,f6,f7,f8,f9]
    refine gwI kB ?_
    try simp only [f1,f2,f3,f4,f5,f6,f7,f8,f9]
    refine gwI kB ?_
    try simp only [f1,f2,f3,f4,f5,f6,f7,f8,f9]
    refine gwI kB ?_
    try simp only [f1,f2,f3,f4,f5,f6,f7,f8,f9]
    exact ⟨by first|exact trivial|rfl|simp,_,trivial,wkI⟩
   ·skip
    have f1:decide ((c:Int)≥97)=false:=decide_eq_false (by omega);have f2:decide ((c:Int)≤122)=true:=decide_eq_true (by omega);have f3:decide ((c:Int)≥65)=false:=decide_eq_false (by omega);have f4:decide ((c:Int)≤90)=true:=decide_eq_true (by omega);have f5:decide ((c:Int)≥48)=false:=decide_eq_false (by omega);have f6:decide ((c:Int)≤57)=true:=decide_eq_true (by omega);have f7:((c:Int)==45)=true:=beq_iff_eq.2 (by omega);have f8:((c:Int)==95)=false:=beq_eq_false_iff_ne.2 (by omega);have f9:((c:Int)==46)=false:=beq_eq_false_iff_ne.2 (by omega);have hnb:a1w c=true:=by
     unfold a1w;simp;omega
    rw [hnb];refine OkS.reg w1 700 (by kernel_rfl) ?_;refine gwI kB ?_
    try simp only [f1,f2,f3,f4,f5,f6,f7,f8,f9]
    refine gwI kB ?_
    try simp only [f1,f2,f3,f4,f5,f6,f7,f8,f9]
    refine gwI kB ?_
    try simp only [f1,f2,f3,f4,f5,f6,f7,f8,f9]
    refine gwI kB ?_
    try simp only [f1,f2,f3,f4,f5,f6,f7,f8,f9]
    refine gwI kB ?_
    try simp only [f1,f2,f3,f4,f5,f6,f7,f8,f9]
    refine gwI kB ?_
    try simp only [f1,f2,f3,f4,f5,f6,f7,f8,f9]
    refine gwI kB ?_
    try simp only [f1,f2,f3,f4,f5,f6,f7,f8,f9]
    refine gwI kB ?_
    try simp only [f1,f2,f3,f4,f5,f6,f7,f8,f9]
    refine gwI kB ?_
    try simp only [f1,f2,f3,f4,f5,f6,f7,f8,f9]
    exact ⟨by first|exact trivial|rfl|simp,_,trivial,wkI⟩
   ·skip
    have f1:decide ((c:Int)≥97)=false:=decide_eq_false (by omega);have f2:decide ((c:Int)≤122)=true:=decide_eq_true (by omega);have f3:decide ((c:Int)≥65)=false:=decide_eq_false (by omega);have f4:decide ((c:Int)≤90)=true:=decide_eq_true (by omega);have f5:decide ((c:Int)≥48)=false:=decide_eq_false (by omega);have f6:decide ((c:Int)≤57)=true:=decide_eq_true (by omega);have f7:((c:Int)==45)=false:=beq_eq_false_iff_ne.2 (by omega);have f8:((c:Int)==95)=false:=beq_eq_false_iff_ne.2 (by omega);have f9:((c:Int)==46)=true:=beq_iff_eq.2 (by omega);have hnb:a1w c=true:=by
     unfold a1w;simp;omega
    rw [hnb];refine OkS.reg w1 700 (by kernel_rfl) ?_;refine gwI kB ?_
    try simp only [f1,f2,f3,f4,f5,f6,f7,f8,f9]
    refine gwI kB ?_
    try simp only [f1,f2,f3,f4,f5,f6,f7,f8,f9]
    refine gwI kB ?_
    try simp only [f1,f2,f3,f4,f5,f6,f7,f8,f9]
    refine gwI kB ?_
    try simp only [f1,f2,f3,f4,f5,f6,f7,f8,f9]
    refine gwI kB ?_
    try simp only [f1,f2,f3,f4,f5,f6,f7,f8,f9]
    refine gwI kB ?_
    try simp only [f1,f2,f3,f4,f5,f6,f7,f8,f9]
    refine gwI kB ?_
    try simp only [f1,f2,f3,f4,f5,f6,f7,f8,f9]
    refine gwI kB ?_
    try simp only [f1,f2,f3,f4,f5,f6,f7,f8,f9]
    refine gwI kB ?_
    try simp only [f1,f2,f3,f4,f5,f6,f7,f8,f9]
    exact ⟨by first|exact trivial|rfl|simp,_,trivial,wkI⟩
  rintro n1 -;cases hb:a1w c
  ·refine ifI ?_
   refine sR 800 ?_;refine rtI ?_;exact a0a (by rw [hcl hb]) IsPure.out
  ·refine ifI ?_
   refine skI ?_;refine OkS.reg w1 500 (by kernel_rfl) ?_;refine nwI wi ?_;exact ⟨(i+1,_),⟨hi2,hsn hb⟩,by dsimp only;omega,wkI⟩
 ·have hi2:i=l.length:=by
   have:=of_decide_eq_false hlt
   omega
  subst hi2;rw [List.take_of_length_le (Nat.le_refl _)] at ha;refine exI ?_;refine sR 900 ?_;refine rtI ?_;exact a0a (by unfold a1l;rw [ha,decide_eq_true l1,decide_eq_true l2];rfl) IsPure.out
def a2I:List Int→Int
 | []=>0
 | e::r=>if e≠0 then e else a2I r
theorem a7S {v:List Int}{i:Nat}(h:∀ (j:Nat) (e:Int),j<i→v[j]? = some e→e=0):a2I v=a2I (v.drop i):=by
 induction i generalizing v with
 | zero=>rfl
 | succ i ih =>
  cases v with
  | nil=>rfl
  | cons l r =>
   have h0:=h 0 l (Nat.succ_pos i) rfl;rw [List.drop_succ_cons];show (if l≠0 then l else a2I r)=_;rw [if_neg (fun hh=>hh h0)];exact ih fun j m hj hm=>h (j+1) m (by omega) hm
theorem a3y {a:Int}(h:a≠0):(a != 0)=true:=by
 have:(a==0)=false:=beq_eq_false_iff_ne.2 h
 unfold bne;rw [this];rfl
theorem b0m (v:List Int)(hl:v.length≤1000):a0b C0 96 [.sl true 1 (v.map fun e=>i64 e)] (i64 (a2I v)):=by
 refine a0c.walk w1 d0u rfl fun F=>?_
 have el:(((v.map fun e=>i64 e).length:Nat):Int)=(v.length:Int):=by rw [List.length_map]
 refine sR 0 ?_;refine OkS.seq ?_;refine sZ 100 ?_;refine nwI el ?_;refine OkS.block ?_;refine OkS.loop (α:=Nat × Nat) (fun p=>⟨[(5,.sl true 1 (v.map fun e=>i64 e)),(6,i64 v.length),(7,i64 (p.1:Int))],[],p.2⟩) (fun p=>v.length - p.1) (fun p=>p.1≤v.length∧∀ (j:Nat) (e:Int),j<p.1→v[j]? = some e→e=0) (0,_) ⟨Nat.zero_le _,fun j l hj=>absurd hj (Nat.not_lt_zero j)⟩ wkI ?_;rintro ⟨i,n⟩ F ⟨hi,ha⟩;dsimp only at hi ha ⊢;refine sR 200 ?_;refine OkS.seq ?_;refine ifI ?_
 (refine brI (fun hlt=>?_) (fun hlt=>?_))<;>(try simp only [Bool.not_eq_true',Bool.not_eq_false'] at hlt)<;>(try simp only [hlt])
 ·have hi2:i<v.length:=by
   have:=of_decide_eq_true hlt
   omega
  obtain ⟨l,hl'⟩:∃ l,v[i]? = some l:=⟨v[i],List.getElem?_eq_getElem hi2⟩
  have hm:(v.map fun e=>i64 e)[i]? = some (i64 l):=by rw [List.getElem?_map,hl'];rfl
  have hd:a2I v=a2I (v.drop i):=a7S ha;have hdd:v.drop i=l::v.drop (i+1):=by
   rw [List.drop_eq_getElem_cons hi2];rw [List.getElem?_eq_getElem hi2] at hl';rw [Option.some.inj hl']
  have wi:IntKind.i64.wrap ((i:Int)+1)=((i+1:Nat):Int):=wI (by omega) (by omega);refine skI ?_;refine OkS.seq ?_;refine OkS.block ?_;refine sZ 300 ?_;refine gwI kN ?_;refine ixI kT hm ?_;refine gwI kN ?_
  by_cases g:l=0
  ·have e5:(l != 0)=false:=by rw [g];rfl
   refine sZ 400 ?_;refine nwI e5 ?_;refine ifI ?_;refine skI ?_;refine OkS.reg w1 600 (by kernel_rfl) ?_;refine nwI wi ?_;refine ⟨(i+1,_),⟨hi2,fun j m hj hjm=>?_⟩,by dsimp only;omega,wkI⟩;rcases Nat.lt_or_ge j i with h|h
   ·exact ha j m h hjm
   ·have:j=i:=by dsimp only at hj;omega
    subst this;rw [hl'] at hjm;cases hjm;exact g
  ·have e5:(l != 0)=true:=a3y g
   refine sZ 400 ?_;refine nwI e5 ?_;refine ifI ?_;refine sR 500 ?_;refine rtI ?_;refine a0a ?_ IsPure.out;rw [hd,hdd];show _=i64 (if l≠0 then l else a2I (v.drop (i+1)));rw [if_pos g]
 ·have hi2:i=v.length:=by
   have:=of_decide_eq_false hlt
   omega
  subst hi2;refine exI ?_;refine sR 700 ?_;refine rtI ?_;refine a0a ?_ IsPure.out;rw [a7S ha,List.drop_of_length_le (Nat.le_refl _)];rfl
def a8A (s:ByteArray):Bool:=a1t s ⟨#[100,111,119,110]⟩||(a1t s ⟨#[117,112]⟩||(a1t s ⟨#[104,97,108,102,45,117,112]⟩||a1t s ⟨#[104,97,108,102,45,101,118,101,110]⟩))
def a3u (k st:List UInt8):Nat:=if a8A (sb k) then (if chk st≠0 then chk st else if a7W (a0g st)≤0 then 3 else 0) else 20
theorem c4d {l:List UInt8}(h:chk l=0):c0F (a0g l):=a8y (b3y h) (by decide)
theorem b8u {l:List UInt8}(h:chk l=0):a0b C0 78 [str (sb l)] (i64 (a7W (a0g l))):=by
 have:=b7e (a0g l) (c4d h)
 unfold rR at this;rw [(a3B h).2.2.1] at this;exact this
theorem b1x {a b:List UInt8}(ha:chk a=0)(hb:chk b=0):a0b C0 34 [str (sb a),str (sb b)] (i64 (a2F (a0g a) (a0g b))):=by
 have cc:=d4z (a0g a) (a0g b) 600 600 (b3y ha) (b3y hb) (by decide);unfold rR at cc;rw [(a3B ha).2.2.1,(a3B hb).2.2.1] at cc;exact cc
theorem d3h (k st:List UInt8)(h1:st.length≤100000):a0b C0 142 [.agg [str (sb k),str (sb st)]] (i64 (a3u k st)):=by
 refine a0c.walk w1 c9w rfl fun F=>?_
 have c1:=b3v st h1;refine sR 0 ?_;refine OkS.seqX (α:=Nat) (fun n=>⟨[(1,.optr 0 0 2 0 0)],[⟨0,0,94,2,[.agg [str (sb k),str (sb st)]]⟩],n⟩) (fun _=>a8A (sb k)=true) ?_ ?_
 ·unfold a3u a8A
  obtain ⟨b1,e1⟩:∃ b,a1t (sb k) ⟨#[100,111,119,110]⟩=b:=⟨_,rfl⟩
  obtain ⟨b2,e2⟩:∃ b,a1t (sb k) ⟨#[117,112]⟩=b:=⟨_,rfl⟩
  obtain ⟨b3,e3⟩:∃ b,a1t (sb k) ⟨#[104,97,108,102,45,117,112]⟩=b:=⟨_,rfl⟩
  obtain ⟨b4,e4⟩:∃ b,a1t (sb k) ⟨#[104,97,108,102,45,101,118,101,110]⟩=b:=⟨_,rfl⟩
  rw [e1,e2,e3,e4];refine OkS.seq ?_;cases b1
  ·cases b2
   ·cases b3
    ·cases b4
     ·refine OkS.reg w1 100 (by kernel_rfl) ?_
      refine nwI (ff6 e1 e2 e3 e4 kT kF) ?_;refine gwI (ff6 e1 e2 e3 e4 kT kF) ?_;refine gwI (ff6 e1 e2 e3 e4 kT kF) ?_;refine gwI (ff6 e1 e2 e3 e4 kT kF) ?_;refine ifI ?_;refine sR 200 ?_;refine rtI ?_;exact a0a rfl IsPure.out
     ·refine OkS.reg w1 100 (by kernel_rfl) ?_
      refine nwI (ff6 e1 e2 e3 e4 kT kF) ?_;refine gwI (ff6 e1 e2 e3 e4 kT kF) ?_;refine gwI (ff6 e1 e2 e3 e4 kT kF) ?_;refine gwI (ff6 e1 e2 e3 e4 kT kF) ?_;refine ifI ?_;refine skI ?_;exact ⟨rfl,_,rfl,wkI⟩
    ·refine OkS.reg w1 100 (by kernel_rfl) ?_
     refine nwI (ff6 e1 e2 e3 e4 kT kF) ?_;refine gwI (ff6 e1 e2 e3 e4 kT kF) ?_;refine gwI (ff6 e1 e2 e3 e4 kT kF) ?_;refine gwI (ff6 e1 e2 e3 e4 kT kF) ?_;refine ifI ?_;refine skI ?_;exact ⟨rfl,_,rfl,wkI⟩
   ·refine OkS.reg w1 100 (by kernel_rfl) ?_
    refine nwI (ff6 e1 e2 e3 e4 kT kF) ?_;refine gwI (ff6 e1 e2 e3 e4 kT kF) ?_;refine gwI (ff6 e1 e2 e3 e4 kT kF) ?_;refine gwI (ff6 e1 e2 e3 e4 kT kF) ?_;refine ifI ?_;refine skI ?_;exact ⟨rfl,_,rfl,wkI⟩
  ·refine OkS.reg w1 100 (by kernel_rfl) ?_
   refine nwI (ff6 e1 e2 e3 e4 kT kF) ?_;refine gwI (ff6 e1 e2 e3 e4 kT kF) ?_;refine gwI (ff6 e1 e2 e3 e4 kT kF) ?_;refine gwI (ff6 e1 e2 e3 e4 kT kF) ?_;refine ifI ?_;refine skI ?_;exact ⟨rfl,_,rfl,wkI⟩
 rintro n0 hk;unfold a3u;rw [if_pos hk];refine sR 300 ?_;refine cI c1 ?_
 by_cases g1:chk st=0
 ·have e8:(((chk st:Nat):Int)==0)=true:=by rw [g1];rfl
  have cs:=b8u g1;rw [if_neg (fun h=>h g1)];refine OkS.seq ?_;refine sZ 400 ?_;refine nwI e8 ?_;refine gwI kT ?_;refine gcI kT ?_;refine a0k.same _ cs inferInstance ?_;refine gwI kT ?_
  by_cases g3:a7W (a0g st)≤0
  ·rw [decide_eq_true g3,if_pos g3]
   refine ifI ?_;refine sR 500 ?_;refine rtI ?_;exact a0a rfl IsPure.out
  ·rw [decide_eq_false g3,if_neg g3]
   refine ifI ?_;refine skI ?_;refine sR 600 ?_;refine rtI ?_;exact a0a (by rw [g1]) IsPure.out
 ·have e8:(((chk st:Nat):Int)==0)=false:=beq_eq_false_iff_ne.2 (by omega)
  rw [if_pos g1];refine OkS.seq ?_;refine sZ 400 ?_;refine nwI e8 ?_;refine gwI kF ?_;refine ifI ?_;refine skI ?_;refine sR 600 ?_;refine rtI ?_;exact a0a rfl IsPure.out
structure a1B where
 name:List UInt8
 tol:List UInt8
 kind:List UInt8
 step:List UInt8
 deriving Inhabited
def a1B.D (f:a1B):D:=.agg [str (sb f.name),str (sb f.tol),str (sb f.kind),str (sb f.step)]
def a1B.few (f:a1B):Prop:=f.name.length≤100000∧f.tol.length≤100000∧f.kind.length≤100000∧f.step.length≤100000
instance  (f:a1B):CellsPure f.D:=by unfold a1B.D;exact inferInstance
instance  (f:a1B):IsPure f.D:=by unfold a1B.D;exact inferInstance
def a0W (f:a1B):Nat:=if a1l f.name then (if chk f.tol≠0 then chk f.tol else if a7W (a0g f.tol)<0 then 3 else a3u f.kind f.step) else 8
theorem c5p (f:a1B)(hf:f.few):a0b C0 75 [f.D] (i64 (a0W f)):=by
 refine a0c.walk w1 d3b rfl fun F=>?_
 have cn:=c9N f.name (by have:=hf.1;omega);have c1:=b3v f.tol hf.2.1;have cr:=d3h f.kind f.step hf.2.2.2;unfold a1B.D a0W;refine sR 0 ?_;refine OkS.seq ?_;refine sR 100 ?_;refine cI cn ?_;cases hn:a1l f.name
 ·rw [if_neg (by decide)]
  refine ifI ?_;refine sR 200 ?_;refine rtI ?_;exact a0a rfl IsPure.out
 rw [if_pos rfl];refine ifI ?_;refine skI ?_;refine sR 300 ?_;refine cI c1 ?_
 by_cases g1:chk f.tol=0
 ·have e8:(((chk f.tol:Nat):Int)==0)=true:=by rw [g1];rfl
  have cs:=b8u g1;rw [if_neg (fun h=>h g1)];refine OkS.seq ?_;refine sZ 400 ?_;refine nwI e8 ?_;refine gwI kT ?_;refine gcI kT ?_;refine a0k.same _ cs inferInstance ?_;refine gwI kT ?_
  by_cases g3:a7W (a0g f.tol)<0
  ·rw [decide_eq_true g3,if_pos g3]
   refine ifI ?_;refine rI 500 ?_;refine OkS.seq ?_;refine sR 600 ?_;refine ifI ?_;refine skI ?_;refine sR 800 ?_;refine rtI ?_;exact a0a rfl IsPure.out
  ·rw [decide_eq_false g3,if_neg g3]
   refine ifI ?_;refine skI ?_;refine OkS.seq ?_;refine sZ 600 ?_;refine nwI e8 ?_;refine ifI ?_;refine rI 700 ?_;refine cI cr ?_;refine sR 800 ?_;refine rtI ?_;exact a0a rfl IsPure.out
 ·have e8:(((chk f.tol:Nat):Int)==0)=false:=beq_eq_false_iff_ne.2 (by omega)
  rw [if_pos g1];refine OkS.seq ?_;refine sZ 400 ?_;refine nwI e8 ?_;refine gwI kF ?_;refine ifI ?_;refine skI ?_;refine OkS.seq ?_;refine sZ 600 ?_;refine nwI e8 ?_;refine ifI ?_;refine skI ?_;refine sR 800 ?_;refine rtI ?_;exact a0a rfl IsPure.out
theorem a5Q (a b:List UInt8):a1t (sb a) (sb b)=decide (a=b):=by
 unfold a1t
 by_cases h:a=b
 ·subst h;simp
 ·rw [decide_eq_false h]
  apply beq_eq_false_iff_ne.2;intro hh;apply h;simpa [sb] using hh
theorem a1E (l:List UInt8):a1t (sb l) ⟨#[]⟩=decide (l=[]):=a5Q l []
def a2v (l:List UInt8):Nat:=if l=[] then 0 else chk l
theorem a1U {l:List UInt8}(h:a2v l=0)(h0:l≠[]):chk l=0:=by
 unfold a2v at h;rw [if_neg h0] at h;exact h
def a6V (a b c d:List UInt8):Bool :=
 (decide (a=[])||(!decide (c=[]) && !decide (a2F (a0g c) (a0g a)<0)))&&(decide (b=[])||(!decide (d=[])&&decide (a2F (a0g d) (a0g b)≤0)))
theorem c2M (l:List UInt8)(h:l.length≤100000):a0b C0 143 [str (sb l)] (i64 (a2v l)):=by
 refine a0c.walk w1 d0r rfl fun F=>?_
 have c1:=b3v l h;have e1:=a1E l;unfold a2v;refine sR 0 ?_;refine OkS.seq ?_
 by_cases g:l=[]
 ·rw [decide_eq_true g] at e1
  rw [if_pos g];refine sZ 100 ?_;refine nwI (ff3 e1 kT kF) ?_;refine ifI ?_;refine sR 200 ?_;refine rtI ?_;exact a0a rfl IsPure.out
 ·rw [decide_eq_false g] at e1
  rw [if_neg g];refine sZ 100 ?_;refine nwI (ff3 e1 kT kF) ?_;refine ifI ?_;refine skI ?_;refine sR 300 ?_;refine cI c1 ?_;refine rtI ?_;exact a0a rfl IsPure.out
theorem b9B (a b c d:List UInt8)(ha:a2v a=0)(hb:a2v b=0)(hc:a2v c=0)(hd:a2v d=0) :
  a0b C0 144 [str (sb a),str (sb b),str (sb c),str (sb d)] (boo (a6V a b c d)):=by
 refine a0c.walk w1 c9y rfl fun F=>?_
 have ea:=a1E a;have eb:=a1E b;have ec:=a1E c;have ed:=a1E d;refine sR 0 ?_;refine OkS.seqX (α:=Nat) (fun n=>⟨[(0,str (sb a)),(1,str (sb b)),(2,str (sb c)),(3,str (sb d))],[],n⟩) (fun _=>(decide (a=[])||(!decide (c=[]) && !decide (a2F (a0g c) (a0g a)<0)))=true) ?_ ?_
 ·unfold a6V
  by_cases ga:a=[]
  ·rw [decide_eq_true ga] at ea ⊢
   refine sZ 100 ?_;refine nwI (ff4 ea eb kT kF) ?_;refine gwI kB ?_
   try simp only [ec,ed,Bool.not_true,Bool.not_false]
   refine ifI ?_;refine skI ?_;exact ⟨rfl,_,rfl,wkI⟩
  rw [decide_eq_false ga] at ea ⊢
  by_cases gc:c=[]
  ·rw [decide_eq_true gc] at ec ⊢
   refine sZ 100 ?_;refine nwI (ff4 ea eb kT kF) ?_;refine gwI kB ?_
   try simp only [ec,ed,Bool.not_true,Bool.not_false]
   refine gwI kB ?_
   try simp only [ec,ed,Bool.not_true,Bool.not_false]
   refine ifI ?_;refine sR 200 ?_;refine rtI ?_;exact a0a rfl IsPure.out
  rw [decide_eq_false gc] at ec ⊢;have cc:=b1x (a1U hc gc) (a1U ha ga);refine sZ 100 ?_;refine nwI (ff4 ea eb kT kF) ?_;refine gwI kB ?_
  try simp only [ec,ed,Bool.not_true,Bool.not_false]
  refine gwI kB ?_;refine gcI kB ?_;refine a0k.same _ cc inferInstance ?_;refine gwI kB ?_
  try simp only [ec,ed,Bool.not_true,Bool.not_false]
  by_cases g3:a2F (a0g c) (a0g a)<0
  ·rw [decide_eq_true g3]
   refine ifI ?_;refine sR 200 ?_;refine rtI ?_;exact a0a rfl IsPure.out
  ·rw [decide_eq_false g3]
   refine ifI ?_;refine skI ?_;exact ⟨rfl,_,rfl,wkI⟩
 rintro n0 h1;unfold a6V;rw [h1]
 by_cases gb:b=[]
 ·rw [decide_eq_true gb] at eb ⊢
  refine sZ 300 ?_;refine nwI (ff4 ea eb kT kF) ?_;refine gwI kB ?_
  try simp only [ec,ed,Bool.not_true,Bool.not_false]
  refine rtI ?_;exact a0a rfl IsPure.out
 rw [decide_eq_false gb] at eb ⊢
 by_cases gd:d=[]
 ·rw [decide_eq_true gd] at ed ⊢
  refine sZ 300 ?_;refine nwI (ff4 ea eb kT kF) ?_;refine gwI kB ?_
  try simp only [ec,ed,Bool.not_true,Bool.not_false]
  refine gwI kB ?_
  try simp only [ec,ed,Bool.not_true,Bool.not_false]
  refine rtI ?_;exact a0a rfl IsPure.out
 rw [decide_eq_false gd] at ed ⊢;have cc:=b1x (a1U hd gd) (a1U hb gb);refine sZ 300 ?_;refine nwI (ff4 ea eb kT kF) ?_;refine gwI kB ?_
 try simp only [ec,ed,Bool.not_true,Bool.not_false]
 refine gwI kB ?_;refine gcI kB ?_;refine a0k.same _ cc inferInstance ?_;refine gwI kB ?_
 try simp only [ec,ed,Bool.not_true,Bool.not_false]
 refine rtI ?_;exact a0a rfl IsPure.out
def a7n (f:Nat→Nat):Nat→Nat
 | 0=>0
 | n+1=>if a7n f n≠0 then a7n f n else f n
theorem a2W {f:Nat→Nat}{n:Nat}(h:∀ j,j<n→f j=0):a7n f n=0:=by
 induction n with
 | zero=>rfl
 | succ n ih =>
  have:=ih fun j hj=>h j (by omega)
  unfold a7n;rw [if_neg (fun hh=>hh this)];exact h n (by omega)
theorem a6b {f:Nat→Nat}{i n:Nat}(h:∀ j,j<i→f j=0)(hi:i<n)(h0:f i≠0):a7n f n=f i:=by
 induction n with
 | zero=>omega
 | succ n ih =>
  unfold a7n;rcases Nat.lt_or_ge i n with hlt|hge
  ·have:=ih hlt
   rw [if_pos (by rw [this];exact h0),this]
  ·have:i=n:=by omega
   subst this;rw [if_neg (fun hh=>hh (a2W h))]
theorem a7g {f:Nat→Nat}{n:Nat}(h:a7n f n=0):∀ j,j<n→f j=0:=by
 induction n with
 | zero=>intro j hj;omega
 | succ n ih =>
  unfold a7n at h
  by_cases h0:a7n f n=0
  ·rw [if_neg (fun hh=>hh h0)] at h
   intro j hj;rcases Nat.lt_or_ge j n with hl|hg
   ·exact ih h0 j hl
   ·have:j=n:=by omega
    subst this;exact h
  ·rw [if_pos h0] at h
   exact absurd h h0
structure a1b where
 name:List UInt8
 least:List (List UInt8)
 most:List (List UInt8)
 deriving Inhabited
def a1b.D (g:a1b):D:=.agg [str (sb g.name),.sl false 1 (g.least.map fun l=>str (sb l)),.sl false 1 (g.most.map fun l=>str (sb l))]
instance  (g:a1b):CellsPure g.D:=by unfold a1b.D;exact inferInstance
instance  (g:a1b):IsPure g.D:=by unfold a1b.D;exact inferInstance
def a1b.few (g:a1b):Prop:=g.name.length≤100000∧g.least.length≤100000∧g.most.length≤100000∧(∀ l∈g.least,l.length≤100000)∧(∀ l∈g.most,l.length≤100000)
structure a1u where
 fs:List a1B
 gs:List a1b
def a1u.D (s:a1u):D:=.agg [.sl false 4 (s.fs.map a1B.D),.sl false 3 (s.gs.map a1b.D)]
instance  (s:a1u):CellsPure s.D:=by unfold a1u.D;exact inferInstance
instance  (s:a1u):IsPure s.D:=by unfold a1u.D;exact inferInstance
def a1u.few (s:a1u):Prop:=s.fs.length≤100000∧s.gs.length≤100000∧(∀ f∈s.fs,f.few)∧(∀ g∈s.gs,g.few)
def a0Z (a b:List UInt8)(p:Option (List UInt8 × List UInt8)):Nat :=
 if a2v a≠0 then a2v a else if a2v b≠0 then a2v b else if a≠[]∧b≠[]∧a2F (a0g a) (a0g b)>0 then 3 else match p with
  | none=>0
  | some (c,d)=>if a6V a b c d then 0 else 11
def lv (l:List (List UInt8))(k:Nat):List UInt8:=l.getD k []
def a1D (gs:List a1b)(i k:Nat):Option (List UInt8 × List UInt8):=if i=0 then none else some (lv (gs.getD (i - 1) default).least k,lv (gs.getD (i - 1) default).most k)
def a0A (n:Nat)(gs:List a1b)(i:Nat):Nat :=
 let g:=gs.getD i default
 if a1l g.name then
  (if (gs.take i).any (fun x=>decide (x.name=g.name)) then 9
  else if g.least.length=n∧g.most.length=n then a7n (fun k=>a0Z (lv g.least k) (lv g.most k) (a1D gs i k)) n
  else 2)
 else 8
def a1Q (fs:List a1B)(i:Nat):Nat :=
 if a0W (fs.getD i default)≠0 then a0W (fs.getD i default) else if (fs.take i).any (fun x=>decide (x.name=(fs.getD i default).name)) then 9 else 0
def b0N (n:Nat):Nat:=if n=0 then 2 else if n>8 then 5 else 0
def b2g (n:Nat):Nat:=if n=0 then 2 else if n>16 then 5 else 0
def a0n (s:a1u):Nat :=
 if b0N s.fs.length≠0 then b0N s.fs.length
 else if a7n (a1Q s.fs) s.fs.length≠0 then a7n (a1Q s.fs) s.fs.length
 else if b2g s.gs.length≠0 then b2g s.gs.length
 else a7n (a0A s.fs.length s.gs) s.gs.length
def gOk (n:Nat)(g:a1b):Prop:=g.least.length=n∧g.most.length=n∧∀ k,k<n→a2v (lv g.least k)=0∧a2v (lv g.most k)=0
theorem b9r {a b:List UInt8}{p:Option (List UInt8 × List UInt8)}(h:a0Z a b p=0):a2v a=0∧a2v b=0:=by
 unfold a0Z at h
 by_cases ha:a2v a=0
 ·rw [if_neg (fun hh=>hh ha)] at h
  by_cases hb:a2v b=0
  ·exact ⟨ha,hb⟩
  ·rw [if_pos hb] at h
   exact absurd h hb
 ·rw [if_pos ha] at h
  exact absurd h ha
theorem a5k {n:Nat}{gs:List a1b}{i:Nat}(h:a0A n gs i=0):gOk n (gs.getD i default):=by
 unfold a0A at h;dsimp only at h;split at h
 ·split at h
  ·cases h
  ·split at h
   ·rename_i hh
    exact ⟨hh.1,hh.2,fun k hk=>b9r (a7g h k hk)⟩
   ·cases h
 ·cases h
theorem a3r {l:List (List UInt8)}{k:Nat}(h:k<l.length):l[k]? = some (lv l k):=by
 unfold lv;rw [List.getD_eq_getElem?_getD,List.getElem?_eq_getElem h];rfl
theorem a2J {l:List (List UInt8)}{k:Nat}(h:k<l.length):(l.map fun x=>str (sb x))[k]? = some (str (sb (lv l k))):=by
 rw [List.getElem?_map,a3r h];rfl
theorem a5z {l:List (List UInt8)}{k:Nat}(h:k<l.length)(hf:∀ x∈l,x.length≤100000):(lv l k).length≤100000:=hf _ (List.mem_of_getElem? (a3r h))
theorem a2G {gs:List a1b}{i:Nat}(h:i<gs.length):gs[i]? = some (gs.getD i default):=by
 rw [List.getD_eq_getElem?_getD,List.getElem?_eq_getElem h];rfl
theorem b1R {gs:List a1b}{i:Nat}(h:i<gs.length):(gs.map a1b.D)[i]? = some (.agg [str (sb (gs.getD i default).name),.sl false 1 ((gs.getD i default).least.map fun l=>str (sb l)),.sl false 1 ((gs.getD i default).most.map fun l=>str (sb l))]):=by
 rw [List.getElem?_map,a2G h];rfl
theorem a8p {fs:List a1B}{i:Nat}(h:i<fs.length):fs[i]? = some (fs.getD i default):=by
 rw [List.getD_eq_getElem?_getD,List.getElem?_eq_getElem h];rfl
theorem b7D {fs:List a1B}{i:Nat}(h:i<fs.length):(fs.map a1B.D)[i]? = some (.agg [str (sb (fs.getD i default).name),str (sb (fs.getD i default).tol),str (sb (fs.getD i default).kind),str (sb (fs.getD i default).step)]):=by
 rw [List.getElem?_map,a8p h];rfl
theorem b0C {α:Type}{l:List α}{p:α→Bool}{i:Nat}(h:∀ (j:Nat) (x:α),j<i→l[j]? = some x→p x=false):(l.take i).any p=false:=by
 rw [List.any_eq_false];intro x hx;obtain ⟨j,hj,e⟩:=List.mem_iff_getElem.1 hx;have hj2:j<i:=by rw [List.length_take] at hj;omega
 have:l[j]? = some x:=by
  rw [← e,List.getElem_take];exact List.getElem?_eq_getElem _
 rw [h j x hj2 this];simp
theorem a5y {α:Type}{l:List α}{p:α→Bool}{i j:Nat}{x:α}(hj:j<i)(hx:l[j]? = some x)(h:p x=true):(l.take i).any p=true:=by
 rw [List.any_eq_true];refine ⟨x,?_,h⟩;exact List.mem_of_getElem? (i:=j) (by rw [List.getElem?_take,if_pos hj,hx])
theorem b1F (s:ByteArray):(a8A s=true→∃ f,a5V s (mpK a4e) (mpV a4e)=some (some (.agg [.clo (.func f) [] []])))∧(a8A s=false→a5V s (mpK a4e) (mpV a4e)=some none):=by
 unfold a8A;simp only [a4e,mpK,mpV,a5V];cases a1t s ⟨#[100,111,119,110]⟩<;>cases a1t s ⟨#[117,112]⟩<;>cases a1t s ⟨#[104,97,108,102,45,117,112]⟩<;>cases a1t s ⟨#[104,97,108,102,45,101,118,101,110]⟩<;>simp
section
attribute [local irreducible] wpQ
theorem c5m (k st:List UInt8)(h1:st.length≤100000):a0b C0 171 [.agg [str (sb k),str (sb st)]] (i64 (a3u k st)):=by
 refine a0c.walk w1 c3E rfl fun F=>?_
 have dk:a0b C0 216 [] (.mp (mpK a4e) (mpV a4e)):=b0M;have dp:IsPure (D.mp (mpK a4e) (mpV a4e)):=⟨a0U (n:=20) (by kernel_rfl)⟩
 have c1:=a7i st h1;unfold a3u;refine fR 0 ?_;cases hk:a8A (sb k)
 ·have hlk:=(b1F (sb k)).2 hk
  refine OkS.seq ?_;refine OkS.seq ?_;refine OkS.regWa w1 100 [0,1,2,3,4,5,6,7,8] [9] 8 7 [4,3,2,1,0,5,7] (by kernel_rfl) (by kernel_rfl) ?_;refine nxI ?_;refine a0o.same _ dk inferInstance ?_;refine c2T (b8T (s:=sb k) (a:=9) (b:=289) (z:=.agg #[.nilFunc]) (by kernel_rfl) rfl rfl hlk) ?_;dsimp only [okD];refine nxI ?_;refine nxI ?_;refine fR 200 ?_;refine ifI ?_;refine fR 300 ?_;refine rtI ?_;exact a0a rfl IsPure.out
 obtain ⟨fn,hlk⟩:=(b1F (sb k)).1 hk;rw [if_pos rfl];refine OkS.seq ?_;refine OkS.seq ?_;refine OkS.regWa w1 100 [0,1,2,3,4,5,6,7,8] [9] 8 7 [4,3,2,1,0,5,7] (by kernel_rfl) (by kernel_rfl) ?_;refine nxI ?_;refine a0o.same _ dk inferInstance ?_;refine c2T (c0z (s:=sb k) (a:=9) (b:=289) (z:=.agg #[.nilFunc]) (by kernel_rfl) rfl rfl hlk) ?_;dsimp only [okD];refine nxI ?_;refine nxI ?_;refine fR 200 ?_;refine ifI ?_;refine skI ?_;refine OkS.seq ?_;refine fR 400 ?_;refine dI c1 ?_
 by_cases g1:chk st=0
 ·have e8:(((chk st:Nat):Int) != 0)=false:=by rw [g1];rfl
  have cf:=b3J h1 g1;have cs:=b7h (b1D g1).is;have cp:IsPure (a3i st).D:=inferInstance;rw [if_neg (fun h=>h g1)];refine fR 500 ?_;rw [e8];refine ifI ?_;refine skI ?_;refine OkS.seq ?_;refine fR 700 ?_;refine dI cf ?_;refine dI cs ?_
  by_cases g3:a7W (a0g st)≤0
  ·rw [decide_eq_true g3,if_pos g3]
   refine ifI ?_;refine fR 800 ?_;refine rtI ?_;exact a0a rfl IsPure.out
  ·rw [decide_eq_false g3,if_neg g3]
   refine ifI ?_;refine skI ?_;refine fR 900 ?_;refine rtI ?_;exact a0a rfl IsPure.out
 ·have e8:(((chk st:Nat):Int) != 0)=true:=a3y (by omega)
  rw [if_pos g1];refine fR 500 ?_;rw [e8];refine ifI ?_;refine fR 600 ?_;refine rtI ?_;exact a0a rfl IsPure.out
end
theorem b6y (f:a1B)(hf:f.few):a0b C0 103 [f.D] (i64 (a0W f)):=by
 refine a0c.walk w1 c1V rfl fun F=>?_
 have cn:a0b C0 170 [str (sb f.name)] (boo (a1l f.name)):=a5O (sb f.name);have c1:=a7i f.tol hf.2.1;have cr:=c5m f.kind f.step hf.2.2.2;unfold a1B.D a0W;refine fR 0 ?_;refine OkS.seq ?_;refine fR 100 ?_;refine dI cn ?_;cases hn:a1l f.name
 ·rw [if_neg (by decide)]
  refine ifI ?_;refine fR 200 ?_;refine rtI ?_;exact a0a rfl IsPure.out
 rw [if_pos rfl];refine ifI ?_;refine skI ?_;refine OkS.seq ?_;refine fR 300 ?_;refine dI c1 ?_
 by_cases g1:chk f.tol=0
 ·have e8:(((chk f.tol:Nat):Int) != 0)=false:=by rw [g1];rfl
  have cf:=b3J hf.2.1 g1;have cs:=b7h (b1D g1).is;have cw:=a1Z (decide (a7W (a0g f.tol)<0)) 3;have c2:a0b C0 96 [.sl true 1 [i64 (if decide (a7W (a0g f.tol)<0) then 3 else 0),i64 (a3u f.kind f.step)]] (i64 (a2I [if decide (a7W (a0g f.tol)<0) then 3 else 0,(a3u f.kind f.step:Int)])):=b0m [if decide (a7W (a0g f.tol)<0) then 3 else 0,(a3u f.kind f.step:Int)] (by simp);have cp:IsPure (a3i f.tol).D:=inferInstance;rw [if_neg (fun h=>h g1)];refine fR 400 ?_;rw [e8];refine ifI ?_;refine skI ?_;refine OkS.seq ?_;refine OkS.regD w1 600 [0,1,2,3,4,5,6,7] [8,9,10,11] (by kernel_rfl) ?_;refine nxI ?_;refine a0o.same _ (cf) inferInstance ?_;refine nxI ?_;refine a0o.same _ (cs) inferInstance ?_;refine nxI ?_;refine a0o.same _ (cw) inferInstance ?_;refine nxI ?_;refine dI cr ?_;refine dI c2 ?_;refine rtI ?_;refine a0a ?_ IsPure.out;unfold a2I a2I a2I
  by_cases g3:a7W (a0g f.tol)<0
  ·simp [g3]
  ·by_cases g4:a3u f.kind f.step=0
   ·simp [g3,g4]
   ·simp [g3,g4]
 ·have e8:(((chk f.tol:Nat):Int) != 0)=true:=a3y (by omega)
  rw [if_pos g1];refine fR 400 ?_;rw [e8];refine ifI ?_;refine fR 500 ?_;refine rtI ?_;exact a0a rfl IsPure.out
def c2B {α:Type}(p:α→Bool)(l:List α):Int:=if l.any p then (l.findIdx p:Int) else -1
theorem b7u {α:Type}{p:α→Bool}{l:List α}{i:Nat}{x:α}(hx:l[i]? = some x)(h:p x=true)(ha:∀ (j:Nat) (y:α),j<i→l[j]? = some y→p y=false):c2B p l=i:=by
 unfold c2B;obtain ⟨hi,e⟩:=List.getElem?_eq_some_iff.1 hx;rw [if_pos (List.any_eq_true.2 ⟨x,List.mem_of_getElem? hx,h⟩)]
 have:l.findIdx p=i:=(List.findIdx_eq hi).2 ⟨by rw [e];exact h,fun j hj=>ha j _ hj (List.getElem?_eq_getElem _)⟩
 rw [this]
theorem b1Q {α:Type}{p:α→Bool}{l:List α}(ha:∀ (j:Nat) (y:α),j<l.length→l[j]? = some y→p y=false):c2B p l = -1:=by
 unfold c2B
 have:=b0C (l:=l) (p:=p) (i:=l.length) ha
 rw [List.take_length] at this;rw [this];rfl
theorem b8s {α:Type}(p:α→Bool)(l:List α):decide (c2B p l≥0)=l.any p:=by
 unfold c2B;cases l.any p
 ·rfl
 ·exact decide_eq_true (by simp)
def a9W (y x:a1b):Bool:=decide (x.name=y.name)
def a6O (y x:a1B):Bool:=decide (x.name=y.name)
theorem d3f (x y:a1b):a0b C0 273 [x.D,.pptr y.D] (boo (a9W y x)):=by
 refine a0c.walk w1 c1O rfl fun F=>?_
 have e1:=a5Q x.name y.name;unfold a1b.D a9W;refine sR 0 ?_;refine sZ 100 ?_;refine nwI e1 ?_;refine rtI ?_;exact a0a rfl IsPure.out
theorem d2U (x y:a1B):a0b C0 240 [x.D,.pptr y.D] (boo (a6O y x)):=by
 refine a0c.walk w1 c2s rfl fun F=>?_
 have e1:=a5Q x.name y.name;unfold a1B.D a6O;refine sR 0 ?_;refine sZ 100 ?_;refine nwI e1 ?_;refine rtI ?_;exact a0a rfl IsPure.out
theorem d5j (l:List a1b)(y:a1b)(hl:l.length≤1000000):a0b C0 304 [.sl false 3 (l.map a1b.D),.clo (.func 273) [] [.pptr y.D]] (i64 (c2B (a9W y) l)):=by
 refine a0c.walk w1 c3x rfl fun F=>?_
 have el:(((l.map a1b.D).length:Nat):Int)=(l.length:Int):=by rw [List.length_map]
 refine sR 0 ?_;refine OkS.seq ?_;refine sZ 100 ?_;refine nwI el ?_;refine OkS.block ?_;refine OkS.loop (α:=Nat × Nat) (fun p=>⟨[(0,.sl false 3 (l.map a1b.D)),(1,.clo (.func 273) [] [.pptr y.D]),(7,i64 l.length),(8,i64 (p.1:Int))],[],p.2⟩) (fun p=>l.length - p.1) (fun p=>p.1≤l.length∧∀ (j:Nat) (x:a1b),j<p.1→l[j]? = some x→a9W y x=false) (0,_) ⟨Nat.zero_le _,fun j x hj=>absurd hj (Nat.not_lt_zero j)⟩ wkI ?_;rintro ⟨i,n⟩ F ⟨hi,ha⟩;dsimp only at hi ha ⊢;refine sR 200 ?_;refine OkS.seq ?_;refine ifI ?_
 (refine brI (fun hlt=>?_) (fun hlt=>?_))<;>(try simp only [Bool.not_eq_true',Bool.not_eq_false'] at hlt)<;>(try simp only [hlt])
 ·have hi2:i<l.length:=by
   have:=of_decide_eq_true hlt
   omega
  obtain ⟨x,hx⟩:∃ x,l[i]? = some x:=⟨l[i],List.getElem?_eq_getElem hi2⟩
  have hm:(l.map a1b.D)[i]? = some x.D:=by rw [List.getElem?_map,hx];rfl
  have cn:=d3f x y;have wi:IntKind.i64.wrap ((i:Int)+1)=((i+1:Nat):Int):=wI (by omega) (by omega);unfold a1b.D at hm;unfold a1b.D at cn;refine skI ?_;refine OkS.seq ?_;refine OkS.block ?_;refine sR 300 ?_;refine sZ 400 ?_;refine gwI kN ?_;refine ixI kT hm ?_;refine gwI kN ?_;refine a0k.same _ cn inferInstance ?_;refine stI ?_;cases hb:a9W y x
  ·refine ifI ?_
   refine skI ?_;refine OkS.reg w1 600 (by kernel_rfl) ?_;refine nwI wi ?_;refine ⟨(i+1,_),⟨hi2,fun j z hj hjz=>?_⟩,by dsimp only;omega,wkI⟩;rcases Nat.lt_or_ge j i with h|h
   ·exact ha j z h hjz
   ·have:j=i:=by dsimp only at hj;omega
    subst this;rw [hx] at hjz;cases hjz;exact hb
  ·refine ifI ?_
   refine sR 500 ?_;refine rtI ?_;exact a0a (by rw [b7u hx hb ha]) IsPure.out
 ·have hi2:i=l.length:=by
   have:=of_decide_eq_false hlt
   omega
  subst hi2;refine exI ?_;refine sR 700 ?_;refine rtI ?_;exact a0a (by rw [b1Q ha]) IsPure.out
theorem d4C (l:List a1B)(y:a1B)(hl:l.length≤1000000):a0b C0 271 [.sl false 4 (l.map a1B.D),.clo (.func 240) [] [.pptr y.D]] (i64 (c2B (a6O y) l)):=by
 refine a0c.walk w1 c2p rfl fun F=>?_
 have el:(((l.map a1B.D).length:Nat):Int)=(l.length:Int):=by rw [List.length_map]
 refine sR 0 ?_;refine OkS.seq ?_;refine sZ 100 ?_;refine nwI el ?_;refine OkS.block ?_;refine OkS.loop (α:=Nat × Nat) (fun p=>⟨[(0,.sl false 4 (l.map a1B.D)),(1,.clo (.func 240) [] [.pptr y.D]),(7,i64 l.length),(8,i64 (p.1:Int))],[],p.2⟩) (fun p=>l.length - p.1) (fun p=>p.1≤l.length∧∀ (j:Nat) (x:a1B),j<p.1→l[j]? = some x→a6O y x=false) (0,_) ⟨Nat.zero_le _,fun j x hj=>absurd hj (Nat.not_lt_zero j)⟩ wkI ?_;rintro ⟨i,n⟩ F ⟨hi,ha⟩;dsimp only at hi ha ⊢;refine sR 200 ?_;refine OkS.seq ?_;refine ifI ?_
 (refine brI (fun hlt=>?_) (fun hlt=>?_))<;>(try simp only [Bool.not_eq_true',Bool.not_eq_false'] at hlt)<;>(try simp only [hlt])
 ·have hi2:i<l.length:=by
   have:=of_decide_eq_true hlt
   omega
  obtain ⟨x,hx⟩:∃ x,l[i]? = some x:=⟨l[i],List.getElem?_eq_getElem hi2⟩
  have hm:(l.map a1B.D)[i]? = some x.D:=by rw [List.getElem?_map,hx];rfl
  have cn:=d2U x y;have wi:IntKind.i64.wrap ((i:Int)+1)=((i+1:Nat):Int):=wI (by omega) (by omega);unfold a1B.D at hm;unfold a1B.D at cn;refine skI ?_;refine OkS.seq ?_;refine OkS.block ?_;refine sR 300 ?_;refine sZ 400 ?_;refine gwI kN ?_;refine ixI kT hm ?_;refine gwI kN ?_;refine a0k.same _ cn inferInstance ?_;refine stI ?_;cases hb:a6O y x
  ·refine ifI ?_
   refine skI ?_;refine OkS.reg w1 600 (by kernel_rfl) ?_;refine nwI wi ?_;refine ⟨(i+1,_),⟨hi2,fun j z hj hjz=>?_⟩,by dsimp only;omega,wkI⟩;rcases Nat.lt_or_ge j i with h|h
   ·exact ha j z h hjz
   ·have:j=i:=by dsimp only at hj;omega
    subst this;rw [hx] at hjz;cases hjz;exact hb
  ·refine ifI ?_
   refine sR 500 ?_;refine rtI ?_;exact a0a (by rw [b7u hx hb ha]) IsPure.out
 ·have hi2:i=l.length:=by
   have:=of_decide_eq_false hlt
   omega
  subst hi2;refine exI ?_;refine sR 700 ?_;refine rtI ?_;exact a0a (by rw [b1Q ha]) IsPure.out
theorem d4M (l:List a1b)(y:a1b)(hl:l.length≤1000000):a0b C0 272 [.sl false 3 (l.map a1b.D),.clo (.func 273) [] [.pptr y.D]] (boo (l.any (a9W y))):=by
 refine a0c.walk w1 c2a rfl fun F=>?_
 have c1:=d5j l y hl;have e1:=b8s (a9W y) l;refine sR 0 ?_;refine sR 100 ?_;refine cI c1 ?_
 try rw [e1]
 refine rtI ?_;exact a0a (by first|rfl|(rw [← e1])) IsPure.out
theorem d4u (l:List a1B)(y:a1B)(hl:l.length≤1000000):a0b C0 239 [.sl false 4 (l.map a1B.D),.clo (.func 240) [] [.pptr y.D]] (boo (l.any (a6O y))):=by
 refine a0c.walk w1 c2P rfl fun F=>?_
 have c1:=d4C l y hl;have e1:=b8s (a6O y) l;refine sR 0 ?_;refine sR 100 ?_;refine cI c1 ?_
 try rw [e1]
 refine rtI ?_;exact a0a (by first|rfl|(rw [← e1])) IsPure.out
set_option maxHeartbeats 4000000
def a3N (l:List UInt8):GF:=if l=[] then ⟨mkG 0,0⟩ else a3i l
abbrev c6s (l:List UInt8):List D:=[boo (decide (l=[])),i64 (a3N l).n.s,(a3N l).n.w,i64 (mkG ((a3N l).d:Int)).s,(mkG ((a3N l).d:Int)).w]
abbrev c8G (p q:Bool)(a b:List UInt8):List D:=[boo p,i64 (a3N a).n.s,(a3N a).n.w,i64 (mkG ((a3N a).d:Int)).s,(mkG ((a3N a).d:Int)).w,boo q,i64 (a3N b).n.s,(a3N b).n.w,i64 (mkG ((a3N b).d:Int)).s,(mkG ((a3N b).d:Int)).w]
theorem a8l {l:List UInt8}(h:a2v l=0)(h0:l≠[]):FR (a0g l) (a3N l) 600:=by
 unfold a3N;rw [if_neg h0];exact b1D (a1U h h0)
theorem b3w {a b:List UInt8}(ha:a2v a=0)(hb:a2v b=0)(ga:a≠[])(gb:b≠[]):a0b C0 121 [(a3N a).D,(a3N b).D] (i64 (a2F (a0g a) (a0g b))) :=
 b2k (a8l ha ga) (a8l hb gb) (by decide)
instance  (l:List UInt8):IsPure (.agg (c6s l)):=inferInstance
theorem a9t (l:List UInt8)(hl:l.length≤100000)(h:a2v l=0):a0b C0 163 [str (sb l)] (.agg (c6s l)):=by
 refine a0c.walk w1 c2D rfl fun F=>?_
 have e1:=a1E l;refine sR 0 ?_;refine OkS.seq ?_
 by_cases g:l=[]
 ·rw [decide_eq_true g] at e1
  unfold c6s a3N;rw [if_pos g,decide_eq_true g];refine sZ 100 ?_;refine nwI e1 ?_;refine ifI ?_;refine sR 200 ?_;refine rtI ?_;exact a0a rfl IsPure.out
 ·have cf:a0b C0 70 [str (sb l)] (a3N l).D:=by
   unfold a3N;rw [if_neg g];exact b3J hl (a1U h g)
  rw [decide_eq_false g] at e1;unfold c6s;rw [decide_eq_false g];have cp:IsPure (a3N l).D:=inferInstance;dsimp only [GF.D] at cf cp;refine sZ 100 ?_;refine nwI e1 ?_;refine ifI ?_;refine skI ?_;refine sR 300 ?_;refine cI cf ?_;refine rtI ?_;exact a0a rfl IsPure.out
def c0r:Option a1b→D
 | none=>.prim (.pointer none)
 | some g=>.pptr g.D
instance  (p:Option a1b):IsPure (c0r p):=by
 cases p<;>unfold c0r<;>exact inferInstance
def b9J (p:Option a1b)(k:Nat):Option (List UInt8 × List UInt8):=p.map fun g=>(lv g.least k,lv g.most k)
theorem c3P (a b:Rat):decide (a2F a b>0)=decide (a2F b a<0):=decide_eq_decide.2 (by
 unfold a2F
 by_cases h1:a<b
 ·have h2:¬ b<a:=by grind
  rw [if_pos h1,if_neg h2,if_pos h1];decide
 ·by_cases h2:b<a
  ·rw [if_neg h1,if_pos h2,if_pos h2];decide
  ·rw [if_neg h1,if_neg h2,if_neg h2,if_neg h1])
theorem d0i (a b:Rat):(!decide (a2F a b<0))=decide (a2F b a≤0):=by
 rw [← c3P]
 by_cases h:a2F b a>0
 ·rw [decide_eq_true h,decide_eq_false (by omega)];rfl
 ·rw [decide_eq_false h,decide_eq_true (by omega)];rfl
theorem c4J (g:a1b)(k:Nat)(p:Option a1b)(hg:g.few)(k1:k<g.least.length)(k2:k<g.most.length)
  (hp:∀ y,p=some y→y.few∧k<y.least.length∧k<y.most.length∧a2v (lv y.least k)=0∧a2v (lv y.most k)=0) :
  a0b C0 274 [g.D,i64 (k:Int),c0r p] (i64 (a0Z (lv g.least k) (lv g.most k) (b9J p k))):=by
 refine a0c.walk w1 c1L rfl fun F=>?_
 have m1:=a2J k1;have m2:=a2J k2;have f1:=a5z k1 hg.2.2.2.1;have f2:=a5z k2 hg.2.2.2.2;obtain ⟨a,ea⟩:∃ a,lv g.least k=a:=⟨_,rfl⟩
 obtain ⟨b,eb⟩:∃ b,lv g.most k=b:=⟨_,rfl⟩
 rw [ea] at m1 f1 ⊢;rw [eb] at m2 f2 ⊢;unfold a1b.D;refine sR 0 ?_;refine OkS.seq ?_;refine OkS.regD w1 100 [0,1,2,3,4,5,6,7,8,9,10] [11] (by kernel_rfl) ?_;refine gwI kN ?_;refine ixI kT m1 ?_;refine gwI kN ?_;refine ixI kT m2 ?_;refine gwI kN ?_;refine OkS.seqX (α:=Nat) (fun n=>⟨[(1,i64 (k:Int)),(2,c0r p),(7,str (sb a)),(8,str (sb b))],[],n⟩) (fun _=>a2v a=0∧a2v b=0) ?_ ?_
 ·refine sR 200 ?_
  refine OkS.block ?_;refine OkS.loopF (α:=Nat × Nat) (fun q=>⟨[(1,i64 (k:Int)),(2,c0r p),(7,str (sb a)),(8,str (sb b)),(26,.sl true 1 [str (sb a),str (sb b)]),(27,i64 2),(28,i64 (q.1:Int))],[],q.2⟩) (fun q=>2 - q.1) (fun q F'=>F'=F∧q.1≤2∧∀ j,j<q.1→a2v (lv [a,b] j)=0) (0,_) ⟨rfl,Nat.zero_le _,fun j hj=>absurd hj (Nat.not_lt_zero j)⟩ wkI ?_;rintro ⟨i,n⟩ F' ⟨rfl,hi,ha⟩;dsimp only at hi ha ⊢;refine sR 300 ?_;refine OkS.seq ?_;refine ifI ?_
  (refine brI (fun hlt=>?_) (fun hlt=>?_))<;>(try simp only [Bool.not_eq_true',Bool.not_eq_false'] at hlt)<;>(try simp only [hlt])
  ·have hi2:i<2:=by
    have:=of_decide_eq_true hlt
    omega
   have hm:[str (sb a),str (sb b)][i]? = some (str (sb (lv [a,b] i))):=a2J (l:=[a,b]) hi2;have wi:IntKind.i64.wrap ((i:Int)+1)=((i+1:Nat):Int):=wI (by omega) (by omega);have hx:(lv [a,b] i).length≤100000:=a5z (l:=[a,b]) hi2 (fun x hx=>by
    simp only [List.mem_cons,List.not_mem_nil,or_false] at hx;rcases hx with rfl|rfl
    ·exact f1
    ·exact f2)
   have hret:a2v (lv [a,b] i)≠0→a0Z a b (b9J p k)=a2v (lv [a,b] i):=fun h=>by
    have hc:i=0∨i=1:=by omega
    unfold a0Z;rcases hc with rfl|rfl
    ·exact if_pos h
    ·have h0:a2v a=0:=ha 0 (by omega)
     rw [if_neg (fun hh=>hh h0)];exact if_pos h
   obtain ⟨x,ex⟩:∃ x,lv [a,b] i=x:=⟨_,rfl⟩
   have hnext:a2v x=0→∀ j,j<i+1→a2v (lv [a,b] j)=0:=fun h j hj=>by
    rcases Nat.lt_or_ge j i with h2|h2
    ·exact ha j h2
    ·have:j=i:=by omega
     rw [this,ex];exact h
   rw [ex] at hm hx hret;have c1:=a7i x hx;have e1:=a1E x;refine skI ?_;refine OkS.seq ?_;refine OkS.block ?_;refine sZ 400 ?_;refine gwI kN ?_;refine ixI kT hm ?_;refine gwI kN ?_
   by_cases g0:x=[]
   ·have l0:a2v x=0:=by unfold a2v;rw [if_pos g0]
    rw [decide_eq_true g0] at e1;refine sZ 500 ?_;refine nwI (ff2 e1 kT) ?_;refine ifI ?_;refine skI ?_;refine OkS.reg w1 900 (by kernel_rfl) ?_;refine nwI wi ?_;exact ⟨(i+1,_),⟨trivial,hi2,hnext l0⟩,by dsimp only;omega,wkI⟩
   ·have l0:a2v x=chk x:=by unfold a2v;rw [if_neg g0]
    rw [decide_eq_false g0] at e1;refine sZ 500 ?_;refine nwI (ff2 e1 kF) ?_;refine ifI ?_;refine sR 600 ?_;refine cI c1 ?_
    by_cases g:chk x=0
    ·have e5:(((chk x:Nat):Int) != 0)=false:=by rw [g];rfl
     refine sZ 700 ?_;refine nwI e5 ?_;refine ifI ?_;refine skI ?_;refine OkS.reg w1 900 (by kernel_rfl) ?_;refine nwI wi ?_;exact ⟨(i+1,_),⟨trivial,hi2,hnext (by rw [l0];exact g)⟩,by dsimp only;omega,wkI⟩
    ·have e5:(((chk x:Nat):Int) != 0)=true:=a3y (by omega)
     refine sZ 700 ?_;refine nwI e5 ?_;refine ifI ?_;refine sR 800 ?_;refine rtI ?_;exact a0a (by rw [hret (by rw [l0];exact g),l0]) IsPure.out
  ·have hi2:i=2:=by
    have:=of_decide_eq_false hlt
    omega
   subst hi2;refine exI ?_;exact ⟨rfl,_,⟨ha 0 (by omega),ha 1 (by omega)⟩,wkI⟩
 rintro n0 ⟨la,lb⟩;have ra:=a9t a f1 la;have rb:=a9t b f2 lb;obtain ⟨qa,hqa⟩:∃ q,decide (a=[])=q:=⟨_,rfl⟩
 obtain ⟨qb,hqb⟩:∃ q,decide (b=[])=q:=⟨_,rfl⟩
 dsimp only [c6s] at ra rb;rw [hqa] at ra;rw [hqb] at rb;refine sR 1000 ?_;refine cI ra ?_;refine cI rb ?_;refine OkS.seqX (α:=Nat × Nat) (fun q=>⟨[(1,i64 (k:Int)),(2,c0r p),(12,.optr 1005 q.1 10 0 0)],[⟨1005,q.1,140,10,[.agg (c8G qa qb a b)]⟩],q.2⟩) (fun _=>¬ (a≠[]∧b≠[]∧a2F (a0g a) (a0g b)>0)) ?_ ?_
 ·cases qa
  rotate_left
  ·refine sZ 1100 ?_
   refine nwI kB ?_;refine gwI kB ?_;refine gwI kB ?_;refine ifI ?_;refine skI ?_;exact ⟨rfl,(_,_),fun h=>h.1 (of_decide_eq_true hqa),wkI⟩
  have ga:=of_decide_eq_false hqa;cases qb
  rotate_left
  ·refine sZ 1100 ?_
   refine nwI kB ?_;refine gwI kB ?_;refine gwI kB ?_;refine ifI ?_;refine skI ?_;exact ⟨rfl,(_,_),fun h=>h.2.1 (of_decide_eq_true hqb),wkI⟩
  have gb:=of_decide_eq_false hqb;have cc:=b3w la lb ga gb;refine sZ 1100 ?_;refine nwI kB ?_;refine gwI kB ?_;refine gwI kB ?_;refine gcI kB ?_;refine a0k.same _ cc inferInstance ?_;refine gwI kB ?_
  by_cases g3:a2F (a0g a) (a0g b)>0
  ·rw [decide_eq_true g3]
   refine ifI ?_;refine sR 1200 ?_;refine rtI ?_;refine a0a ?_ IsPure.out;unfold a0Z;rw [if_neg (fun h=>h la),if_neg (fun h=>h lb),if_pos ⟨ga,gb,g3⟩];rfl
  ·rw [decide_eq_false g3]
   refine ifI ?_;refine skI ?_;exact ⟨rfl,(_,_),fun h=>g3 h.2.2,wkI⟩
 rintro ⟨h0,n1⟩ hcmp;have hck:a0Z a b (b9J p k)=match b9J p k with|none=>0|some (c,d)=>if a6V a b c d then 0 else 11:=by
  unfold a0Z;rw [if_neg (fun h=>h la),if_neg (fun h=>h lb),if_neg hcmp]
  all_goals (cases b9J p k<;>rfl)
 rw [hck];cases p with
 | none =>
  dsimp only [c0r,b9J,Option.map];refine OkS.seq ?_;refine sR 1300 ?_;refine ifI ?_;refine sR 1400 ?_;refine rtI ?_;exact a0a rfl IsPure.out
 | some y =>
  obtain ⟨yf,y1,y2,lc,ld⟩:=hp y rfl;have m3:=a2J y1;have m4:=a2J y2;have f3:=a5z y1 yf.2.2.2.1;have f4:=a5z y2 yf.2.2.2.2;dsimp only [c0r,b9J,Option.map];obtain ⟨c,ec⟩:∃ c,lv y.least k=c:=⟨_,rfl⟩
  obtain ⟨d,ed⟩:∃ d,lv y.most k=d:=⟨_,rfl⟩
  rw [ec] at m3 f3 lc ⊢;rw [ed] at m4 f4 ld ⊢;have rc:=a9t c f3 lc;have rd:=a9t d f4 ld;obtain ⟨qc,hqc⟩:∃ q,decide (c=[])=q:=⟨_,rfl⟩
  obtain ⟨qd,hqd⟩:∃ q,decide (d=[])=q:=⟨_,rfl⟩
  have hord:a6V a b c d=((qa||(!qc && !decide (a2F (a0g a) (a0g c)>0)))&&(qb||(!qd && !decide (a2F (a0g b) (a0g d)<0)))):=by
   unfold a6V;rw [hqa,hqb,hqc,hqd,c3P (a0g a) (a0g c),d0i (a0g b) (a0g d)]
  dsimp only [c6s] at rc rd;rw [hqc] at rc;rw [hqd] at rd;unfold a1b.D;refine OkS.seq ?_;refine sR 1300 ?_;refine ifI ?_;refine skI ?_;refine OkS.seq ?_;refine OkS.regD w1 1500 [0,1,2,3,4,5,6,7,8,9,10,11,12,13,14,15,16,17] [18] (by kernel_rfl) ?_;refine gwI kN ?_;refine ixI kT m3 ?_;refine gwI kN ?_;refine a0o.same _ rc inferInstance ?_;refine gwI kN ?_;refine ixI kT m4 ?_;refine gwI kN ?_;refine a0o.same _ rd inferInstance ?_;refine gwI kN ?_;refine OkS.seq ?_;cases qa
  rotate_left
  ·skip
   cases qb
   rotate_left
   ·refine sZ 1600 ?_
    refine nwI kB ?_;refine gwI kB ?_;refine gwI kB ?_;refine ifI ?_;refine skI ?_;refine sR 1800 ?_;refine rtI ?_;exact a0a (by rw [hord];simp []) IsPure.out
   have gb:=of_decide_eq_false hqb;cases qd
   rotate_left
   ·refine sZ 1600 ?_
    refine nwI kB ?_;refine gwI kB ?_;refine gwI kB ?_;refine gwI kB ?_;refine ifI ?_;refine sR 1700 ?_;refine rtI ?_;exact a0a (by rw [hord];simp []) IsPure.out
   have gd:=of_decide_eq_false hqd;have cc2:=b3w lb ld gb gd;refine sZ 1600 ?_;refine nwI kB ?_;refine gwI kB ?_;refine gwI kB ?_;refine gwI kB ?_;refine gcI kB ?_;refine a0k.same _ cc2 inferInstance ?_;refine gwI kB ?_;refine gwI kB ?_
   by_cases g4:a2F (a0g b) (a0g d)<0
   ·rw [decide_eq_true g4]
    refine ifI ?_;refine sR 1700 ?_;refine rtI ?_;exact a0a (by rw [hord];simp [g4]) IsPure.out
   ·rw [decide_eq_false g4]
    refine ifI ?_;refine skI ?_;refine sR 1800 ?_;refine rtI ?_;exact a0a (by rw [hord];simp [g4]) IsPure.out
  have ga:=of_decide_eq_false hqa;cases qc
  rotate_left
  ·refine sZ 1600 ?_
   refine nwI kB ?_;refine gwI kB ?_;refine gwI kB ?_;refine ifI ?_;refine sR 1700 ?_;refine rtI ?_;exact a0a (by rw [hord];simp) IsPure.out
  have gc:=of_decide_eq_false hqc;have cc:=b3w la lc ga gc;refine sZ 1600 ?_;refine nwI kB ?_;refine gwI kB ?_;refine gwI kB ?_;refine gcI kB ?_;refine a0k.same _ cc inferInstance ?_;refine gwI kB ?_
  by_cases g3:a2F (a0g a) (a0g c)>0
  ·rw [decide_eq_true g3]
   refine gwI kB ?_;refine gwI kB ?_;refine ifI ?_;refine sR 1700 ?_;refine rtI ?_;exact a0a (by rw [hord];simp [g3]) IsPure.out
  ·rw [decide_eq_false g3]
   cases qb
   rotate_left
   ·skip
    refine gwI kB ?_;refine gwI kB ?_;refine ifI ?_;refine skI ?_;refine sR 1800 ?_;refine rtI ?_;exact a0a (by rw [hord];simp [g3]) IsPure.out
   have gb:=of_decide_eq_false hqb;cases qd
   rotate_left
   ·skip
    refine gwI kB ?_;refine gwI kB ?_;refine gwI kB ?_;refine ifI ?_;refine sR 1700 ?_;refine rtI ?_;exact a0a (by rw [hord];simp [g3]) IsPure.out
   have gd:=of_decide_eq_false hqd;have cc2:=b3w lb ld gb gd;refine gwI kB ?_;refine gwI kB ?_;refine gwI kB ?_;refine gcI kB ?_;refine a0k.same _ cc2 inferInstance ?_;refine gwI kB ?_;refine gwI kB ?_
   by_cases g4:a2F (a0g b) (a0g d)<0
   ·rw [decide_eq_true g4]
    refine ifI ?_;refine sR 1700 ?_;refine rtI ?_;exact a0a (by rw [hord];simp [g3,g4]) IsPure.out
   ·rw [decide_eq_false g4]
    refine ifI ?_;refine skI ?_;refine sR 1800 ?_;refine rtI ?_;exact a0a (by rw [hord];simp [g3,g4]) IsPure.out
theorem b6O (l:List a1b)(g:a1b):l.any (a9W g)=l.any (fun x=>decide (x.name=g.name)):=rfl
def b0G (gs:List a1b)(i:Nat):Option a1b:=if i=0 then none else some (gs.getD (i - 1) default)
theorem b2u (gs:List a1b)(i k:Nat):b9J (b0G gs i) k=a1D gs i k:=by
 unfold b9J b0G a1D
 by_cases h:i=0
 ·rw [if_pos h,if_pos h];rfl
 ·rw [if_neg h,if_neg h];rfl
theorem c7l (s:a1u)(i:Nat)(hs:s.few)(hi:i<s.gs.length)(hp:0<i→gOk s.fs.length (s.gs.getD (i - 1) default)) :
  a0b C0 241 [s.D,i64 (i:Int)] (i64 (a0A s.fs.length s.gs i)):=by
 refine a0c.walk w1 c2j rfl fun F=>?_
 have hm:=b1R hi;have hgf:=hs.2.2.2 _ (List.mem_of_getElem? (a2G hi));have hmp:0<i→(s.gs.map a1b.D)[i - 1]? = some (s.gs.getD (i - 1) default).D:=fun h=>by
  rw [List.getElem?_map,a2G (by omega)];rfl
 have hpf:0<i→(s.gs.getD (i - 1) default).few:=fun h=>hs.2.2.2 _ (List.mem_of_getElem? (a2G (by omega)))
 have hpre:∀ k,b9J (b0G s.gs i) k=a1D s.gs i k:=b2u s.gs i;have hprev:∀ y,b0G s.gs i=some y→y=s.gs.getD (i - 1) default∧0<i:=fun y h=>by
  unfold b0G at h
  by_cases h0:i=0
  ·rw [if_pos h0] at h;cases h
  ·rw [if_neg h0] at h;cases h;exact ⟨rfl,by omega⟩
 have el1:(((s.fs.map a1B.D).length:Nat):Int)=(s.fs.length:Int):=by rw [List.length_map]
 have ls:=hs.1;have lg:=hs.2.1;have hcg:∀ g,s.gs.getD i default=g→a0A s.fs.length s.gs i=if a1l g.name then
  (if (s.gs.take i).any (fun x=>decide (x.name=g.name)) then 9
  else if g.least.length=s.fs.length∧g.most.length=s.fs.length then a7n (fun k=>a0Z (lv g.least k) (lv g.most k) (a1D s.gs i k)) s.fs.length
  else 2)
 else 8:=fun g h=>by unfold a0A;rw [h]
 obtain ⟨g,hg⟩:∃ g,s.gs.getD i default=g:=⟨_,rfl⟩
 rw [hcg g hg];rw [hg] at hm hgf;have cn:a0b C0 170 [str (sb g.name)] (boo (a1l g.name)):=a5O (sb g.name);have ca:a0b C0 272 [.sl false 3 ((s.gs.map a1b.D).take i),.clo (.func 273) [] [.pptr g.D]] (boo ((s.gs.take i).any (a9W g))):=by
  have:=d4M (s.gs.take i) g (by rw [List.length_take];omega)
  rw [List.map_take] at this;exact this
 rw [b6O] at ca;obtain ⟨n,hn⟩:∃ n,s.fs.length=n:=⟨_,rfl⟩
 rw [hn] at el1 hp ls ⊢;obtain ⟨fsD,hfsD⟩:∃ x,s.fs.map a1B.D=x:=⟨_,rfl⟩
 obtain ⟨gsD,hgsD⟩:∃ x,s.gs.map a1b.D=x:=⟨_,rfl⟩
 have pf:IsPure (.sl false 4 fsD):=by rw [← hfsD];exact inferInstance
 have pg:IsPure (.sl false 3 gsD):=by rw [← hgsD];exact inferInstance
 have pgt:IsPure (.sl false 3 (gsD.take i)):=by
  rw [← hgsD,← List.map_take];exact inferInstance
 have gl:gsD.length=s.gs.length:=by rw [← hgsD,List.length_map]
 unfold a1u.D;rw [hfsD,hgsD];rw [hfsD] at el1;rw [hgsD] at hm hmp ca;unfold a1b.D at ca;refine sR 0 ?_;refine sZ 100 ?_;refine gwI kN ?_;refine ixI kT hm ?_;refine gwI kN ?_;refine OkS.seq ?_;refine sR 200 ?_;refine cI cn ?_;cases hnm:a1l g.name
 ·rw [if_neg (by decide)]
  refine ifI ?_;refine sR 300 ?_;refine rtI ?_;exact a0a rfl IsPure.out
 rw [if_pos rfl];refine ifI ?_;refine skI ?_;refine OkS.seq ?_;refine sZ 400 ?_;refine gwI kN ?_;simp only [Nat.sub_zero,List.drop_zero];refine a0k.own _ (a0w.lendS ca rfl (c7D (FzS.refl _ _) (.clo1 (.ptr rfl rfl rfl rfl))) inferInstance (.prim _)) ?_;rintro d H2 n2 ⟨rfl,rfl,rfl⟩;refine stI ?_;cases hany:(s.gs.take i).any (fun x=>decide (x.name=g.name))
 rotate_left
 ·rw [if_pos rfl]
  refine ifI ?_;refine sR 500 ?_;refine rtI ?_;exact a0a rfl IsPure.out
 rw [if_neg (by decide)];refine ifI ?_;refine skI ?_;have el2:(((g.least.map fun l=>str (sb l)).length:Nat):Int)=(g.least.length:Int):=by rw [List.length_map]
 have el3:(((g.most.map fun l=>str (sb l)).length:Nat):Int)=(g.most.length:Int):=by rw [List.length_map]
 by_cases h1:g.least.length=n
 rotate_left
 ·have e3:(((g.least.length:Nat):Int) != ((n:Nat):Int))=true:=by
   have:(((g.least.length:Nat):Int)==((n:Nat):Int))=false:=beq_eq_false_iff_ne.2 (by omega)
   unfold bne;rw [this];rfl
  rw [if_neg (fun h=>h1 h.1)];refine OkS.seq ?_;refine sZ 600 ?_;refine nwI (ff5 el1 el2 e3 kT kF) ?_;refine gwI kB ?_;refine ifI ?_;refine sR 700 ?_;refine rtI ?_;exact a0a rfl IsPure.out
 have e3:(((g.least.length:Nat):Int) != ((n:Nat):Int))=false:=by rw [h1];simp
 by_cases h2:g.most.length=n
 rotate_left
 ·have e4:(((g.most.length:Nat):Int) != ((n:Nat):Int))=true:=by
   have:(((g.most.length:Nat):Int)==((n:Nat):Int))=false:=beq_eq_false_iff_ne.2 (by omega)
   unfold bne;rw [this];rfl
  rw [if_neg (fun h=>h2 h.2)];refine OkS.seq ?_;refine sZ 600 ?_;refine nwI (ff5 el1 el2 e3 kT kF) ?_;refine gwI kB ?_;simp only [el1,el3,e4];refine ifI ?_;refine sR 700 ?_;refine rtI ?_;exact a0a rfl IsPure.out
 have e4:(((g.most.length:Nat):Int) != ((n:Nat):Int))=false:=by rw [h2];simp
 rw [if_pos ⟨h1,h2⟩];refine OkS.seq ?_;refine sZ 600 ?_;refine nwI (ff5 el1 el2 e3 kT kF) ?_;refine gwI kB ?_;simp only [el1,el3,e4];refine ifI ?_;refine skI ?_;refine sR 800 ?_;obtain ⟨P,hP⟩:∃ P,c0r (b0G s.gs i)=P:=⟨_,rfl⟩
 have pP:IsPure P:=by rw [← hP];exact inferInstance
 refine OkS.seqX (α:=Nat) (fun m=>⟨[(2,.optr 0 0 2 0 0),(5,.optr 105 7 3 0 0),(6,P)],[⟨105,7,56,3,[.agg [str (sb g.name),.sl false 1 (g.least.map fun l=>str (sb l)),.sl false 1 (g.most.map fun l=>str (sb l))]]⟩,⟨0,0,39,2,[.agg [.sl false 4 fsD,.sl false 3 gsD]]⟩],m⟩) (fun _=>True) ?_ ?_
 ·by_cases h0:i=0
  ·have e5:decide ((i:Int)>0)=false:=decide_eq_false (by omega)
   have:P=.prim (.pointer none):=by rw [← hP];unfold b0G;rw [if_pos h0];rfl
   subst this;refine sZ 900 ?_;refine nwI e5 ?_;refine ifI ?_;refine skI ?_;exact ⟨rfl,_,trivial,wkI⟩
  ·have e5:decide ((i:Int)>0)=true:=decide_eq_true (by omega)
   have:P=.pptr (s.gs.getD (i - 1) default).D:=by rw [← hP];unfold b0G;rw [if_neg h0];rfl
   subst this;have ws:IntKind.i64.wrap ((i:Int) - 1)=((i - 1:Nat):Int):=by
    rw [show (i:Int) - 1=((i - 1:Nat):Int) by omega];exact wI (by omega) (by omega)
   have hm1:=hmp (by omega);refine sZ 900 ?_;refine nwI e5 ?_;refine ifI ?_;refine OkS.reg w1 1000 (by kernel_rfl) ?_;refine gwI (ff2 ws kN) ?_
   try simp only [ws]
   refine ixI kT hm1 ?_;refine gwI (ff2 ws kN) ?_;exact ⟨trivial,_,trivial,wkI⟩
 rintro n3 -;refine OkS.seq ?_;refine sZ 1100 ?_;refine nwI el1 ?_;refine OkS.block ?_;refine OkS.loop (α:=Nat × Nat) (fun q=>⟨[(5,.optr 105 7 3 0 0),(6,P),(49,i64 (n:Int)),(50,i64 (q.1:Int))],[⟨105,7,56,3,[.agg [str (sb g.name),.sl false 1 (g.least.map fun l=>str (sb l)),.sl false 1 (g.most.map fun l=>str (sb l))]]⟩],q.2⟩) (fun q=>n - q.1) (fun q=>q.1≤n∧∀ j,j<q.1→a0Z (lv g.least j) (lv g.most j) (a1D s.gs i j)=0) (0,_) ⟨Nat.zero_le _,fun j hj=>absurd hj (Nat.not_lt_zero j)⟩ wkI ?_;rintro ⟨k,m⟩ F ⟨hk,ha⟩;dsimp only at hk ha ⊢;refine sR 1200 ?_;refine OkS.seq ?_;refine ifI ?_
 (refine brI (fun hlt=>?_) (fun hlt=>?_))<;>(try simp only [Bool.not_eq_true',Bool.not_eq_false'] at hlt)<;>(try simp only [hlt])
 ·have hk2:k<n:=by
   have:=of_decide_eq_true hlt
   omega
  have wi:IntKind.i64.wrap ((k:Int)+1)=((k+1:Nat):Int):=wI (by omega) (by omega);have cl:=c4J g k (b0G s.gs i) hgf (by omega) (by omega) (fun y hy=>by
   obtain ⟨rfl,hi0⟩:=hprev y hy;obtain ⟨q1,q2,q3⟩:=hp hi0
   have:=q3 k hk2
   exact ⟨hpf hi0,by omega,by omega,this.1,this.2⟩)
  rw [hP,hpre k] at cl;unfold a1b.D at cl;obtain ⟨c,hc⟩:∃ c,a0Z (lv g.least k) (lv g.most k) (a1D s.gs i k)=c:=⟨_,rfl⟩
  rw [hc] at cl;refine skI ?_;refine OkS.seq ?_;refine OkS.block ?_;refine sR 1300 ?_;refine sR 1400 ?_;refine cI cl ?_
  by_cases g1:c=0
  ·have e5:(((c:Nat):Int) != 0)=false:=by rw [g1];rfl
   refine sZ 1500 ?_;refine nwI e5 ?_;refine ifI ?_;refine skI ?_;refine OkS.reg w1 1700 (by kernel_rfl) ?_;refine nwI wi ?_;refine ⟨(k+1,_),⟨hk2,fun j hj=>?_⟩,by dsimp only;omega,wkI⟩;rcases Nat.lt_or_ge j k with h|h
   ·exact ha j h
   ·have:j=k:=by dsimp only at hj;omega
    rw [this,hc];exact g1
  ·have e5:(((c:Nat):Int) != 0)=true:=a3y (by omega)
   refine sZ 1500 ?_;refine nwI e5 ?_;refine ifI ?_;refine sR 1600 ?_;refine rtI ?_;refine a0a ?_ IsPure.out;rw [a6b (f:=fun k=>a0Z (lv g.least k) (lv g.most k) (a1D s.gs i k)) ha hk2 (by show a0Z (lv g.least k) (lv g.most k) (a1D s.gs i k)≠0;rw [hc];exact g1)]
   try dsimp only
   rw [hc]
 ·have hk2:k=n:=by
   have:=of_decide_eq_false hlt
   omega
  subst hk2;refine exI ?_;refine sR 1800 ?_;refine rtI ?_;exact a0a (by rw [a2W ha];rfl) IsPure.out
def d3J (N:Hp):Prop:=N=[]∨∃ g es,N=[⟨303,g,96,4,es⟩]
def d1p (e:Int)(Ha Hb:Hp)(j:Option Code)(H':Hp):Prop:=(e=0→j=none∧H'=Ha)∧(e≠0→j=some .ret∧H'=Hb)
theorem b5A (n:Nat):a2I [if ((n:Int)==0) then 2 else 0,if decide ((n:Int)>8) then 5 else 0]=((b0N n:Nat):Int):=by
 unfold b0N
 by_cases h:n=0
 ·subst h;decide
 ·have e1:((n:Int)==0)=false:=beq_eq_false_iff_ne.2 (by omega)
  rw [e1,if_neg h]
  by_cases h2:n>8
  ·have e2:decide ((n:Int)>8)=true:=decide_eq_true (by omega)
   rw [e2,if_pos h2];rfl
  ·have e2:decide ((n:Int)>8)=false:=decide_eq_false (by omega)
   rw [e2,if_neg h2];rfl
theorem b5b (n:Nat):a2I [if ((n:Int)==0) then 2 else 0,if decide ((n:Int)>16) then 5 else 0]=((b2g n:Nat):Int):=by
 unfold b2g
 by_cases h:n=0
 ·subst h;decide
 ·have e1:((n:Int)==0)=false:=beq_eq_false_iff_ne.2 (by omega)
  rw [e1,if_neg h]
  by_cases h2:n>16
  ·have e2:decide ((n:Int)>16)=true:=decide_eq_true (by omega)
   rw [e2,if_pos h2];rfl
  ·have e2:decide ((n:Int)>16)=false:=decide_eq_false (by omega)
   rw [e2,if_neg h2];rfl
theorem b0T (fs:List a1B)(i:Nat):a2I [(a0W (fs.getD i default):Int),if (fs.take i).any (a6O (fs.getD i default)) then 9 else 0]=((a1Q fs i:Nat):Int):=by
 unfold a1Q
 have:(fs.take i).any (a6O (fs.getD i default))=(fs.take i).any (fun x=>decide (x.name=(fs.getD i default).name)):=rfl
 rw [this]
 by_cases h:a0W (fs.getD i default)=0
 ·rw [h]
  cases (fs.take i).any (fun x=>decide (x.name=(fs.getD i default).name))<;>simp [a2I]
 ·rw [if_pos h]
  show (if (a0W (fs.getD i default):Int)≠0 then _ else _)=_;rw [if_pos (by omega)]
theorem c6A {E:a2L}{l:Nat}{R:LR}(hE:a2L.ok E)(s:a1u)(hs:s.few)(H0:Hp)(H1:Int→Hp)(n0:Nat)
  (hY:∀ (e:Int) (N:Hp) (n:Nat),d3J N→a9J C0 E l R [i64 e] (N++H0) n (fun j H' n'=>d1p e (N++H0) (N++H1 e) j H')) :
  a5u C0 E 238 [.clo (.yield l) [] [],.pptr s.D] l R H0 n0 (fun j d H' n'=>d1p (a0n s:Int) H0 (H1 (a0n s:Int)) j H'):=by
 refine a5u.walk w1 hE b9v rfl fun B F hR=>?_
 have hsc:a0n s=if b0N s.fs.length≠0 then b0N s.fs.length
  else if a7n (a1Q s.fs) s.fs.length≠0 then a7n (a1Q s.fs) s.fs.length
  else if b2g s.gs.length≠0 then b2g s.gs.length
  else a7n (a0A s.fs.length s.gs) s.gs.length:=rfl
 have hpg:∀ i,i<s.gs.length→(∀ j,j<i→a0A s.fs.length s.gs j=0)→a0b C0 241 [s.D,i64 (i:Int)] (i64 (a0A s.fs.length s.gs i)):=fun i hi ha=>c7l s i hs hi (fun h=>a5k (ha (i - 1) (by omega)))
 have fl:(s.fs.map a1B.D).length=s.fs.length:=List.length_map _;have gl:(s.gs.map a1b.D).length=s.gs.length:=List.length_map _;have ls:=hs.1;have lg:=hs.2.1;have hmf:∀ i,i<s.fs.length→(s.fs.map a1B.D)[((i:Nat):Int).toNat]? = some (.agg [str (sb (s.fs.getD i default).name),str (sb (s.fs.getD i default).tol),str (sb (s.fs.getD i default).kind),str (sb (s.fs.getD i default).step)]):=fun i hi=>by
  rw [Int.toNat_natCast];exact b7D hi
 have hcf:∀ i,i<s.fs.length→a0b C0 103 [.agg [str (sb (s.fs.getD i default).name),str (sb (s.fs.getD i default).tol),str (sb (s.fs.getD i default).kind),str (sb (s.fs.getD i default).step)]] (i64 (a0W (s.fs.getD i default))):=fun i hi=>b6y _ (hs.2.2.1 _ (List.mem_of_getElem? (a8p hi)))
 have hca:∀ i,i<s.fs.length→a0b C0 239 [.sl false 4 ((s.fs.map a1B.D).take i),.clo (.func 240) [] [.pptr (.agg [str (sb (s.fs.getD i default).name),str (sb (s.fs.getD i default).tol),str (sb (s.fs.getD i default).kind),str (sb (s.fs.getD i default).step)])]] (boo ((s.fs.take i).any (a6O (s.fs.getD i default)))):=fun i hi=>by
  have:=d4u (s.fs.take i) (s.fs.getD i default) (by rw [List.length_take];omega)
  rw [List.map_take] at this;exact this
 have hc2:∀ i,a0b C0 96 [.sl true 1 [i64 (a0W (s.fs.getD i default)),i64 (if (s.fs.take i).any (a6O (s.fs.getD i default)) then 9 else 0)]] (i64 (a1Q s.fs i)):=fun i=>by
  have:=b0m [(a0W (s.fs.getD i default):Int),if (s.fs.take i).any (a6O (s.fs.getD i default)) then 9 else 0] (by simp)
  rw [b0T] at this;exact this
 have c0:a0b C0 96 [.sl true 1 [i64 (if (((s.fs.map a1B.D).length:Int)==0) then 2 else 0),i64 (if decide (((s.fs.map a1B.D).length:Int)>8) then 5 else 0)]] (i64 (b0N s.fs.length)):=by
  have:=b0m [if (((s.fs.map a1B.D).length:Int)==0) then 2 else 0,if decide (((s.fs.map a1B.D).length:Int)>8) then 5 else 0] (by simp)
  rw [b5A,fl] at this;rw [fl];exact this
 have c7:a0b C0 96 [.sl true 1 [i64 (if (((s.gs.map a1b.D).length:Int)==0) then 2 else 0),i64 (if decide (((s.gs.map a1b.D).length:Int)>16) then 5 else 0)]] (i64 (b2g s.gs.length)):=by
  have:=b0m [if (((s.gs.map a1b.D).length:Int)==0) then 2 else 0,if decide (((s.gs.map a1b.D).length:Int)>16) then 5 else 0] (by simp)
  rw [b5b,gl] at this;rw [gl];exact this
 obtain ⟨v,hv⟩:∃ v,a0n s=v:=⟨_,rfl⟩
 rw [hv] at hsc ⊢;unfold a1u.D at hpg;unfold a1u.D;obtain ⟨fsD,hfsD⟩:∃ x,s.fs.map a1B.D=x:=⟨_,rfl⟩
 obtain ⟨gsD,hgsD⟩:∃ x,s.gs.map a1b.D=x:=⟨_,rfl⟩
 have pf:IsPure (.sl false 4 fsD):=by rw [← hfsD];exact inferInstance
 have pg:IsPure (.sl false 3 gsD):=by rw [← hgsD];exact inferInstance
 have pft:∀ i,IsPure (.sl false 4 (fsD.take i)):=fun i=>by
  rw [← hfsD,← List.map_take];exact inferInstance
 have pp:IsPure (.pptr (.agg [.sl false 4 fsD,.sl false 3 gsD])):=by
  rw [← hfsD,← hgsD];exact inferInstance
 rw [hfsD] at fl hmf hca c0 hpg ⊢;rw [hgsD] at gl c7 hpg ⊢;refine OkS.seq ?_;refine OkS.seq ?_;refine OkS.regDY w1 0 [0,1,2,3,4,5,6,7,8,9,10,11,12] [] 13 [14] (b0u [(14,[13,0,12,11,10,5,4,3,2,1,9,8,7,6]),(13,[0,12,11,10,5,4,3,2,1,9,8,7,6]),(12,[11,10,5,4,3,2,1,9,8,7,6]),(11,[5,10,4,3,2,1,9,8,7,6]),(10,[9,5,8,7,6,4,3,2,1]),(9,[8,7,6]),(8,[7,6]),(7,[6]),(6,[]),(5,[4,3,2,1]),(4,[3,2,1]),(3,[2,1]),(2,[1]),(1,[]),(0,[])] (by kernel_rfl)) hR ?_;refine nxI ?_;refine a0o.same _ (a1Z _ 2) inferInstance ?_;refine nxI ?_;refine a0o.same _ (a1Z _ 5) inferInstance ?_;refine nxI ?_;refine a0o.same _ (c0) inferInstance ?_;refine nxI ?_;refine ⟨rfl,_,hY _ [] _ (.inl rfl),?_,?_⟩
 rotate_left
 ·rintro c H' n1 hO F2 hst
  have hne:((b0N s.fs.length:Nat):Int)≠0:=fun h=>by have:=(hO.1 h).1;cases this
  obtain ⟨hc,rfl⟩:=hO.2 hne;cases hc;have hv2:v=b0N s.fs.length:=by rw [hsc,if_pos (by omega)]
  rw [← hv2] at hne ⊢;refine nxI ?_;refine ifI ?_;refine OkS.weak ⟨[],H1 ((v:Nat):Int),_⟩ wkI ?_;refine OkS.ret ?_;exact ⟨_,hst,trivial,⟨fun h=>absurd h hne,fun _=>⟨rfl,rfl⟩⟩⟩
 rintro H' n1 hO;have hz:b0N s.fs.length=0:=Classical.byContradiction fun h=>by have:=(hO.2 (by omega)).1;cases this
 obtain ⟨_,hh⟩:=hO.1 (by omega);rw [hh];rw [if_neg (fun h=>h hz)] at hsc;dsimp only [List.nil_append];refine nxI ?_;refine ifI ?_;refine skI ?_;refine OkS.seq ?_;refine fR 100 ?_;refine OkS.block ?_;rw [fl];refine OkS.loopF (α:=Nat × Nat) (fun p=>⟨[(0,.clo (.yield l) [] []),(1,.pptr (.agg [.sl false 4 fsD,.sl false 3 gsD])),(23,.sl false 4 fsD),(24,i64 (s.fs.length:Int)),(25,i64 (p.1:Int))],H0,p.2⟩) (fun p=>s.fs.length - p.1)
  (fun p F=>a6Q C0 E B F l R∧p.1≤s.fs.length∧∀ j,j<p.1→a1Q s.fs j=0) (0,_) ⟨hR,Nat.zero_le _,fun j hj=>absurd hj (Nat.not_lt_zero j)⟩ wkI ?_
 clear hR;rintro ⟨i,m⟩ F ⟨hR,hi,ha⟩;dsimp only at hi hR ha ⊢;refine fR 200 ?_;refine OkS.seq ?_;refine ifI ?_
 (refine brI (fun hlt=>?_) (fun hlt=>?_))<;>(try simp only [Bool.not_eq_true',Bool.not_eq_false'] at hlt)<;>(try simp only [hlt])
 ·have hi2:i<s.fs.length:=by
   have:=of_decide_eq_true hlt
   omega
  have hi3:i<fsD.length:=by omega
  have hm:=hmf i hi2;have cf:=hcf i hi2;have ca:=hca i hi2;have c2:=hc2 i;obtain ⟨e,he⟩:∃ e,a1Q s.fs i=e:=⟨_,rfl⟩
  rw [he] at c2;have hve:e≠0→v=e:=fun h=>by
   have:=a6b (f:=a1Q s.fs) ha hi2 (by rw [he];exact h)
   rw [he] at this;rw [this,if_pos h] at hsc;exact hsc
  have wi:IntKind.i64.wrap ((i:Int)+1)=((i+1:Nat):Int):=wI (by omega) (by omega);refine skI ?_;refine OkS.seq ?_;refine OkS.block ?_;refine fR 300 ?_;refine ⟨⟨rfl,by omega⟩,_,hm,?_⟩;refine dsI ?_
  try dsimp only [D.cells,spot]
  refine nxI ?_;refine fR 400 ?_;simp only [Int.toNat_natCast,Nat.sub_zero,List.drop_zero];refine a0k.own _ (a0w.lendS ca rfl (c7D (FzS.refl _ _) (.clo1 (.ptr rfl rfl rfl rfl))) inferInstance (.prim _)) ?_;rintro d H2 n2 ⟨rfl,rfl,rfl⟩;refine nxI ?_;refine OkS.seq ?_;refine OkS.regY w1 500 [0,1,2,3,4,5,6] 7 [8] rfl (by kernel_rfl) hR ?_;refine nxI ?_;refine a0k.same _ cf inferInstance ?_;refine nxI ?_;refine dI (a1Z _ 9) ?_;refine dI c2 ?_;refine ⟨rfl,_,hY _ [_] _ (.inr ⟨_,_,rfl⟩),?_,?_⟩
  rotate_left
  ·rintro c H' n1 hO F2 hst
   have hne:((e:Nat):Int)≠0:=fun h=>by have:=(hO.1 h).1;cases this
   obtain ⟨hc,rfl⟩:=hO.2 hne;cases hc;have hv2:v=e:=hve (by omega);subst hv2;refine nxI ?_;refine ifI ?_;refine OkS.weak ⟨[],H1 ((v:Nat):Int),_⟩ wkI ?_;refine OkS.ret ?_;exact ⟨_,hst,trivial,⟨fun h=>absurd h hne,fun _=>⟨rfl,rfl⟩⟩⟩
  rintro H' n1 hO;have hz:e=0:=Classical.byContradiction fun h=>by have:=(hO.2 (by omega)).1;cases this
  obtain ⟨_,hh⟩:=hO.1 (by omega);rw [hh];refine nxI ?_;refine ifI ?_;refine skI ?_;refine OkS.reg w1 600 (by kernel_rfl) ?_;refine mwI wi ?_;refine ⟨(i+1,_),⟨hR,hi2,fun j hj=>?_⟩,(by dsimp only;omega),wkI⟩;rcases Nat.lt_or_ge j i with h|h
  ·exact ha j h
  ·have:j=i:=by dsimp only at hj;omega
   rw [this,he];exact hz
 have hi2:i=s.fs.length:=by
  have:=of_decide_eq_false hlt
  omega
 subst hi2;rw [a2W ha,if_neg (by decide)] at hsc;refine exI ?_;refine OkS.seq ?_;refine OkS.seq ?_;refine OkS.regDY w1 700 [0,1,2,3,4,5,6,7,8,9,10,11,12] [] 13 [14] (b0u [(14,[13,0,12,11,10,5,4,3,2,1,9,8,7,6]),(13,[0,12,11,10,5,4,3,2,1,9,8,7,6]),(12,[11,10,5,4,3,2,1,9,8,7,6]),(11,[5,10,4,3,2,1,9,8,7,6]),(10,[9,5,8,7,6,4,3,2,1]),(9,[8,7,6]),(8,[7,6]),(7,[6]),(6,[]),(5,[4,3,2,1]),(4,[3,2,1]),(3,[2,1]),(2,[1]),(1,[]),(0,[])] (by kernel_rfl)) hR ?_;refine nxI ?_;refine a0o.same _ (a1Z _ 2) inferInstance ?_;refine nxI ?_;refine a0o.same _ (a1Z _ 5) inferInstance ?_;refine nxI ?_;refine a0o.same _ (c7) inferInstance ?_;refine nxI ?_;refine ⟨rfl,_,hY _ [] _ (.inl rfl),?_,?_⟩
 rotate_left
 ·rintro c H' n1 hO F2 hst
  have hne:((b2g s.gs.length:Nat):Int)≠0:=fun h=>by have:=(hO.1 h).1;cases this
  obtain ⟨hc,rfl⟩:=hO.2 hne;cases hc;have hv2:v=b2g s.gs.length:=by rw [hsc,if_pos (by omega)]
  rw [← hv2] at hne ⊢;refine nxI ?_;refine ifI ?_;refine OkS.weak ⟨[],H1 ((v:Nat):Int),_⟩ wkI ?_;refine OkS.ret ?_;exact ⟨_,hst,trivial,⟨fun h=>absurd h hne,fun _=>⟨rfl,rfl⟩⟩⟩
 rintro H' n1 hO;have hz:b2g s.gs.length=0:=Classical.byContradiction fun h=>by have:=(hO.2 (by omega)).1;cases this
 obtain ⟨_,hh⟩:=hO.1 (by omega);rw [hh];rw [if_neg (fun h=>h hz)] at hsc;dsimp only [List.nil_append];refine nxI ?_;refine ifI ?_;refine skI ?_;refine fR 800 ?_;refine OkS.block ?_;rw [gl];refine OkS.loopF (α:=Nat × Nat) (fun p=>⟨[(0,.clo (.yield l) [] []),(1,.pptr (.agg [.sl false 4 fsD,.sl false 3 gsD])),(63,i64 (s.gs.length:Int)),(64,i64 (p.1:Int))],H0,p.2⟩) (fun p=>s.gs.length - p.1)
  (fun p F=>a6Q C0 E B F l R∧p.1≤s.gs.length∧∀ j,j<p.1→a0A s.fs.length s.gs j=0) (0,_) ⟨hR,Nat.zero_le _,fun j hj=>absurd hj (Nat.not_lt_zero j)⟩ wkI ?_
 clear hR ha;rintro ⟨i,m⟩ F ⟨hR,hi,ha⟩;dsimp only at hi hR ha ⊢;refine fR 900 ?_;refine OkS.seq ?_;refine ifI ?_
 (refine brI (fun hlt=>?_) (fun hlt=>?_))<;>(try simp only [Bool.not_eq_true',Bool.not_eq_false'] at hlt)<;>(try simp only [hlt])
 ·have hi2:i<s.gs.length:=by
   have:=of_decide_eq_true hlt
   omega
  have cg:=hpg i hi2 ha;obtain ⟨e,he⟩:∃ e,a0A s.fs.length s.gs i=e:=⟨_,rfl⟩
  rw [he] at cg;have hve:e≠0→v=e:=fun h=>by
   have:=a6b (f:=a0A s.fs.length s.gs) ha hi2 (by rw [he];exact h)
   rw [he] at this;rw [this] at hsc;exact hsc
  have wi:IntKind.i64.wrap ((i:Int)+1)=((i+1:Nat):Int):=wI (by omega) (by omega);refine skI ?_;refine OkS.seq ?_;refine OkS.block ?_;refine fR 1000 ?_;refine OkS.seq ?_;refine OkS.regY w1 1100 [0,1,2,3] 4 [5] rfl (by kernel_rfl) hR ?_;refine nxI ?_;refine a0k.same _ cg inferInstance ?_;refine nxI ?_;refine ⟨rfl,_,hY _ [] _ (.inl rfl),?_,?_⟩
  rotate_left
  ·rintro c H' n1 hO F2 hst
   have hne:((e:Nat):Int)≠0:=fun h=>by have:=(hO.1 h).1;cases this
   obtain ⟨hc,rfl⟩:=hO.2 hne;cases hc;have hv2:v=e:=hve (by omega);subst hv2;refine nxI ?_;refine ifI ?_;refine OkS.weak ⟨[],H1 ((v:Nat):Int),_⟩ wkI ?_;refine OkS.ret ?_;exact ⟨_,hst,trivial,⟨fun h=>absurd h hne,fun _=>⟨rfl,rfl⟩⟩⟩
  rintro H' n1 hO;have hz:e=0:=Classical.byContradiction fun h=>by have:=(hO.2 (by omega)).1;cases this
  obtain ⟨_,hh⟩:=hO.1 (by omega);rw [hh];dsimp only [List.nil_append];refine nxI ?_;refine ifI ?_;refine skI ?_;refine OkS.reg w1 1200 (by kernel_rfl) ?_;refine mwI wi ?_;refine ⟨(i+1,_),⟨hR,hi2,fun j hj=>?_⟩,(by dsimp only;omega),wkI⟩;rcases Nat.lt_or_ge j i with h|h
  ·exact ha j h
  ·have:j=i:=by dsimp only at hj;omega
   rw [this,he];exact hz
 have hi2:i=s.gs.length:=by
  have:=of_decide_eq_false hlt
  omega
 subst hi2;rw [a2W ha] at hsc;refine exI ?_;exact ⟨none,hR.stat,trivial,⟨fun _=>⟨rfl,rfl⟩,fun h=>absurd hsc (by omega)⟩⟩
theorem c5H (s:a1u):a0b C0 210 [s.D] (.clo (.func 238) [] [.pptr s.D]):=by
 refine a0c.walkS w1 b7y rfl fun F=>?_
 have hp:a2e (.clo (.func 238) [] [.pptr s.D]):=(inferInstance:IsPure (.clo (.func 238) [] [.pptr s.D])).out;unfold a1u.D at hp ⊢;refine fR 0 ?_;refine fR 100 ?_;refine rtI ?_;exact ⟨_,.clo1 (.ptr rfl rfl rfl rfl),hp,rfl⟩
abbrev b3b (e:Int):Ent:=⟨1,1,30,1,[i64 e]⟩
abbrev d2d (s:a1u):Ent:=⟨0,0,39,2,[s.D]⟩
theorem d5l (s:a1u)(hs:s.few):a0b C0 162 [s.D] (i64 (a0n s)):=by
 refine a0c.walk w1 b7Z rfl fun F=>?_
 have cc:=c5H s;have hit:=fun {E:a2L} {l:Nat} {R:LR} (hE:a2L.ok E) (n0:Nat)=>c6A (E:=E) (l:=l) (R:=R) hE s hs [b3b 0,d2d s] (fun e=>[b3b e,d2d s]) n0
 obtain ⟨c,hc⟩:∃ c,a0n s=c:=⟨_,rfl⟩
 rw [hc];unfold d2d at hit;rw [hc] at hit;have pS:IsPure s.D:=inferInstance;have sD:∃ a b,s.D=.agg [a,b]:=⟨_,_,rfl⟩
 obtain ⟨d,hd⟩:∃ d,s.D=d:=⟨_,rfl⟩
 rw [hd] at cc hit pS sD ⊢;obtain ⟨a,b,rfl⟩:=sD;clear hd;refine sR 0 ?_;refine OkS.seq ?_;refine sR 100 ?_;refine cI cc ?_;refine OkS.block ?_;refine OkS.rangeFunc (fi:=238) (first:=[]) (captured:=[.pptr (.agg [a,b])]) (Ψ:=fun j d H' n'=>d1p (c:Int) [b3b 0,⟨0,0,39,2,[.agg [a,b]]⟩] [b3b c,⟨0,0,39,2,[.agg [a,b]]⟩] j H') rfl
  (fun ds H n Φ=>∃ e N,d3J N∧ds=[i64 e]∧H=N++[b3b 0,⟨0,0,39,2,[.agg [a,b]]⟩]∧Φ=fun j H' n'=>d1p e (N++[b3b 0,⟨0,0,39,2,[.agg [a,b]]⟩]) (N++[b3b e,⟨0,0,39,2,[.agg [a,b]]⟩]) j H') ?_
  (fun E l R hE hY=>hit hE _ (fun e N n hN=>hY _ _ _ _ ⟨e,N,hN,rfl,rfl,rfl⟩)) ?_
 ·rintro l ds H n Φ ⟨e,N,hN,rfl,rfl,rfl⟩
  refine ⟨rfl,fun F=>?_⟩;refine OkS.reg w1 200 (by kernel_rfl) ?_;refine stI ?_;refine ⟨rfl,rfl,fun F'=>?_⟩;refine OkS.block ?_
  by_cases he:e=0
  ·subst he
   refine sR 300 ?_;refine ifI ?_;refine skI ?_;exact ⟨fun _=>⟨rfl,rfl⟩,fun h=>absurd rfl h⟩
  ·have e1:(e != 0)=true:=a3y he
   rcases hN with rfl|⟨g,es,rfl⟩
   ·dsimp only [List.nil_append]
    refine sZ 300 ?_;refine nwI e1 ?_;refine ifI ?_;refine sR 400 ?_;refine OkS.ret ?_;exact ⟨fun h=>absurd h he,fun _=>⟨rfl,rfl⟩⟩
   ·dsimp only [List.cons_append,List.nil_append]
    refine sZ 300 ?_;refine nwI e1 ?_;refine ifI ?_;refine sR 400 ?_;refine OkS.ret ?_;exact ⟨fun h=>absurd h he,fun _=>⟨rfl,rfl⟩⟩
 ·rintro j d H' n' F' hO
  by_cases h:(c:Int)=0
  ·obtain ⟨rfl,rfl⟩:=hO.1 h
   dsimp only [c8r];refine sR 500 ?_;refine rtI ?_;exact a0a (by rw [show c=0 by omega];rfl) IsPure.out
  ·obtain ⟨rfl,rfl⟩:=hO.2 h
   dsimp only [c8r];refine And.intro sdI ?_;refine dsI ?_;exact a0a rfl IsPure.out
def a4j (a b:List UInt8):Nat:=if a2v a≠0 then a2v a else a2v b
def a3j (a b:List UInt8):Nat:=if a4j a b=0∧a≠[]∧b≠[]∧a2F (a0g a) (a0g b)>0 then 3 else a4j a b
theorem a6k {a b:List UInt8}(h:a4j a b=0):a2v a=0∧a2v b=0:=by
 unfold a4j at h
 by_cases g:a2v a=0
 ·rw [if_neg (fun k=>k g)] at h;exact ⟨g,h⟩
 ·rw [if_pos g] at h;exact absurd h g
theorem a6i {a b:List UInt8}(h:a3j a b=0):a4j a b=0:=by
 unfold a3j at h;split at h
 ·cases h
 ·exact h
theorem b9C {a b:List UInt8}{p:Option (List UInt8 × List UInt8)}(h:a3j a b≠0):a0Z a b p=a3j a b:=by
 unfold a0Z;unfold a3j a4j at h ⊢
 by_cases g:a2v a=0
 ·simp only [g,ne_eq,not_true_eq_false,if_false] at h ⊢
  by_cases g2:a2v b=0
  ·simp only [g2,not_true_eq_false,if_false,true_and] at h ⊢
   by_cases g3:a≠[]∧b≠[]∧a2F (a0g a) (a0g b)>0
   ·rw [if_pos g3,if_pos g3]
   ·rw [if_neg g3] at h;exact absurd rfl h
  ·simp only [g2,not_false_eq_true,if_true,false_and,if_false]
 ·simp only [g,ne_eq,not_false_eq_true,if_true,false_and,if_false]
theorem c1k {a b:List UInt8}{p:Option (List UInt8 × List UInt8)}(h:a3j a b=0):a0Z a b p=match p with
  | none=>0
  | some (c,d)=>if a6V a b c d then 0 else 11:=by
 obtain ⟨h1,h2⟩:=a6k (a6i h);unfold a0Z;rw [if_neg (fun k=>k h1),if_neg (fun k=>k h2)]
 have:¬ (a≠[]∧b≠[]∧a2F (a0g a) (a0g b)>0):=fun g=>by
  unfold a3j at h;rw [if_pos ⟨a6i (by unfold a3j;exact h),g⟩] at h;cases h
 rw [if_neg this]
 all_goals (cases p<;>rfl)
theorem b4C {α:Type}{l:List α}{p:α→Bool}{k:Nat}{x:α}(hx:l[k]? = some x)(h:(l.take k).any p=false)(hp:p x=false):(l.take (k+1)).any p=false:=by
 rw [List.take_add_one,hx,List.any_append,h];simp [hp]
theorem d0q (s:a1u)(i:Nat)(hs:s.few)(hi:i<s.gs.length)(hp:0<i→gOk s.fs.length (s.gs.getD (i - 1) default)) :
  a0b C0 76 [s.D,i64 (i:Int)] (i64 (a0A s.fs.length s.gs i)):=by
 refine a0c.walk w1 d2Q rfl fun F=>?_
 have hm:=b1R hi;have hgm:∀ k,k<s.gs.length→(s.gs.map a1b.D)[k]? = some (.agg [str (sb (s.gs.getD k default).name),.sl false 1 ((s.gs.getD k default).least.map fun l=>str (sb l)),.sl false 1 ((s.gs.getD k default).most.map fun l=>str (sb l))]):=fun k hk=>b1R hk
 have hgs:∀ k,k<s.gs.length→s.gs[k]? = some (s.gs.getD k default):=fun k hk=>a2G hk
 have hgf:=hs.2.2.2 _ (List.mem_of_getElem? (a2G hi));have hpf:0<i→(s.gs.getD (i - 1) default).few:=fun h=>hs.2.2.2 _ (List.mem_of_getElem? (a2G (by omega)))
 have el1:(((s.fs.map a1B.D).length:Nat):Int)=(s.fs.length:Int):=by rw [List.length_map]
 have ls:=hs.1;have lg:=hs.2.1;have hcg:∀ g,s.gs.getD i default=g→a0A s.fs.length s.gs i=if a1l g.name then
  (if (s.gs.take i).any (fun x=>decide (x.name=g.name)) then 9
  else if g.least.length=s.fs.length∧g.most.length=s.fs.length then a7n (fun k=>a0Z (lv g.least k) (lv g.most k) (a1D s.gs i k)) s.fs.length
  else 2)
 else 8:=fun g h=>by unfold a0A;rw [h]
 obtain ⟨g,hg⟩:∃ g,s.gs.getD i default=g:=⟨_,rfl⟩
 rw [hcg g hg];rw [hg] at hm hgf;have cn:a0b C0 141 [str (sb g.name)] (boo (a1l g.name)):=c9N g.name (by have:=hgf.1;omega);obtain ⟨n,hn⟩:∃ n,s.fs.length=n:=⟨_,rfl⟩
 rw [hn] at el1 hp ls ⊢;obtain ⟨fsD,hfsD⟩:∃ x,s.fs.map a1B.D=x:=⟨_,rfl⟩
 obtain ⟨gsD,hgsD⟩:∃ x,s.gs.map a1b.D=x:=⟨_,rfl⟩
 have pf:IsPure (.sl false 4 fsD):=by rw [← hfsD];exact inferInstance
 have pg:IsPure (.sl false 3 gsD):=by rw [← hgsD];exact inferInstance
 have gl:gsD.length=s.gs.length:=by rw [← hgsD,List.length_map]
 unfold a1u.D;rw [hfsD,hgsD];rw [hfsD] at el1;rw [hgsD] at hm hgm;refine sR 0 ?_;refine sZ 100 ?_;refine gwI kN ?_;refine ixI kT hm ?_;refine gwI kN ?_;refine OkS.seq ?_;refine sR 200 ?_;refine cI cn ?_;cases hnm:a1l g.name
 ·rw [if_neg (by decide)]
  refine ifI ?_;refine sR 300 ?_;refine rtI ?_;exact a0a rfl IsPure.out
 rw [if_pos rfl];refine ifI ?_;refine skI ?_;refine OkS.seq ?_;refine sR 400 ?_;refine OkS.block ?_;refine OkS.loop (α:=Nat × Nat) (fun q=>⟨[(1,i64 (i:Int)),(2,.optr 0 0 2 0 0),(5,.optr 105 7 3 0 0),(6,i64 (q.1:Int))],[⟨105,7,56,3,[.agg [str (sb g.name),.sl false 1 (g.least.map fun l=>str (sb l)),.sl false 1 (g.most.map fun l=>str (sb l))]]⟩,⟨0,0,39,2,[.agg [.sl false 4 fsD,.sl false 3 gsD]]⟩],q.2⟩) (fun q=>i - q.1) (fun q=>q.1≤i∧(s.gs.take q.1).any (fun x=>decide (x.name=g.name))=false) (0,_) ⟨Nat.zero_le _,rfl⟩ wkI ?_;rintro ⟨k,m⟩ F ⟨hk,ha⟩;dsimp only at hk ha ⊢;refine OkS.seq ?_;refine sR 500 ?_;refine ifI ?_
 (refine brI (fun hlt=>?_) (fun hlt=>?_))<;>(try simp only [Bool.not_eq_true',Bool.not_eq_false'] at hlt)<;>(try simp only [hlt])
 ·have hk2:k<i:=by
   have:=of_decide_eq_true hlt
   omega
  have hmk:=hgm k (by omega);have hsk:=hgs k (by omega);have wi:IntKind.i64.wrap ((k:Int)+1)=((k+1:Nat):Int):=wI (by omega) (by omega);obtain ⟨y,hy⟩:∃ y,s.gs.getD k default=y:=⟨_,rfl⟩
  rw [hy] at hmk hsk;have es:=a5Q y.name g.name;refine skI ?_;refine OkS.seq ?_;refine OkS.block ?_;refine OkS.seq ?_;refine OkS.regD w1 700 [0,1,2,3,4,5,6,7] [8] (by kernel_rfl) ?_;refine gwI kN ?_;refine ixI kT hmk ?_;refine gwI kN ?_
  by_cases hn2:y.name=g.name
  ·rw [decide_eq_true hn2] at es
   have hany:(s.gs.take i).any (fun x=>decide (x.name=g.name))=true:=a5y hk2 hsk (decide_eq_true hn2);rw [if_pos hany]
   try simp only [es]
   refine ifI ?_;refine sR 800 ?_;refine rtI ?_;exact a0a rfl IsPure.out
  ·rw [decide_eq_false hn2] at es
   try simp only [es]
   refine ifI ?_;refine skI ?_;refine OkS.reg w1 600 (by kernel_rfl) ?_;refine nwI wi ?_;exact ⟨(k+1,_),⟨hk2,b4C hsk ha (decide_eq_false hn2)⟩,by dsimp only;omega,wkI⟩
 have hk2:k=i:=by
  have:=of_decide_eq_false hlt
  omega
 subst hk2;rw [if_neg (by rw [ha];decide)];refine exI ?_;have el2:(((g.least.map fun l=>str (sb l)).length:Nat):Int)=(g.least.length:Int):=by rw [List.length_map]
 have el3:(((g.most.map fun l=>str (sb l)).length:Nat):Int)=(g.most.length:Int):=by rw [List.length_map]
 by_cases h1:g.least.length=n
 rotate_left
 ·have e3:(((g.least.length:Nat):Int) != ((n:Nat):Int))=true:=by
   have:(((g.least.length:Nat):Int)==((n:Nat):Int))=false:=beq_eq_false_iff_ne.2 (by omega)
   unfold bne;rw [this];rfl
  rw [if_neg (fun h=>h1 h.1)];refine OkS.seq ?_;refine sZ 900 ?_;refine nwI (ff5 el1 el2 e3 kT kF) ?_;refine gwI kB ?_;refine ifI ?_;refine sR 1000 ?_;refine rtI ?_;exact a0a rfl IsPure.out
 have e3:(((g.least.length:Nat):Int) != ((n:Nat):Int))=false:=by rw [h1];simp
 by_cases h2:g.most.length=n
 rotate_left
 ·have e4:(((g.most.length:Nat):Int) != ((n:Nat):Int))=true:=by
   have:(((g.most.length:Nat):Int)==((n:Nat):Int))=false:=beq_eq_false_iff_ne.2 (by omega)
   unfold bne;rw [this];rfl
  rw [if_neg (fun h=>h2 h.2)];refine OkS.seq ?_;refine sZ 900 ?_;refine nwI (ff5 el1 el2 e3 kT kF) ?_;refine gwI kB ?_;simp only [el1,el3,e4];refine ifI ?_;refine sR 1000 ?_;refine rtI ?_;exact a0a rfl IsPure.out
 have e4:(((g.most.length:Nat):Int) != ((n:Nat):Int))=false:=by rw [h2];simp
 rw [if_pos ⟨h1,h2⟩];refine OkS.seq ?_;refine sZ 900 ?_;refine nwI (ff5 el1 el2 e3 kT kF) ?_;refine gwI kB ?_;simp only [el1,el3,e4];refine ifI ?_;refine skI ?_;refine OkS.seq ?_;refine sR 1100 ?_;refine OkS.block ?_;refine OkS.loop (α:=Nat × Nat) (fun q=>⟨[(1,i64 (k:Int)),(2,.optr 0 0 2 0 0),(5,.optr 105 7 3 0 0),(7,i64 (q.1:Int))],[⟨105,7,56,3,[.agg [str (sb g.name),.sl false 1 (g.least.map fun l=>str (sb l)),.sl false 1 (g.most.map fun l=>str (sb l))]]⟩,⟨0,0,39,2,[.agg [.sl false 4 fsD,.sl false 3 gsD]]⟩],q.2⟩) (fun q=>n - q.1) (fun q=>q.1≤n∧∀ j,j<q.1→a0Z (lv g.least j) (lv g.most j) (a1D s.gs k j)=0) (0,_) ⟨Nat.zero_le _,fun j hj=>absurd hj (Nat.not_lt_zero j)⟩ wkI ?_;clear ha;rintro ⟨j,m⟩ F ⟨hj,ha⟩;dsimp only at hj ha ⊢;refine OkS.seq ?_;refine sZ 1200 ?_;refine nwI el1 ?_;refine ifI ?_
 (refine brI (fun hlt=>?_) (fun hlt=>?_))<;>(try simp only [Bool.not_eq_true',Bool.not_eq_false'] at hlt)<;>(try simp only [hlt])
 rotate_left
 ·have hj2:j=n:=by
   have:=of_decide_eq_false hlt
   omega
  subst hj2;refine exI ?_;refine sR 2300 ?_;refine rtI ?_;exact a0a (by rw [a2W ha];rfl) IsPure.out
 have hj2:j<n:=by
  have:=of_decide_eq_true hlt
  omega
 have wi:IntKind.i64.wrap ((j:Int)+1)=((j+1:Nat):Int):=wI (by omega) (by omega);have m1:=a2J (l:=g.least) (k:=j) (by omega);have m2:=a2J (l:=g.most) (k:=j) (by omega);have f1:=a5z (l:=g.least) (k:=j) (by omega) hgf.2.2.2.1;have f2:=a5z (l:=g.most) (k:=j) (by omega) hgf.2.2.2.2;have hfst:a0Z (lv g.least j) (lv g.most j) (a1D s.gs k j)≠0→a7n (fun j=>a0Z (lv g.least j) (lv g.most j) (a1D s.gs k j)) n=a0Z (lv g.least j) (lv g.most j) (a1D s.gs k j):=fun h=>a6b (f:=fun j=>a0Z (lv g.least j) (lv g.most j) (a1D s.gs k j)) ha hj2 h
 have hnext:a0Z (lv g.least j) (lv g.most j) (a1D s.gs k j)=0→∀ x,x<j+1→a0Z (lv g.least x) (lv g.most x) (a1D s.gs k x)=0:=fun h x hx=>by
  rcases Nat.lt_or_ge x j with hx2|hx2
  ·exact ha x hx2
  ·have:x=j:=by omega
   rw [this];exact h
 obtain ⟨a,ea⟩:∃ a,lv g.least j=a:=⟨_,rfl⟩
 obtain ⟨b,eb⟩:∃ b,lv g.most j=b:=⟨_,rfl⟩
 rw [ea] at m1 f1;rw [eb] at m2 f2;rw [ea,eb] at hfst hnext;have sa:=a1E a;have sb':=a1E b;have ca:=c2M a f1;have cb:=c2M b f2;obtain ⟨P,hP⟩:∃ P,a1D s.gs k j=P:=⟨_,rfl⟩
 rw [hP] at hfst hnext;refine skI ?_;refine OkS.seq ?_;refine OkS.block ?_;refine sZ 1400 ?_;refine gwI kN ?_;refine ixI kT m1 ?_;refine gwI kN ?_;refine cI ca ?_;refine OkS.seqX (α:=Nat) (fun m=>⟨[(1,i64 (k:Int)),(2,.optr 0 0 2 0 0),(5,.optr 105 7 3 0 0),(7,i64 (j:Int)),(8,i64 ((a4j a b:Nat):Int))],[⟨105,7,56,3,[.agg [str (sb g.name),.sl false 1 (g.least.map fun l=>str (sb l)),.sl false 1 (g.most.map fun l=>str (sb l))]]⟩,⟨0,0,39,2,[.agg [.sl false 4 fsD,.sl false 3 gsD]]⟩],m⟩) (fun _=>True) ?_ ?_
 ·by_cases g1:a2v a=0
  ·have e5:(((a2v a:Nat):Int)==0)=true:=by rw [g1];rfl
   have e6:a4j a b=a2v b:=by unfold a4j;rw [if_neg (fun h=>h g1)]
   rw [e6];refine sZ 1500 ?_;refine nwI e5 ?_;refine ifI ?_;refine OkS.reg w1 1600 (by kernel_rfl) ?_;refine gwI kN ?_;refine ixI kT m2 ?_;refine gwI kN ?_;refine cI cb ?_;exact ⟨by trivial,_,trivial,wkI⟩
  ·have e5:(((a2v a:Nat):Int)==0)=false:=beq_eq_false_iff_ne.2 (by omega)
   have e6:a4j a b=a2v a:=by unfold a4j;rw [if_pos g1]
   rw [e6];refine sZ 1500 ?_;refine nwI e5 ?_;refine ifI ?_;refine skI ?_;exact ⟨rfl,_,trivial,wkI⟩
 rintro m2' -;refine OkS.seqX (α:=Nat) (fun m=>⟨[(1,i64 (k:Int)),(2,.optr 0 0 2 0 0),(5,.optr 105 7 3 0 0),(7,i64 (j:Int)),(8,i64 ((a3j a b:Nat):Int))],[⟨105,7,56,3,[.agg [str (sb g.name),.sl false 1 (g.least.map fun l=>str (sb l)),.sl false 1 (g.most.map fun l=>str (sb l))]]⟩,⟨0,0,39,2,[.agg [.sl false 4 fsD,.sl false 3 gsD]]⟩],m⟩) (fun _=>True) ?_ ?_
 ·by_cases g1:a4j a b=0
  rotate_left
  ·have e5:(((a4j a b:Nat):Int)==0)=false:=beq_eq_false_iff_ne.2 (by omega)
   have e6:a3j a b=a4j a b:=by unfold a3j;rw [if_neg (fun h=>g1 h.1)]
   rw [e6];refine OkS.seq ?_;refine OkS.regD w1 1700 [0,1,2,3,4,5,6,7,8,9,10,11,12,13,14,15,16,17,18,19,20,21,22,23,24,25,26,27,28] [29,30,31] (by kernel_rfl) ?_;refine nwI (ff3 e5 kT kF) ?_
   try simp only [implies_true]
   refine gwI kB ?_
   try simp only [implies_true]
   refine gwI kB ?_
   try simp only [implies_true]
   refine gwI kB ?_
   try simp only [implies_true]
   refine gwI kB ?_
   try simp only [implies_true]
   refine ifI ?_;refine skI ?_;exact ⟨rfl,_,trivial,wkI⟩
  have e5:(((a4j a b:Nat):Int)==0)=true:=by rw [g1];rfl
  obtain ⟨la,lb⟩:=a6k g1
  by_cases ga:a=[]
  ·have e6:a3j a b=a4j a b:=by unfold a3j;rw [if_neg (fun h=>h.2.1 ga)]
   rw [e6];rw [decide_eq_true ga] at sa;refine OkS.seq ?_;refine OkS.regD w1 1700 [0,1,2,3,4,5,6,7,8,9,10,11,12,13,14,15,16,17,18,19,20,21,22,23,24,25,26,27,28] [29,30,31] (by kernel_rfl) ?_;refine nwI (ff3 e5 kT kF) ?_
   try simp only [implies_true]
   refine gwI kB ?_
   try simp only [implies_true]
   refine ixI kT m1 ?_;refine gwI kB ?_
   try simp only [implies_true]
   try simp only [sa,Bool.not_true,Bool.not_false]
   refine gwI kB ?_
   try simp only [implies_true]
   refine gwI kB ?_
   try simp only [implies_true]
   refine gwI kB ?_
   try simp only [implies_true]
   refine gwI kB ?_
   try simp only [implies_true]
   refine ifI ?_;refine skI ?_;exact ⟨rfl,_,trivial,wkI⟩
  rw [decide_eq_false ga] at sa
  by_cases gb:b=[]
  ·have e6:a3j a b=a4j a b:=by unfold a3j;rw [if_neg (fun h=>h.2.2.1 gb)]
   rw [e6];rw [decide_eq_true gb] at sb';refine OkS.seq ?_;refine OkS.regD w1 1700 [0,1,2,3,4,5,6,7,8,9,10,11,12,13,14,15,16,17,18,19,20,21,22,23,24,25,26,27,28] [29,30,31] (by kernel_rfl) ?_;refine nwI (ff3 e5 kT kF) ?_
   try simp only [implies_true]
   refine gwI kB ?_
   try simp only [implies_true]
   refine ixI kT m1 ?_;refine gwI kB ?_
   try simp only [implies_true]
   try simp only [sa,Bool.not_true,Bool.not_false]
   refine gwI kB ?_
   try simp only [implies_true]
   refine ixI kT m2 ?_;refine gwI kB ?_
   try simp only [implies_true]
   try simp only [sb',Bool.not_true,Bool.not_false]
   refine gwI kB ?_
   try simp only [implies_true]
   refine gwI kB ?_
   try simp only [implies_true]
   refine gwI kB ?_
   try simp only [implies_true]
   refine gwI kB ?_
   try simp only [implies_true]
   refine ifI ?_;refine skI ?_;exact ⟨rfl,_,trivial,wkI⟩
  rw [decide_eq_false gb] at sb';have cc:=b1x (a1U la ga) (a1U lb gb);refine OkS.seq ?_;refine OkS.regD w1 1700 [0,1,2,3,4,5,6,7,8,9,10,11,12,13,14,15,16,17,18,19,20,21,22,23,24,25,26,27,28] [29,30,31] (by kernel_rfl) ?_;refine nwI (ff3 e5 kT kF) ?_
  try simp only [implies_true]
  refine gwI kB ?_
  try simp only [implies_true]
  refine ixI kT m1 ?_;refine gwI kB ?_
  try simp only [implies_true]
  try simp only [sa,Bool.not_true,Bool.not_false]
  refine gwI kB ?_
  try simp only [implies_true]
  refine ixI kT m2 ?_;refine gwI kB ?_
  try simp only [implies_true]
  try simp only [sb',Bool.not_true,Bool.not_false]
  refine gwI kB ?_
  try simp only [implies_true]
  refine ixI kT m1 ?_;refine gwI kB ?_
  try simp only [implies_true]
  refine ixI kT m2 ?_;refine gwI kB ?_
  try simp only [implies_true]
  refine gcI kB ?_;refine a0k.same _ cc inferInstance ?_;refine gwI kB ?_
  by_cases g4:a2F (a0g a) (a0g b)>0
  ·have e6:a3j a b=3:=by unfold a3j;rw [if_pos ⟨g1,ga,gb,g4⟩]
   rw [e6];rw [decide_eq_true g4];refine ifI ?_;refine rI 1800 ?_;exact ⟨by trivial,_,trivial,wkI⟩
  ·have e6:a3j a b=a4j a b:=by unfold a3j;rw [if_neg (fun h=>g4 h.2.2.2)]
   rw [e6];rw [decide_eq_false g4];refine ifI ?_;refine skI ?_;exact ⟨rfl,_,trivial,wkI⟩
 rintro m3 -;refine OkS.seqX (α:=Nat) (fun m=>⟨[(1,i64 (k:Int)),(2,.optr 0 0 2 0 0),(5,.optr 105 7 3 0 0),(7,i64 (j:Int)),(8,i64 ((a0Z a b P:Nat):Int))],[⟨105,7,56,3,[.agg [str (sb g.name),.sl false 1 (g.least.map fun l=>str (sb l)),.sl false 1 (g.most.map fun l=>str (sb l))]]⟩,⟨0,0,39,2,[.agg [.sl false 4 fsD,.sl false 3 gsD]]⟩],m⟩) (fun _=>True) ?_ ?_
 ·by_cases g1:a3j a b=0
  rotate_left
  ·have e5:(((a3j a b:Nat):Int)==0)=false:=beq_eq_false_iff_ne.2 (by omega)
   rw [b9C g1];refine OkS.seq ?_;refine OkS.regD w1 1900 [0,1,2,3,4,5,6,7,8,9,10,11,12,13,14,15,16,17,18,19,20,21,22,23,24,25,26,27,28,29,30,31,32,33,34,35,36] [37,38,39] (by kernel_rfl) ?_;refine nwI (ff3 e5 kT kF) ?_
   try simp only [implies_true]
   refine gwI kB ?_
   try simp only [implies_true]
   refine gwI kB ?_
   try simp only [implies_true]
   refine gwI kB ?_
   try simp only [implies_true]
   refine gwI kB ?_
   try simp only [implies_true]
   refine ifI ?_;refine skI ?_;exact ⟨rfl,_,trivial,wkI⟩
  have e5:(((a3j a b:Nat):Int)==0)=true:=by rw [g1];rfl
  obtain ⟨la,lb⟩:=a6k (a6i g1);rw [c1k g1]
  by_cases hk0:k=0
  ·have e7:decide ((k:Int)>0)=false:=decide_eq_false (by omega)
   have:P=none:=by rw [← hP];unfold a1D;rw [if_pos hk0]
   subst this;dsimp only;refine OkS.seq ?_;refine OkS.regD w1 1900 [0,1,2,3,4,5,6,7,8,9,10,11,12,13,14,15,16,17,18,19,20,21,22,23,24,25,26,27,28,29,30,31,32,33,34,35,36] [37,38,39] (by kernel_rfl) ?_;refine nwI (ff3 e5 kT kF) ?_
   try simp only [implies_true]
   refine gwI kB ?_
   try simp only [implies_true]
   try simp only [e7,Bool.not_true,Bool.not_false]
   refine gwI kB ?_
   try simp only [implies_true]
   refine gwI kB ?_
   try simp only [implies_true]
   refine gwI kB ?_
   try simp only [implies_true]
   refine gwI kB ?_
   try simp only [implies_true]
   refine ifI ?_;refine skI ?_;exact ⟨rfl,_,trivial,wkI⟩
  have e7:decide ((k:Int)>0)=true:=decide_eq_true (by omega);have ws:IntKind.i64.wrap ((k:Int) - 1)=((k - 1:Nat):Int):=by
   rw [show (k:Int) - 1=((k - 1:Nat):Int) by omega];exact wI (by omega) (by omega)
  have hm1:=hgm (k - 1) (by omega);obtain ⟨q1,q2,q3⟩:=hp (by omega);obtain ⟨q4,q5⟩:=q3 j hj2;obtain ⟨z,hz⟩:∃ z,s.gs.getD (k - 1) default=z:=⟨_,rfl⟩
  rw [hz] at hm1 q1 q2 q4 q5;have m3:=a2J (l:=z.least) (k:=j) (by omega);have m4:=a2J (l:=z.most) (k:=j) (by omega);have hPz:P=some (lv z.least j,lv z.most j):=by rw [← hP];unfold a1D;rw [if_neg hk0,hz]
  subst hPz;obtain ⟨c,ec⟩:∃ c,lv z.least j=c:=⟨_,rfl⟩
  obtain ⟨d,ed⟩:∃ d,lv z.most j=d:=⟨_,rfl⟩
  rw [ec] at m3 q4 ⊢;rw [ed] at m4 q5 ⊢;dsimp only;have co:=b9B a b c d la lb q4 q5;refine OkS.seq ?_;refine OkS.regD w1 1900 [0,1,2,3,4,5,6,7,8,9,10,11,12,13,14,15,16,17,18,19,20,21,22,23,24,25,26,27,28,29,30,31,32,33,34,35,36] [37,38,39] (by kernel_rfl) ?_;refine nwI (ff3 e5 kT kF) ?_
  try simp only [implies_true]
  refine gwI kB ?_
  try simp only [implies_true]
  try simp only [e7,Bool.not_true,Bool.not_false]
  refine gwI kB ?_
  try simp only [implies_true]
  refine ixI kT m1 ?_;refine gwI kB ?_
  try simp only [implies_true]
  refine ixI kT m2 ?_;refine gwI kB ?_
  try simp only [implies_true]
  try simp only [ws]
  refine ixI kT hm1 ?_;refine gwI kB ?_
  try simp only [implies_true]
  refine ixI kT m3 ?_;refine gwI kB ?_
  try simp only [implies_true]
  try simp only [ws]
  refine ixI kT hm1 ?_;refine gwI kB ?_
  try simp only [implies_true]
  refine ixI kT m4 ?_;refine gwI kB ?_
  try simp only [implies_true]
  refine gcI kB ?_;refine a0k.same _ co inferInstance ?_;refine gwI kB ?_;cases a6V a b c d
  ·refine ifI ?_
   refine rI 2000 ?_;exact ⟨by trivial,_,trivial,wkI⟩
  ·refine ifI ?_
   refine skI ?_;rw [g1];exact ⟨rfl,_,trivial,wkI⟩
 rintro m4 -
 by_cases g1:a0Z a b P=0
 ·have e5:(((a0Z a b P:Nat):Int) != 0)=false:=by rw [g1];rfl
  refine sZ 2100 ?_;refine nwI e5 ?_;refine ifI ?_;refine skI ?_;refine OkS.reg w1 1300 (by kernel_rfl) ?_;refine nwI wi ?_;exact ⟨(j+1,_),⟨hj2,hnext g1⟩,by dsimp only;omega,wkI⟩
 ·have e5:(((a0Z a b P:Nat):Int) != 0)=true:=a3y (by omega)
  refine sZ 2100 ?_;refine nwI e5 ?_;refine ifI ?_;refine sR 2200 ?_;refine rtI ?_;exact a0a (by rw [hfst g1]) IsPure.out
theorem c6F {α:Type}{l:List α}{p:α→Bool}{k i:Nat}{x:α}(hx:l[k]? = some x)(hk:k<i)(h:p x=true):(l.take i).any p=true:=a5y hk hx h
theorem d4b (s:a1u)(hs:s.few):a0b C0 19 [s.D] (i64 (a0n s)):=by
 refine a0c.walk w1 d2M rfl fun F=>?_
 have hsc:a0n s=if b0N s.fs.length≠0 then b0N s.fs.length
  else if a7n (a1Q s.fs) s.fs.length≠0 then a7n (a1Q s.fs) s.fs.length
  else if b2g s.gs.length≠0 then b2g s.gs.length
  else a7n (a0A s.fs.length s.gs) s.gs.length:=rfl
 have hpg:∀ i,i<s.gs.length→(∀ j,j<i→a0A s.fs.length s.gs j=0)→a0b C0 76 [s.D,i64 (i:Int)] (i64 (a0A s.fs.length s.gs i)):=fun i hi ha=>d0q s i hs hi (fun h=>a5k (ha (i - 1) (by omega)))
 have fl:(((s.fs.map a1B.D).length:Nat):Int)=(s.fs.length:Int):=by rw [List.length_map]
 have gl:(((s.gs.map a1b.D).length:Nat):Int)=(s.gs.length:Int):=by rw [List.length_map]
 have ls:=hs.1;have lg:=hs.2.1;have hmf:∀ i,i<s.fs.length→(s.fs.map a1B.D)[i]? = some (.agg [str (sb (s.fs.getD i default).name),str (sb (s.fs.getD i default).tol),str (sb (s.fs.getD i default).kind),str (sb (s.fs.getD i default).step)]):=fun i hi=>b7D hi
 have hcf:∀ i,i<s.fs.length→a0b C0 75 [.agg [str (sb (s.fs.getD i default).name),str (sb (s.fs.getD i default).tol),str (sb (s.fs.getD i default).kind),str (sb (s.fs.getD i default).step)]] (i64 (a0W (s.fs.getD i default))):=fun i hi=>c5p _ (hs.2.2.1 _ (List.mem_of_getElem? (a8p hi)))
 have hfs:∀ k,k<s.fs.length→s.fs[k]? = some (s.fs.getD k default):=fun k hk=>a8p hk
 obtain ⟨v,hv⟩:∃ v,a0n s=v:=⟨_,rfl⟩
 rw [hv] at hsc ⊢;unfold a1u.D at hpg ⊢;obtain ⟨fsD,hfsD⟩:∃ x,s.fs.map a1B.D=x:=⟨_,rfl⟩
 obtain ⟨gsD,hgsD⟩:∃ x,s.gs.map a1b.D=x:=⟨_,rfl⟩
 have pf:IsPure (.sl false 4 fsD):=by rw [← hfsD];exact inferInstance
 have pg:IsPure (.sl false 3 gsD):=by rw [← hgsD];exact inferInstance
 rw [hfsD] at fl hmf hpg ⊢;rw [hgsD] at gl hpg ⊢;have lf2:fsD.length=s.fs.length:=by omega
 obtain ⟨n,hn⟩:∃ n,s.fs.length=n:=⟨_,rfl⟩
 obtain ⟨m,hm⟩:∃ m,s.gs.length=m:=⟨_,rfl⟩
 rw [hn] at hsc hpg fl ls hmf hcf hfs;rw [hm] at hsc hpg gl lg;refine sR 0 ?_;refine OkS.seq ?_
 by_cases n0:n=0
 ·have e1:((n:Int)==0)=true:=by rw [n0];rfl
  have hv2:v=2:=by rw [hsc,n0];rfl
  rw [hv2];refine sZ 100 ?_;refine nwI (ff2 fl e1) ?_;refine ifI ?_;refine sR 200 ?_;refine rtI ?_;exact a0a rfl IsPure.out
 have e1:((n:Int)==0)=false:=beq_eq_false_iff_ne.2 (by omega);refine sZ 100 ?_;refine nwI (ff2 fl e1) ?_;refine ifI ?_;refine skI ?_;refine OkS.seq ?_
 by_cases n8:n>8
 ·have e2:decide ((n:Int)>8)=true:=decide_eq_true (by omega)
  have hv2:v=5:=by rw [hsc];unfold b0N;rw [if_neg n0,if_pos n8];rfl
  rw [hv2];refine sZ 300 ?_;refine nwI (ff2 fl e2) ?_;refine ifI ?_;refine sR 400 ?_;refine rtI ?_;exact a0a rfl IsPure.out
 have e2:decide ((n:Int)>8)=false:=decide_eq_false (by omega);have hc0:b0N n=0:=by unfold b0N;rw [if_neg n0,if_neg n8]
 rw [if_neg (fun h=>h hc0)] at hsc;refine sZ 300 ?_;refine nwI (ff2 fl e2) ?_;refine ifI ?_;refine skI ?_;refine OkS.seq ?_;refine sR 500 ?_;refine OkS.block ?_;refine OkS.loop (α:=Nat × Nat) (fun q=>⟨[(1,.optr 0 0 2 0 0),(3,i64 (q.1:Int))],[⟨0,0,39,2,[.agg [.sl false 4 fsD,.sl false 3 gsD]]⟩],q.2⟩) (fun q=>n - q.1) (fun q=>q.1≤n∧∀ j,j<q.1→a1Q s.fs j=0) (0,_) ⟨Nat.zero_le _,fun j hj=>absurd hj (Nat.not_lt_zero j)⟩ wkI ?_;rintro ⟨i,c⟩ F ⟨hi,ha⟩;dsimp only at hi ha ⊢;refine OkS.seq ?_;refine sZ 600 ?_;refine nwI fl ?_;refine ifI ?_
 (refine brI (fun hlt=>?_) (fun hlt=>?_))<;>(try simp only [Bool.not_eq_true',Bool.not_eq_false'] at hlt)<;>(try simp only [hlt])
 ·have hi2:i<n:=by
   have:=of_decide_eq_true hlt
   omega
  have hmi:=hmf i hi2;have cf:=hcf i hi2;have wi:IntKind.i64.wrap ((i:Int)+1)=((i+1:Nat):Int):=wI (by omega) (by omega);have hfst:a1Q s.fs i≠0→v=a1Q s.fs i:=fun h=>by
   have h2:=a6b (f:=a1Q s.fs) ha hi2 h;rw [hsc,if_pos (by rw [h2];exact h),h2]
  have hnext:a1Q s.fs i=0→∀ x,x<i+1→a1Q s.fs x=0:=fun h x hx=>by
   rcases Nat.lt_or_ge x i with hx2|hx2
   ·exact ha x hx2
   ·have:x=i:=by omega
    rw [this];exact h
  have hfac:a1Q s.fs i=if a0W (s.fs.getD i default)≠0 then a0W (s.fs.getD i default) else if (s.fs.take i).any (fun x=>decide (x.name=(s.fs.getD i default).name)) then 9 else 0:=rfl
  obtain ⟨f,hf⟩:∃ f,s.fs.getD i default=f:=⟨_,rfl⟩
  rw [hf] at hmi cf hfac;obtain ⟨e0,he0⟩:∃ e0,a0W f=e0:=⟨_,rfl⟩
  rw [he0] at cf hfac;obtain ⟨r,hr⟩:∃ r,a1Q s.fs i=r:=⟨_,rfl⟩
  rw [hr] at hfst hnext hfac;refine skI ?_;refine OkS.seq ?_;refine OkS.block ?_;refine sZ 800 ?_;refine gwI kN ?_;refine ixI kT hmi ?_;refine gwI kN ?_;refine a0k.same _ cf inferInstance ?_;refine stI ?_;refine OkS.seqX (α:=Nat) (fun c=>⟨[(1,.optr 0 0 2 0 0),(3,i64 (i:Int)),(4,i64 (r:Int))],[⟨0,0,39,2,[.agg [.sl false 4 fsD,.sl false 3 gsD]]⟩],c⟩) (fun _=>True) ?_ ?_
  ·refine sR 900 ?_
   refine OkS.block ?_;refine OkS.loopF (α:=Nat × Nat × Nat) (fun q=>⟨[(1,.optr 0 0 2 0 0),(3,i64 (i:Int)),(4,i64 (q.2.1:Int)),(5,i64 (q.1:Int))],[⟨0,0,39,2,[.agg [.sl false 4 fsD,.sl false 3 gsD]]⟩],q.2.2⟩) (fun q=>i - q.1)
    (fun q F'=>F'=F∧q.1≤i∧((q.2.1=e0∧(s.fs.take q.1).any (fun x=>decide (x.name=f.name))=false)∨(e0=0∧q.2.1=9∧(s.fs.take i).any (fun x=>decide (x.name=f.name))=true))) (0,e0,_) ⟨rfl,Nat.zero_le _,.inl ⟨rfl,rfl⟩⟩ wkI ?_
   rintro ⟨k,e,c⟩ F' ⟨rfl,hk,hJ⟩;dsimp only at hk hJ ⊢;refine OkS.seq ?_
   by_cases hki:k<i
   rotate_left
   ·have h1:decide ((k:Int)<(i:Int))=false:=decide_eq_false (by omega)
    have hk3:k=i:=by omega
    have hre:r=e:=by
     rcases hJ with ⟨h2,h3⟩|⟨h2,h3,h4⟩
     ·rw [hfac,← hk3,h3,h2]
      by_cases h5:e0=0
      ·rw [if_neg (fun h=>h h5),h5];rfl
      ·rw [if_pos h5]
     ·rw [hfac,if_neg (fun h=>h h2),h4,h3];rfl
    rw [hre];refine sZ 1000 ?_;refine nwI (ff3 h1 kT kF) ?_
    try simp only [implies_true]
    refine gwI kB ?_;refine ifI ?_;refine exI ?_;exact ⟨rfl,_,trivial,wkI⟩
   have h1:decide ((k:Int)<(i:Int))=true:=decide_eq_true (by omega)
   by_cases hez:e=0
   rotate_left
   ·have h2:((e:Int)==0)=false:=beq_eq_false_iff_ne.2 (by omega)
    have hre:r=e:=by
     rcases hJ with ⟨h2,h3⟩|⟨h2,h3,h4⟩
     ·rw [hfac,if_pos (by omega),h2]
     ·rw [hfac,if_neg (fun h=>h h2),h4,h3];rfl
    rw [hre];refine sZ 1000 ?_;refine nwI (ff3 h1 kT kF) ?_
    try simp only [implies_true]
    refine gwI kB ?_
    try simp only [h2]
    refine ifI ?_;refine exI ?_;exact ⟨rfl,_,trivial,wkI⟩
   have h2:((e:Int)==0)=true:=by rw [hez];rfl
   obtain ⟨h3,h4⟩:e=e0∧(s.fs.take k).any (fun x=>decide (x.name=f.name))=false:=by
    rcases hJ with h|⟨_,h,_⟩
    ·exact h
    ·omega
   have hmk:=hmf k (by omega);have hsk:=hfs k (by omega);have wk:IntKind.i64.wrap ((k:Int)+1)=((k+1:Nat):Int):=wI (by omega) (by omega);obtain ⟨y,hy⟩:∃ y,s.fs.getD k default=y:=⟨_,rfl⟩
   rw [hy] at hmk hsk;have es:=a5Q y.name f.name;refine sZ 1000 ?_;refine nwI (ff3 h1 kT kF) ?_
   try simp only [implies_true]
   refine gwI kB ?_
   try simp only [h2]
   refine ifI ?_;refine skI ?_;refine OkS.seq ?_;refine OkS.block ?_;refine OkS.seq ?_;refine OkS.regD w1 1200 [0,1,2,3,4,5,6,7,8,9,10,11] [12] (by kernel_rfl) ?_;refine gwI kN ?_;refine ixI kT hmk ?_;refine gwI kN ?_;refine ixI kT hmi ?_;refine gwI kN ?_
   by_cases hn2:y.name=f.name
   ·rw [decide_eq_true hn2] at es
    try simp only [es]
    refine ifI ?_;refine rI 1300 ?_;refine OkS.reg w1 1100 (by kernel_rfl) ?_;refine nwI wk ?_;exact ⟨(k+1,9,_),⟨by trivial,hki,.inr ⟨by omega,rfl,c6F hsk hki (decide_eq_true hn2)⟩⟩,by dsimp only;omega,wkI⟩
   ·rw [decide_eq_false hn2] at es
    try simp only [es]
    refine ifI ?_;refine skI ?_;refine OkS.reg w1 1100 (by kernel_rfl) ?_;refine nwI wk ?_;exact ⟨(k+1,e,_),⟨by trivial,hki,.inl ⟨h3,b4C hsk h4 (decide_eq_false hn2)⟩⟩,by dsimp only;omega,wkI⟩
  rintro c2 -
  by_cases g1:r=0
  ·have e5:((r:Int) != 0)=false:=by rw [g1];rfl
   refine sZ 1400 ?_;refine nwI e5 ?_;refine ifI ?_;refine skI ?_;refine OkS.reg w1 700 (by kernel_rfl) ?_;refine nwI wi ?_;exact ⟨(i+1,_),⟨hi2,hnext g1⟩,by dsimp only;omega,wkI⟩
  ·have e5:((r:Int) != 0)=true:=a3y (by omega)
   refine sZ 1400 ?_;refine nwI e5 ?_;refine ifI ?_;refine sR 1500 ?_;refine rtI ?_;exact a0a (by rw [hfst g1]) IsPure.out
 have hi2:i=n:=by
  have:=of_decide_eq_false hlt
  omega
 subst hi2;rw [if_neg (fun h=>h (a2W ha))] at hsc;clear ha;refine exI ?_;refine OkS.seq ?_
 by_cases m0:m=0
 ·have e3:((m:Int)==0)=true:=by rw [m0];rfl
  have hv2:v=2:=by rw [hsc,m0];rfl
  rw [hv2];refine sZ 1600 ?_;refine nwI (ff2 gl e3) ?_;refine ifI ?_;refine sR 1700 ?_;refine rtI ?_;exact a0a rfl IsPure.out
 have e3:((m:Int)==0)=false:=beq_eq_false_iff_ne.2 (by omega);refine sZ 1600 ?_;refine nwI (ff2 gl e3) ?_;refine ifI ?_;refine skI ?_;refine OkS.seq ?_
 by_cases m16:m>16
 ·have e4:decide ((m:Int)>16)=true:=decide_eq_true (by omega)
  have hv2:v=5:=by rw [hsc];unfold b2g;rw [if_neg m0,if_pos m16];rfl
  rw [hv2];refine sZ 1800 ?_;refine nwI (ff2 gl e4) ?_;refine ifI ?_;refine sR 1900 ?_;refine rtI ?_;exact a0a rfl IsPure.out
 have e4:decide ((m:Int)>16)=false:=decide_eq_false (by omega);have hc1:b2g m=0:=by unfold b2g;rw [if_neg m0,if_neg m16]
 rw [if_neg (fun h=>h hc1)] at hsc;refine sZ 1800 ?_;refine nwI (ff2 gl e4) ?_;refine ifI ?_;refine skI ?_;refine OkS.seq ?_;refine sR 2000 ?_;refine OkS.block ?_;refine OkS.loop (α:=Nat × Nat) (fun q=>⟨[(1,.optr 0 0 2 0 0),(6,i64 (q.1:Int))],[⟨0,0,39,2,[.agg [.sl false 4 fsD,.sl false 3 gsD]]⟩],q.2⟩) (fun q=>m - q.1) (fun q=>q.1≤m∧∀ j,j<q.1→a0A i s.gs j=0) (0,_) ⟨Nat.zero_le _,fun j hj=>absurd hj (Nat.not_lt_zero j)⟩ wkI ?_;rintro ⟨g,c⟩ F ⟨hg,ha⟩;dsimp only at hg ha ⊢;refine OkS.seq ?_;refine sZ 2100 ?_;refine nwI gl ?_;refine ifI ?_
 (refine brI (fun hlt2=>?_) (fun hlt2=>?_))<;>(try simp only [Bool.not_eq_true',Bool.not_eq_false'] at hlt2)<;>(try simp only [hlt2])
 ·have hg2:g<m:=by
   have:=of_decide_eq_true hlt2
   omega
  have cg:=hpg g hg2 ha;have wi:IntKind.i64.wrap ((g:Int)+1)=((g+1:Nat):Int):=wI (by omega) (by omega);have hfst:a0A i s.gs g≠0→v=a0A i s.gs g:=fun h=>by
   rw [hsc];exact a6b (f:=a0A i s.gs) ha hg2 h
  have hnext:a0A i s.gs g=0→∀ x,x<g+1→a0A i s.gs x=0:=fun h x hx=>by
   rcases Nat.lt_or_ge x g with hx2|hx2
   ·exact ha x hx2
   ·have:x=g:=by omega
    rw [this];exact h
  obtain ⟨r,hr⟩:∃ r,a0A i s.gs g=r:=⟨_,rfl⟩
  rw [hr] at cg hfst hnext;refine skI ?_;refine OkS.seq ?_;refine OkS.block ?_;refine sR 2300 ?_;refine a0k.same _ cg inferInstance ?_;refine stI ?_
  by_cases g1:r=0
  ·have e5:((r:Int) != 0)=false:=by rw [g1];rfl
   refine sZ 2400 ?_;refine nwI e5 ?_;refine ifI ?_;refine skI ?_;refine OkS.reg w1 2200 (by kernel_rfl) ?_;refine nwI wi ?_;exact ⟨(g+1,_),⟨hg2,hnext g1⟩,by dsimp only;omega,wkI⟩
  ·have e5:((r:Int) != 0)=true:=a3y (by omega)
   refine sZ 2400 ?_;refine nwI e5 ?_;refine ifI ?_;refine sR 2500 ?_;refine rtI ?_;exact a0a (by rw [hfst g1]) IsPure.out
 have hg2:g=m:=by
  have:=of_decide_eq_false hlt2
  omega
 subst hg2;refine exI ?_;refine sR 2600 ?_;refine rtI ?_;exact a0a (by rw [hsc,a2W ha];rfl) IsPure.out
def b3s (v:List (List UInt8)):Bool:=v.all fun l=>decide (l.length≤40)
def a5R (f:a1B):Bool:=decide (f.name.length≤100)&&decide (f.kind.length≤100)&&decide (f.tol.length≤40)&&decide (f.step.length≤40)
def a6C (g:a1b):Bool:=decide (g.name.length≤100)&&decide (g.least.length≤20)&&decide (g.most.length≤20)&&b3s g.least&&b3s g.most
def a6H (s:a1u):Bool:=decide (s.fs.length≤12)&&decide (s.gs.length≤20)&&s.fs.all a5R&&s.gs.all a6C
theorem a4o {v:List (List UInt8)}(h:b3s v=true):∀ l∈v,l.length≤40:=fun l hl=>of_decide_eq_true (List.all_eq_true.1 h l hl)
theorem b8c {s:a1u}(h:a6H s=true):s.few:=by
 simp only [a6H,Bool.and_eq_true,decide_eq_true_eq,List.all_eq_true] at h;obtain ⟨⟨⟨h1,h2⟩,h3⟩,h4⟩:=h;refine ⟨by omega,by omega,fun f hf=>?_,fun g hg=>?_⟩
 ·have:=h3 f hf
  simp only [a5R,Bool.and_eq_true,decide_eq_true_eq] at this;obtain ⟨⟨⟨q1,q2⟩,q3⟩,q4⟩:=this;exact ⟨by omega,by omega,by omega,by omega⟩
 ·have:=h4 g hg
  simp only [a6C,Bool.and_eq_true,decide_eq_true_eq] at this;obtain ⟨⟨⟨⟨q1,q2⟩,q3⟩,q4⟩,q5⟩:=this;exact ⟨by omega,by omega,by omega,fun l hl=>by have:=a4o q4 l hl;omega,fun l hl=>by have:=a4o q5 l hl;omega⟩
theorem a4c {α:Type}{l:List α}{p:α→Bool}{k:Nat}{x:α}(hx:l[k]? = some x)(h:(l.take k).all p=true)(hp:p x=true):(l.take (k+1)).all p=true:=by
 rw [List.take_add_one,hx,List.all_append,h];simp [hp]
theorem a2u {α:Type}{l:List α}{p:α→Bool}{k:Nat}{x:α}(hx:l[k]? = some x)(hp:p x=false):l.all p=false:=by
 cases h:l.all p
 ·rfl
 ·rw [List.all_eq_true.1 h x (List.mem_of_getElem? hx)] at hp;exact hp
theorem a6J {a b:Nat}:decide ((a:Int)>(b:Int)) = !decide (a≤b):=by
 by_cases h:a≤b
 ·rw [decide_eq_false (by omega),decide_eq_true h];rfl
 ·rw [decide_eq_true (by omega),decide_eq_false h];rfl
theorem b7s (b:Bool)(v:List (List UInt8))(hl:v.length≤9223372036854775807):a0b C0 9 [.sl b 1 (v.map fun l=>str (sb l))] (boo (b3s v)):=by
 refine a0c.walk w1 d4T rfl fun F=>?_
 have el:(((v.map fun l=>str (sb l)).length:Nat):Int)=(v.length:Int):=by rw [List.length_map]
 refine sR 0 ?_;refine OkS.seq ?_;refine sZ 100 ?_;refine nwI el ?_;refine OkS.block ?_;refine OkS.loop (α:=Nat × Nat) (fun p=>⟨[(5,.sl b 1 (v.map fun l=>str (sb l))),(6,i64 v.length),(7,i64 (p.1:Int))],[],p.2⟩) (fun p=>v.length - p.1) (fun p=>p.1≤v.length∧(v.take p.1).all (fun l=>decide (l.length≤40))=true) (0,_) ⟨Nat.zero_le _,rfl⟩ wkI ?_;rintro ⟨i,n⟩ F ⟨hi,ha⟩;dsimp only at hi ha ⊢;refine sR 200 ?_;refine OkS.seq ?_;refine ifI ?_
 (refine brI (fun hlt=>?_) (fun hlt=>?_))<;>(try simp only [Bool.not_eq_true',Bool.not_eq_false'] at hlt)<;>(try simp only [hlt])
 ·have hi2:i<v.length:=by
   have:=of_decide_eq_true hlt
   omega
  have hm:=a2J hi2;have hx:=a3r hi2;have wi:IntKind.i64.wrap ((i:Int)+1)=((i+1:Nat):Int):=wI (by omega) (by omega);obtain ⟨l,hl'⟩:∃ l,lv v i=l:=⟨_,rfl⟩
  rw [hl'] at hm hx;have hsz:=a0t l;refine skI ?_;refine OkS.seq ?_;refine OkS.block ?_;refine sZ 300 ?_;refine gwI kN ?_;refine ixI kT hm ?_;refine gwI kN ?_
  by_cases g:l.length≤40
  ·have e5:decide ((l.length:Int)>40)=false:=decide_eq_false (by omega)
   refine sZ 400 ?_;refine nwI (ff2 hsz e5) ?_;refine ifI ?_;refine skI ?_;refine OkS.reg w1 600 (by kernel_rfl) ?_;refine nwI wi ?_;exact ⟨(i+1,_),⟨hi2,a4c hx ha (decide_eq_true g)⟩,by dsimp only;omega,wkI⟩
  ·have e5:decide ((l.length:Int)>40)=true:=decide_eq_true (by omega)
   refine sZ 400 ?_;refine nwI (ff2 hsz e5) ?_;refine ifI ?_;refine sR 500 ?_;refine rtI ?_;exact a0a (by unfold b3s;rw [a2u hx (decide_eq_false g)]) IsPure.out
 have hi2:i=v.length:=by
  have:=of_decide_eq_false hlt
  omega
 subst hi2;refine exI ?_;refine sR 700 ?_;refine rtI ?_;exact a0a (by unfold b3s;rw [List.take_length] at ha;rw [ha]) IsPure.out
theorem c5X (f:a1B):a0b C0 65 [f.D] (boo (a5R f)):=by
 refine a0c.walk w1 d2D rfl fun F=>?_
 have cf:=b7s true [f.tol,f.step] (by simp);have hr:a5R f=(decide (f.name.length≤100)&&(decide (f.kind.length≤100)&&b3s [f.tol,f.step])):=by
  unfold a5R b3s;simp only [List.all_cons,List.all_nil,Bool.and_true,Bool.and_assoc]
 rw [hr];have z1:=a0t f.name;have z2:=a0t f.kind;dsimp only [List.map] at cf;unfold a1B.D;obtain ⟨q,hq⟩:∃ q,b3s [f.tol,f.step]=q:=⟨_,rfl⟩
 rw [hq] at cf ⊢;have d1:decide ((f.name.length:Int)≤100)=decide (f.name.length≤100):=decide_eq_decide.2 (by omega);have d2:decide ((f.kind.length:Int)≤100)=decide (f.kind.length≤100):=decide_eq_decide.2 (by omega);refine sR 0 ?_
 by_cases g1:f.name.length≤100
 rotate_left
 ·rw [decide_eq_false g1] at d1 ⊢
  refine sZ 100 ?_;refine nwI (ff2 z1 d1) ?_;refine gwI kB ?_
  try simp only [implies_true]
  refine gwI kB ?_
  try simp only [implies_true]
  refine gwI kB ?_;refine rtI ?_;exact a0a rfl IsPure.out
 rw [decide_eq_true g1] at d1 ⊢
 by_cases g2:f.kind.length≤100
 rotate_left
 ·rw [decide_eq_false g2] at d2 ⊢
  refine sZ 100 ?_;refine nwI (ff2 z1 d1) ?_;refine gwI kB ?_
  try simp only [z2,d2,implies_true]
  refine gwI kB ?_
  try simp only [implies_true]
  refine gwI kB ?_;refine rtI ?_;exact a0a rfl IsPure.out
 rw [decide_eq_true g2] at d2 ⊢;refine sZ 100 ?_;refine nwI (ff2 z1 d1) ?_;refine gwI kB ?_
 try simp only [z2,d2,implies_true]
 refine gwI kB ?_
 try simp only [implies_true]
 refine gcI kB ?_;refine a0k.same _ cf inferInstance ?_;refine gwI kB ?_
 try simp only [implies_true]
 refine rtI ?_;exact a0a rfl IsPure.out
def a1u.fit (s:a1u):Prop:=s.fs.length≤9223372036854775807∧s.gs.length≤9223372036854775807∧∀ g∈s.gs,g.least.length≤9223372036854775807∧g.most.length≤9223372036854775807
theorem c4z (s:a1u)(hs:s.fit):a0b C0 15 [s.D] (boo (a6H s)):=by
 refine a0c.walk w1 d2s rfl fun F=>?_
 have fl:(((s.fs.map a1B.D).length:Nat):Int)=(s.fs.length:Int):=by rw [List.length_map]
 have gl:(((s.gs.map a1b.D).length:Nat):Int)=(s.gs.length:Int):=by rw [List.length_map]
 obtain ⟨ls,lg,lx⟩:=hs;have hmf:∀ i,i<s.fs.length→(s.fs.map a1B.D)[i]? = some (.agg [str (sb (s.fs.getD i default).name),str (sb (s.fs.getD i default).tol),str (sb (s.fs.getD i default).kind),str (sb (s.fs.getD i default).step)]):=fun i hi=>b7D hi
 have hfs:∀ k,k<s.fs.length→s.fs[k]? = some (s.fs.getD k default):=fun k hk=>a8p hk
 have hmg:∀ k,k<s.gs.length→(s.gs.map a1b.D)[k]? = some (.agg [str (sb (s.gs.getD k default).name),.sl false 1 ((s.gs.getD k default).least.map fun l=>str (sb l)),.sl false 1 ((s.gs.getD k default).most.map fun l=>str (sb l))]):=fun k hk=>b1R hk
 have hgs:∀ k,k<s.gs.length→s.gs[k]? = some (s.gs.getD k default):=fun k hk=>a2G hk
 have hL:a6H s=(decide (s.fs.length≤12)&&(decide (s.gs.length≤20)&&(s.fs.all a5R&&s.gs.all a6C))):=by
  unfold a6H;simp only [Bool.and_assoc]
 rw [hL];unfold a1u.D;obtain ⟨fsD,hfsD⟩:∃ x,s.fs.map a1B.D=x:=⟨_,rfl⟩
 obtain ⟨gsD,hgsD⟩:∃ x,s.gs.map a1b.D=x:=⟨_,rfl⟩
 have pf:IsPure (.sl false 4 fsD):=by rw [← hfsD];exact inferInstance
 have pg:IsPure (.sl false 3 gsD):=by rw [← hgsD];exact inferInstance
 rw [hfsD] at fl hmf ⊢;rw [hgsD] at gl hmg ⊢;obtain ⟨n,hn⟩:∃ n,s.fs.length=n:=⟨_,rfl⟩
 obtain ⟨m,hm⟩:∃ m,s.gs.length=m:=⟨_,rfl⟩
 have hnl:=hn;have hml:=hm;rw [hn] at fl ls hmf hfs ⊢;rw [hm] at gl lg hmg hgs ⊢;have d1:decide ((n:Int)>12) = !decide (n≤12):=a6J (b:=12);have d2:decide ((m:Int)>20) = !decide (m≤20):=a6J (b:=20);refine sR 0 ?_;refine OkS.seq ?_
 by_cases g1:n≤12
 rotate_left
 ·rw [decide_eq_false g1] at d1 ⊢
  refine sZ 100 ?_;refine nwI (ff3 fl d1 kF) ?_;refine gwI kB ?_
  try simp only [implies_true]
  refine gwI kB ?_;refine ifI ?_;refine sR 200 ?_;refine rtI ?_;exact a0a rfl IsPure.out
 rw [decide_eq_true g1] at d1 ⊢
 by_cases g2:m≤20
 rotate_left
 ·rw [decide_eq_false g2] at d2 ⊢
  refine sZ 100 ?_;refine nwI (ff3 fl d1 kT) ?_;refine gwI kB ?_
  try simp only [gl,d2,Bool.not_false,implies_true]
  refine ifI ?_;refine sR 200 ?_;refine rtI ?_;exact a0a rfl IsPure.out
 rw [decide_eq_true g2] at d2 ⊢;refine sZ 100 ?_;refine nwI (ff3 fl d1 kT) ?_;refine gwI kB ?_
 try simp only [gl,d2,Bool.not_true,implies_true]
 refine ifI ?_;refine skI ?_;rw [Bool.true_and,Bool.true_and];refine OkS.seq ?_;refine sZ 300 ?_;refine nwI fl ?_;refine OkS.block ?_;refine OkS.loop (α:=Nat × Nat) (fun q=>⟨[(1,.optr 0 0 2 0 0),(18,.sl false 4 fsD),(19,i64 (n:Int)),(20,i64 (q.1:Int))],[⟨0,0,39,2,[.agg [.sl false 4 fsD,.sl false 3 gsD]]⟩],q.2⟩) (fun q=>n - q.1) (fun q=>q.1≤n∧(s.fs.take q.1).all a5R=true) (0,_) ⟨Nat.zero_le _,rfl⟩ wkI ?_;rintro ⟨i,c⟩ F ⟨hi,ha⟩;dsimp only at hi ha ⊢;refine sR 400 ?_;refine OkS.seq ?_;refine ifI ?_
 (refine brI (fun hlt=>?_) (fun hlt=>?_))<;>(try simp only [Bool.not_eq_true',Bool.not_eq_false'] at hlt)<;>(try simp only [hlt])
 ·have hi2:i<n:=by
   have:=of_decide_eq_true hlt
   omega
  have hmi:=hmf i hi2;have hsi:=hfs i hi2;have wi:IntKind.i64.wrap ((i:Int)+1)=((i+1:Nat):Int):=wI (by omega) (by omega);obtain ⟨f,hf⟩:∃ f,s.fs.getD i default=f:=⟨_,rfl⟩
  rw [hf] at hmi hsi;have cp:=c5X f;unfold a1B.D at cp;refine skI ?_;refine OkS.seq ?_;refine OkS.block ?_;refine sZ 500 ?_;refine gwI kN ?_;refine ixI kT hmi ?_;refine gwI kN ?_;cases hp:a5R f
  ·rw [hp] at cp
   refine sR 600 ?_;refine cI cp ?_;refine ifI ?_;refine sR 700 ?_;refine rtI ?_;exact a0a (by rw [a2u hsi hp];rfl) IsPure.out
  ·rw [hp] at cp
   refine sR 600 ?_;refine cI cp ?_;refine ifI ?_;refine skI ?_;refine OkS.reg w1 800 (by kernel_rfl) ?_;refine nwI wi ?_;exact ⟨(i+1,_),⟨hi2,a4c hsi ha hp⟩,by dsimp only;omega,wkI⟩
 have hi2:i=n:=by
  have:=of_decide_eq_false hlt
  omega
 subst hi2;rw [show s.fs.all a5R=true by rw [← ha,← hnl,List.take_length],Bool.true_and];clear ha;refine exI ?_;refine OkS.seq ?_;refine sZ 900 ?_;refine nwI gl ?_;refine OkS.block ?_;refine OkS.loop (α:=Nat × Nat) (fun q=>⟨[(29,.sl false 3 gsD),(30,i64 (m:Int)),(31,i64 (q.1:Int))],[],q.2⟩) (fun q=>m - q.1) (fun q=>q.1≤m∧(s.gs.take q.1).all a6C=true) (0,_) ⟨Nat.zero_le _,rfl⟩ wkI ?_;rintro ⟨k,c⟩ F ⟨hk,ha⟩;dsimp only at hk ha ⊢;refine sR 1000 ?_;refine OkS.seq ?_;refine ifI ?_
 (refine brI (fun hlt2=>?_) (fun hlt2=>?_))<;>(try simp only [Bool.not_eq_true',Bool.not_eq_false'] at hlt2)<;>(try simp only [hlt2])
 ·have hk2:k<m:=by
   have:=of_decide_eq_true hlt2
   omega
  have hmk:=hmg k hk2;have hsk:=hgs k hk2;have lk:=lx _ (List.mem_of_getElem? hsk);have wi:IntKind.i64.wrap ((k:Int)+1)=((k+1:Nat):Int):=wI (by omega) (by omega);obtain ⟨g,hg⟩:∃ g,s.gs.getD k default=g:=⟨_,rfl⟩
  rw [hg] at hmk hsk lk;have c1:=b7s false g.least lk.1;have c2:=b7s false g.most lk.2;have hG:a6C g=(decide (g.name.length≤100)&&(decide (g.least.length≤20)&&(decide (g.most.length≤20)&&(b3s g.least&&b3s g.most)))):=by
   unfold a6C;simp only [Bool.and_assoc]
  have z1:=a0t g.name;have z2:(((g.least.map fun l=>str (sb l)).length:Nat):Int)=(g.least.length:Int):=by rw [List.length_map]
  have z3:(((g.most.map fun l=>str (sb l)).length:Nat):Int)=(g.most.length:Int):=by rw [List.length_map]
  have y1:decide ((g.name.length:Int)>100) = !decide (g.name.length≤100):=a6J (b:=100);have y2:decide ((g.least.length:Int)>20) = !decide (g.least.length≤20):=a6J (b:=20);have y3:decide ((g.most.length:Int)>20) = !decide (g.most.length≤20):=a6J (b:=20);obtain ⟨b1,hb1⟩:∃ b,decide (g.name.length≤100)=b:=⟨_,rfl⟩
  obtain ⟨b2,hb2⟩:∃ b,decide (g.least.length≤20)=b:=⟨_,rfl⟩
  obtain ⟨b3,hb3⟩:∃ b,decide (g.most.length≤20)=b:=⟨_,rfl⟩
  obtain ⟨b4,hb4⟩:∃ b,b3s g.least=b:=⟨_,rfl⟩
  obtain ⟨b5,hb5⟩:∃ b,b3s g.most=b:=⟨_,rfl⟩
  rw [hb1] at y1 hG;rw [hb2] at y2 hG;rw [hb3] at y3 hG;rw [hb4] at c1 hG;rw [hb5] at c2 hG;refine skI ?_;refine OkS.seq ?_;refine OkS.block ?_;refine sZ 1100 ?_;refine gwI kN ?_;refine ixI kT hmk ?_;refine gwI kN ?_;cases b1
  ·refine sZ 1200 ?_
   refine nwI (ff4 z1 y1 kT kF) ?_;refine gwI kB ?_
   try simp only [implies_true]
   refine gwI kB ?_
   try simp only [implies_true]
   refine gwI kB ?_
   try simp only [implies_true]
   refine gwI kB ?_;refine ifI ?_;refine sR 1300 ?_;refine rtI ?_;exact a0a (by rw [a2u hsk hG]) IsPure.out
  cases b2
  ·refine sZ 1200 ?_
   refine nwI (ff4 z1 y1 kT kF) ?_;refine gwI kB ?_
   try simp only [z2,y2,Bool.not_true,Bool.not_false,implies_true]
   refine gwI kB ?_
   try simp only [implies_true]
   refine gwI kB ?_
   try simp only [implies_true]
   refine gwI kB ?_;refine ifI ?_;refine sR 1300 ?_;refine rtI ?_;exact a0a (by rw [a2u hsk hG]) IsPure.out
  cases b3
  ·refine sZ 1200 ?_
   refine nwI (ff4 z1 y1 kT kF) ?_;refine gwI kB ?_
   try simp only [z2,y2,Bool.not_true,Bool.not_false,implies_true]
   refine gwI kB ?_
   try simp only [z3,y3,Bool.not_true,Bool.not_false,implies_true]
   refine gwI kB ?_
   try simp only [implies_true]
   refine gwI kB ?_;refine ifI ?_;refine sR 1300 ?_;refine rtI ?_;exact a0a (by rw [a2u hsk hG]) IsPure.out
  cases b4
  ·refine sZ 1200 ?_
   refine nwI (ff4 z1 y1 kT kF) ?_;refine gwI kB ?_
   try simp only [z2,y2,Bool.not_true,Bool.not_false,implies_true]
   refine gwI kB ?_
   try simp only [z3,y3,Bool.not_true,Bool.not_false,implies_true]
   refine gwI kB ?_;refine gcI kB ?_;refine a0k.same _ c1 inferInstance ?_;refine gwI kB ?_
   try simp only [implies_true]
   refine gwI kB ?_;refine ifI ?_;refine sR 1300 ?_;refine rtI ?_;exact a0a (by rw [a2u hsk hG]) IsPure.out
  cases b5
  ·refine sZ 1200 ?_
   refine nwI (ff4 z1 y1 kT kF) ?_;refine gwI kB ?_
   try simp only [z2,y2,Bool.not_true,Bool.not_false,implies_true]
   refine gwI kB ?_
   try simp only [z3,y3,Bool.not_true,Bool.not_false,implies_true]
   refine gwI kB ?_;refine gcI kB ?_;refine a0k.same _ c1 inferInstance ?_;refine gwI kB ?_
   try simp only [implies_true]
   refine gwI kB ?_;refine gcI kB ?_;refine a0k.same _ c2 inferInstance ?_;refine gwI kB ?_
   try simp only [implies_true]
   refine ifI ?_;refine sR 1300 ?_;refine rtI ?_;exact a0a (by rw [a2u hsk hG]) IsPure.out
  refine sZ 1200 ?_;refine nwI (ff4 z1 y1 kT kF) ?_;refine gwI kB ?_
  try simp only [z2,y2,Bool.not_true,Bool.not_false,implies_true]
  refine gwI kB ?_
  try simp only [z3,y3,Bool.not_true,Bool.not_false,implies_true]
  refine gwI kB ?_;refine gcI kB ?_;refine a0k.same _ c1 inferInstance ?_;refine gwI kB ?_
  try simp only [implies_true]
  refine gwI kB ?_;refine gcI kB ?_;refine a0k.same _ c2 inferInstance ?_;refine gwI kB ?_
  try simp only [implies_true]
  refine ifI ?_;refine skI ?_;refine OkS.reg w1 1400 (by kernel_rfl) ?_;refine nwI wi ?_;exact ⟨(k+1,_),⟨hk2,a4c hsk ha hG⟩,by dsimp only;omega,wkI⟩
 have hk2:k=m:=by
  have:=of_decide_eq_false hlt2
  omega
 subst hk2;rw [show s.gs.all a6C=true by rw [← ha,← hml,List.take_length]];refine exI ?_;refine sR 1500 ?_;refine rtI ?_;exact a0a rfl IsPure.out
open Go.ChangeShapes Go.WideShapes
def stF (P:Program)(t:Nat):Option (List (Nat × Nat × Nat)):=match P.underlying t with
 | some (.struct fs)=>some (fs.toList.map fun f=>(f.type,f.offset,P.cellsOf f.type))
 | _=>none
section
variable {H:Type} {enc:TypeId × Value→H} {W:World} {fuel:Nat} {cs:List Value} {x:DataW H × List MemPlace} {t:TypeId}
theorem c0k {l:List (Nat × Nat × Nat)}{m:Nat}(hs:stF Tryz.prog t=some l)(hm:Tryz.prog.cellsOf t=m)(h:DataW.trod enc Tryz.prog W 0 (fun _=>true) true fuel t cs=some x) :
  cs.length=m∧∃ n,∀ (i u off k:Nat),l[i]? = some (u,off,k)→∃ y,DataW.trod enc Tryz.prog W 0 (fun _=>true) true n u ((cs.drop off).take k)=some y:=by
 unfold stF at hs;split at hs
 ·rename_i fs hu
  obtain ⟨h1,n,h2⟩:=b6H hu h;refine ⟨h1.trans hm,n,fun i u off k hl=>?_⟩;obtain rfl:=Option.some.inj hs;rw [List.getElem?_map] at hl;obtain ⟨f,hf,he⟩:=Option.map_eq_some_iff.1 hl;cases he;exact h2 i f (by rw [← Array.getElem?_toList];exact hf)
 ·cases hs
theorem a9j {a b c:Nat}{p q:List D}(h:a6N W ((cs.drop a).take b) p)(k:a6N W ((cs.drop (a+b)).take c) q):a6N W ((cs.drop a).take (b+c)) (p++q):=by
 rw [List.take_add,List.drop_drop];exact h.append k
theorem b4E {n:Nat}{p:List D}(hn:cs.length=n)(h:a6N W ((cs.drop 0).take n) p):a6N W cs p:=by
 rw [List.drop_zero,← hn,List.take_length] at h;exact h
theorem b7G (h:DataW.trod enc Tryz.prog W 0 (fun _=>true) true fuel 24 cs=some x):∃ l:List UInt8,a6N W cs (str (sb l)).cells∧l.length≤maxLen:=c3O (by kernel_rfl) h
theorem a8n (h:DataW.trod enc Tryz.prog W 0 (fun _=>true) true fuel 9 cs=some x):∃ l:List UInt8,a6N W cs [str (sb l)]∧l.length≤maxLen:=c3O (by kernel_rfl) h
theorem a9V (h:DataW.trod enc Tryz.prog W 0 (fun _=>true) true fuel 40 cs=some x):∃ l:List (List UInt8),a6N W cs [.sl false 1 (l.map fun l=>str (sb l))]∧(∀ a∈l,a.length≤maxLen)∧l.length≤maxLen :=
 c5W (g:=fun l:List UInt8=>str (sb l)) (ok:=fun l=>l.length≤maxLen) (e:=24) (by kernel_rfl) (by kernel_rfl) (by decide) (fun _ _ _ h=>b7G h) h
theorem b9t (h:DataW.trod enc Tryz.prog W 0 (fun _=>true) true fuel 96 cs=some x):∃ f:a1B,a6N W cs f.D.cells∧True:=by
 obtain ⟨h1,n,h2⟩:=c0k (l:=[(9,0,1),(24,1,1),(94,2,2)]) (m:=4) (by kernel_rfl) (by kernel_rfl) h;obtain ⟨y0,k0⟩:=h2 0 _ _ _ rfl;obtain ⟨y1,k1⟩:=h2 1 _ _ _ rfl;obtain ⟨y2,k2⟩:=h2 2 _ _ _ rfl;obtain ⟨a0,r0,_⟩:=a8n k0;obtain ⟨a1,r1,_⟩:=b7G k1;obtain ⟨h3,n',h4⟩:=c0k (l:=[(9,0,1),(24,1,1)]) (m:=2) (by kernel_rfl) (by kernel_rfl) k2;obtain ⟨z0,j0⟩:=h4 0 _ _ _ rfl;obtain ⟨z1,j1⟩:=h4 1 _ _ _ rfl;obtain ⟨b0,s0,_⟩:=a8n j0;obtain ⟨b1,s1,_⟩:=b7G j1;exact ⟨⟨a0,a1,b0,b1⟩,b4E h1 (a9j (b:=1) (c:=3) r0 (a9j (b:=1) (c:=2) r1 (b4E h3 (a9j (b:=1) (c:=1) s0 s1)))),trivial⟩
def d3D (g:a1b):Prop:=g.least.length≤maxLen∧g.most.length≤maxLen
theorem c0g (h:DataW.trod enc Tryz.prog W 0 (fun _=>true) true fuel 56 cs=some x):∃ g:a1b,a6N W cs g.D.cells∧d3D g:=by
 obtain ⟨h1,n,h2⟩:=c0k (l:=[(9,0,1),(40,1,1),(40,2,1)]) (m:=3) (by kernel_rfl) (by kernel_rfl) h;obtain ⟨y0,k0⟩:=h2 0 _ _ _ rfl;obtain ⟨y1,k1⟩:=h2 1 _ _ _ rfl;obtain ⟨y2,k2⟩:=h2 2 _ _ _ rfl;obtain ⟨a0,r0,_⟩:=a8n k0;obtain ⟨a1,r1,_,l1⟩:=a9V k1;obtain ⟨a2,r2,_,l2⟩:=a9V k2;exact ⟨⟨a0,a1,a2⟩,b4E h1 (a9j (b:=1) (c:=2) r0 (a9j (b:=1) (c:=1) r1 r2)),l1,l2⟩
theorem b6x (h:DataW.trod enc Tryz.prog W 0 (fun _=>true) true fuel 39 cs=some x):∃ s:a1u,a6N W cs s.D.cells∧s.fit:=by
 obtain ⟨h1,n,h2⟩:=c0k (l:=[(36,0,1),(37,1,1)]) (m:=2) (by kernel_rfl) (by kernel_rfl) h;obtain ⟨y0,k0⟩:=h2 0 _ _ _ rfl;obtain ⟨y1,k1⟩:=h2 1 _ _ _ rfl;obtain ⟨a0,r0,_,l0⟩:=c5W (g:=a1B.D) (ok:=fun _=>True) (e:=96) (sz:=4) (by kernel_rfl) (by kernel_rfl) (by decide) (fun _ _ _ h=>b9t h) k0;obtain ⟨a1,r1,g1,l1⟩:=c5W (g:=a1b.D) (ok:=d3D) (e:=56) (sz:=3) (by kernel_rfl) (by kernel_rfl) (by decide) (fun _ _ _ h=>c0g h) k1;have hM:maxLen≤9223372036854775807:=by decide
 exact ⟨⟨a0,a1⟩,b4E h1 (a9j (b:=1) (c:=1) r0 r1),by dsimp only;omega,by dsimp only;omega,fun g hg=>⟨Nat.le_trans (g1 g hg).1 hM,Nat.le_trans (g1 g hg).2 hM⟩⟩
end
theorem d0N {P:Program}{W:World}{t e base:Nat}{v:Value}(hu:P.underlying t=some (.slice e))(h:Value.okWide P W .any base t v):∃ a l c,v=.slice a l c:=by
 unfold Value.okWide at h;rw [hu] at h;dsimp only at h;unfold Cell.okWide at h;rw [hu] at h;cases v<;>first|exact ⟨_,_,_,rfl⟩|(dsimp only at h;unfold Cell.ok at h;rw [hu] at h;exact h.elim)
theorem a6N.val1 {W:World}{v:Value}{d:D}(h:a6N W [v] [d]):Rep nol (fun _=>False) W d v:=(h.cell 0 v d rfl rfl).2
def nb (r:Rat)(n d:Nat):Prop:=r.num.natAbs≤n∧r.den≤d
theorem nb.mono {r:Rat}{n d n' d':Nat}(h:nb r n d)(h1:n≤n')(h2:d≤d'):nb r n' d':=⟨Nat.le_trans h.1 h1,Nat.le_trans h.2 h2⟩
theorem c4b {n:Int}{d N D:Nat}(hd:d≠0)(h1:n.natAbs≤N)(h2:d≤D):nb (Rat.normalize n d hd) N D:=by
 rw [Rat.normalize_eq];exact ⟨Nat.le_trans (Int.natAbs_ediv_le_natAbs _ _) h1,Nat.le_trans (Nat.div_le_self _ _) h2⟩
theorem c8h {a b:Rat}{n d m e:Nat}(ha:nb a n d)(hb:nb b m e):nb (a+b) (n*e+m*d) (d*e):=by
 rw [Rat.add_def];refine c4b _ (Nat.le_trans (Int.natAbs_add_le _ _) ?_) (Nat.mul_le_mul ha.2 hb.2);rw [Int.natAbs_mul,Int.natAbs_mul,Int.natAbs_natCast,Int.natAbs_natCast];exact Nat.add_le_add (Nat.mul_le_mul ha.1 hb.2) (Nat.mul_le_mul hb.1 ha.2)
theorem d0s {a:Rat}{n d:Nat}(ha:nb a n d):nb (-a) n d:=by
 unfold nb;rw [Rat.neg_num,Rat.neg_den,Int.natAbs_neg];exact ha
theorem c1T {a b:Rat}{n d m e:Nat}(ha:nb a n d)(hb:nb b m e):nb (a - b) (n*e+m*d) (d*e):=by
 rw [Rat.sub_eq_add_neg];exact c8h ha (d0s hb)
theorem c4P:nb 0 0 1:=⟨by decide,by decide⟩
def d3y:Nat:=(10^100)^6
theorem c9e {r:Rat}{n d:Nat}(h:nb r n d)(h1:n<d3y)(h2:d<d3y):c0e r=false:=by
 unfold c0e;have key:∀ a b k m,a*b=k+1→m<(10^a)^b→(Lib.decDigits m).length≤k+1:=fun a b k m hk h=>a1v k m (by rw [← hk,Nat.pow_mul];exact h)
 have l1:=key 100 6 599 r.num.natAbs rfl (Nat.lt_of_le_of_lt h.1 h1);have l2:=key 100 6 599 r.den rfl (Nat.lt_of_le_of_lt h.2 h2);rw [decide_eq_false (by omega),decide_eq_false (by omega)];rfl
def E40:Nat:=10^40
theorem b2L {l:List UInt8}(h:chk l=0)(hl:l.length≤40):nb (a0g l) E40 E40:=by
 obtain ⟨m1,m2,m3,m4⟩:=a3B h;obtain ⟨p1,p2⟩:=a4a h;have hs1:(a0N l).length≤40:=by
  have:(a0N l).length≤l.length:=by
   unfold a0N;have a1:(a0l (a2k l)).length≤(a2k l).length:=by unfold a0l;split<;>simp
   have a2:(a2k l).length≤l.length:=by unfold a2k;rw [List.length_take];omega
   omega
  omega
 have hb:∀ k,k≤40→(10:Nat)^k≤E40:=fun k hk=>Nat.pow_le_pow_right (by decide) hk
 refine ⟨?_,?_⟩
 ·rw [m1,m4]
  exact Nat.le_trans (Nat.le_of_lt (a5j _ p1)) (hb _ hs1)
 ·rw [m2]
  unfold b5E;cases hs:a4g l
  ·exact (by decide:1≤E40)
  ·have hs2:(a1x l).length≤40:=by
    have:(a1x l).length≤l.length:=by unfold a1x;simp
    omega
   exact Nat.le_trans (Nat.le_of_lt (a5j _ (p2 hs))) (hb _ hs2)
theorem d1E {r:Rat}{n d k:Nat}(h:nb r n d)(h1:n<BB^k)(h2:d<BB^k):rk r k :=
 ⟨a0V (Nat.lt_of_le_of_lt h.1 h1),a0V (Nat.lt_of_le_of_lt h.2 h2)⟩
theorem rk3 {l:List UInt8}(h:chk l=0)(hl:l.length≤40):rk (a0g l) 3:=d1E (b2L h hl) (by decide) (by decide)
def b0w (a b:List UInt8)(x:Rat):Rat:=if (!decide (a=[])&&decide (a2F x (a0g a)<0))=true then a0g a - x else if (!decide (b=[])&&decide (a2F x (a0g b)>0))=true then x - a0g b else 0
def b6r (a b:List UInt8)(x:Rat)(y:GF):GF:=if (!decide (a=[])&&decide (a2F x (a0g a)<0))=true then b9y (a3N a) y else if (!decide (b=[])&&decide (a2F x (a0g b)>0))=true then b9y y (a3N b) else ⟨mkG 0,1⟩
theorem c5A (k:Nat)(hk:1≤k):FR 0 ⟨mkG 0,1⟩ k:=⟨⟨a0Q _,by rw [a3h];rfl,rfl⟩,by
 refine rk.mono (k:=1) ?_ hk;exact ⟨a0V (k:=1) (by decide),a0V (k:=1) (by decide)⟩⟩
theorem c0J {a b:List UInt8}{x:Rat}{y:GF}{k:Nat}(hx:FR x y k)(ha:a≠[]→FR (a0g a) (a3N a) k)(hb:b≠[]→FR (a0g b) (a3N b) k):FR (b0w a b x) (b6r a b x y) (2*k+1):=by
 unfold b0w b6r;split
 ·rename_i h
  rw [Bool.and_eq_true,Bool.not_eq_true',decide_eq_false_iff_not] at h;exact (b7C (ha h.1) hx).mono (by omega)
 ·split
  ·rename_i h
   rw [Bool.and_eq_true,Bool.not_eq_true',decide_eq_false_iff_not] at h;exact (b7C hx (hb h.1)).mono (by omega)
  ·exact c5A _ (by omega)
theorem c4K {a b:List UInt8}{x:Rat}(hx:nb x E40 E40)(ha:a≠[]→nb (a0g a) E40 E40)(hb:b≠[]→nb (a0g b) E40 E40):nb (b0w a b x) (2*(E40*E40)) (E40*E40):=by
 unfold b0w;split
 ·rename_i h
  rw [Bool.and_eq_true,Bool.not_eq_true',decide_eq_false_iff_not] at h;exact (c1T (ha h.1) hx).mono (by omega) (Nat.le_refl _)
 ·split
  ·rename_i h
   rw [Bool.and_eq_true,Bool.not_eq_true',decide_eq_false_iff_not] at h;exact (c1T hx (hb h.1)).mono (by omega) (Nat.le_refl _)
  ·exact c4P.mono (by decide) (by decide)
theorem b2J {L:Rat}(h:nb L (2*(E40*E40)) (E40*E40)):c0e L=false:=c9e h (by decide) (by decide)
end Go.Ide
