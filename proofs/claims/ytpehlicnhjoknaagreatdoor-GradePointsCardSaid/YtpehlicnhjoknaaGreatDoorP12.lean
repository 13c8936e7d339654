/- The layer of own lemmas and contracts, part 12. -/
import Derived.Test.YtpehlicnhjoknaaGreatDoorP11
import Derived.Test.YtpehlicnhjoknaaGreatDoorP6
import Derived.Test.YtpehlicnhjoknaaGreatDoorP10
import Derived.Test.YtpehlicnhjoknaaGreatDoorP3
import Derived.Shelf.RegionOpenPlain
import Derived.Lib.Builder
import Derived.Lib.UnsafeStr
import Derived.Lib.Strings
import Derived.Lib.Slices
import Derived.Lib.Walk
import Derived.Laws.Externs
import Derived.KernelRfl
import Derived.WalkKit
import Derived.Shelf.Strconv.Itoa3
import Derived.Lib.ItoaMem
import Derived.Lib.AppendIntMem
import Derived.BigCall
import Derived.BigGuard
import Derived.OpenShut
set_option linter.unusedVariables false
set_option linter.unusedSimpArgs false
namespace Go.Ide
open Go.Proofs Go.RowKit
set_option maxRecDepth 20000
set_option maxHeartbeats 4000000
def isO (o:Option D):Bool:=match o with
 | some (.agg [.prim (.bool false),.sl false 1 [.prim (.int .i64 1)]])=>true
 | _=>false
theorem c1A {o:Option D}(h:isO o=true):o=some (rZ 1):=by
 have h1:a0o 1=[1]:=a3U (by decide) (by decide);unfold isO at h;split at h
 ·show _=some (D.agg [boo (decide ((1:Int)<0)),rL (a0o 1)])
  rw [h1];rfl
 ·cases h
theorem b6k:isO ((evF X1 1000 60).1 84 [i64 1])=true:=by kernel_rfl
theorem c0m:a0b C0 84 [i64 1] (rZ 1):=a0b.ev a4c 1000 60 (c1A b6k)
def d1x (l:List UInt8):Int:=rv (a2i l)
def c8a (l:List UInt8):Int:=if a4e l then rv (a1v l) else 1
instance  (x y:Int):IsPure (.tup [rZ x,rZ y]):=⟨.tup fun d hd=>by
 simp only [List.mem_cons,List.not_mem_nil,or_false] at hd;rcases hd with rfl|rfl
 ·exact IsPure.out
 ·exact IsPure.out⟩
theorem a8z (l:List UInt8)(hn:(a0j (a2i l)).all a0y=true)(hd:(a0j (a1v l)).all a0y=true)(hl:l.length≤1000000):a0b C0 89 [str (sb l)] (.tup [rZ (d1x l),rZ (c8a l)]):=by
 refine a0c.walk w1 d3N rfl fun F=>?_
 have hsz:=a0u l;have cs:=b3P l (by omega);have hsl:=a2r l;have c1:=b8X (a2i l) hn (by unfold a2i;rw [List.length_take];omega);have c2:=b8X (a1v l) hd (by unfold a1v;rw [List.length_drop];omega);have cw:=c0m;unfold d1x c8a;refine sR 0 ?_;refine sR 100 ?_;refine sR 200 ?_;refine cI cs ?_;cases hh:a4e l
 ·have he:a0d l=l.length:=by
   unfold a4e at hh
   have:=of_decide_eq_false hh
   omega
  have e0:(((a0d l:Nat):Int)==(l.length:Int))=true:=beq_iff_eq.2 (by omega);have en:a2i l=l:=by unfold a2i;rw [he,List.take_of_length_le (Nat.le_refl _)]
  rw [en] at c1 ⊢;refine OkS.seq ?_;refine sZ 300 ?_;refine nwI (ff2 hsz e0) ?_;refine ifI ?_;refine sR 400 ?_;refine cI c1 ?_;refine a0l.same _ cw inferInstance ?_;refine stI ?_;refine rtI ?_;exact a0a rfl IsPure.out
 ·have he:a0d l<l.length:=of_decide_eq_true hh
  have e0:(((a0d l:Nat):Int)==(l.length:Int))=false:=beq_eq_false_iff_ne.2 (by omega);have x1:(sb l).extract 0 (a0d l)=sb (a2i l):=by rw [a1Z,List.drop_zero];rfl
  have x2:(sb l).extract (a0d l+1) l.length=sb (a1v l):=by rw [a1Z,List.take_of_length_le (Nat.le_refl _)];rfl
  have wk:IntKind.i64.wrap (((a0d l:Nat):Int)+1)=((a0d l+1:Nat):Int):=wI (by omega) (by omega);refine OkS.seq ?_;refine sZ 300 ?_;refine nwI (ff2 hsz e0) ?_;refine ifI ?_;refine skI ?_;refine OkS.seq ?_;refine OkS.regD w1 500 [0,1,2,3,4,5,6,7] [8,9,10] (by kernel_rfl) ?_;refine gwI (ff5 hsz wk kN x1 x2) ?_;refine a0n.same _ c1 inferInstance ?_;refine gwI (ff5 hsz wk kN x1 x2) ?_;refine a0l.same _ c2 inferInstance ?_;refine stI ?_;refine rtI ?_;exact a0a rfl IsPure.out
def txt (r:Rat):List UInt8:=if r.den=1 then Lib.itoa r.num else Lib.itoa r.num++47::Lib.decDigits r.den
def qZ (x y:Int):Rat:=mkRat (if y<0 then -x else x) y.natAbs
theorem a5W {x:Int}{d:Nat}(hd:d≠0):(mkRat x d).num=sg (decide (x<0)) (x.natAbs / Nat.gcd x.natAbs d)∧(mkRat x d).den=d / Nat.gcd x.natAbs d:=by
 rw [mkRat,dif_neg hd,Rat.normalize_eq];refine ⟨?_,rfl⟩;dsimp only;have hg:0<Nat.gcd x.natAbs d:=Nat.gcd_pos_of_pos_right _ (Nat.pos_of_ne_zero hd);obtain ⟨p,hp⟩:=Nat.gcd_dvd_left x.natAbs d;have e1:x.natAbs / Nat.gcd x.natAbs d=p:=by
  refine Nat.div_eq_of_eq_mul_right hg hp
 have e2:x=(Nat.gcd x.natAbs d:Int)*sg (decide (x<0)) p:=by
  have h0:(x.natAbs:Int)=(Nat.gcd x.natAbs d:Int)*(p:Int):=by rw [← Int.natCast_mul,← hp]
  unfold sg
  by_cases hx:x<0
  ·rw [decide_eq_true hx,if_pos rfl,Int.mul_neg,← h0];omega
  ·rw [decide_eq_false hx,if_neg (by decide),← h0];omega
 rw [e1]
 conv=>lhs;arg 1;rw [e2]
 rw [Int.mul_ediv_cancel_left _ (by omega)]
theorem b4W (q:Nat):((((((a0o q).map a0p).length:Nat):Int)==1)=true∧∃ a,(a0o q)[0]? = some a∧(((a:Nat):Int)==1)=decide (q=1))∨((((((a0o q).map a0p).length:Nat):Int)==1)=false∧q≠1):=by
 rw [List.length_map]
 by_cases h:(a0o q).length=1
 ·refine .inl ⟨beq_iff_eq.2 (by omega),?_⟩
  obtain ⟨a,ha⟩:=a2Z (l:=a0o q) (i:=0) (by omega);refine ⟨a,ha,?_⟩;have e:a0o q=[a]:=by
   obtain ⟨b,hb⟩:=List.length_eq_one_iff.1 h;rw [hb] at ha ⊢;cases ha;rfl
  have e2:q=a:=by rw [← a0q q,e];simp [a0g]
  rw [e2];rw [Bool.eq_iff_iff,beq_iff_eq,decide_eq_true_iff];omega
 ·refine .inr ⟨beq_eq_false_iff_ne.2 (by omega),fun hq=>h ?_⟩
  rw [hq,a3U (by decide) (by decide)];rfl
theorem a9K (x y:Int)(hy0:y≠0)(hx:b2Q x)(hy:b2Q y):a0b C0 83 [rZ x,rZ y] (str (sb (txt (qZ x y)))):=by
 refine a0c.walk w1 d3I rfl fun F=>?_
 unfold qZ;refine sR 0 ?_;refine OkS.seqX (α:=Nat) (fun n=>⟨[(2,.optr 0 0 2 0 0),(3,.optr 1 1 2 0 0)],[⟨1,1,157,2,[.agg [boo false,rD y.natAbs]]⟩,⟨0,0,157,2,[rZ (if y<0 then -x else x)]⟩],n⟩) (fun _=>True) ?_ ?_
 ·by_cases h:y<0
  ·have cx:=b8A x hx
   have cy:=b8A y hy;have e1:rZ (-y)=.agg [boo false,rD y.natAbs]:=by
    show D.agg [boo (decide (-y<0)),rD (-y).natAbs]=_;rw [decide_eq_false (by omega),Int.natAbs_neg]
   rw [e1] at cy;rw [if_pos h];refine sZ 100 ?_;refine nwI (decide_eq_true h) ?_;refine ifI ?_;refine OkS.regD w1 200 [0,1,2] [3,4,5] (by kernel_rfl) ?_;refine gwI kN ?_;refine a0n.same _ cx inferInstance ?_;refine gwI kN ?_;refine a0l.same _ cy inferInstance ?_;refine stI ?_;exact ⟨trivial,_,trivial,wkI⟩
  ·have e1:rZ y=.agg [boo false,rD y.natAbs]:=by
    show D.agg [boo (decide (y<0)),rD y.natAbs]=_;rw [decide_eq_false h]
   rw [if_neg h];refine sZ 100 ?_;refine nwI (decide_eq_false h) ?_;refine ifI ?_;refine skI ?_;refine ⟨rfl,5,trivial,?_⟩;rw [← e1];exact wkI
 rintro n0 -;obtain ⟨z,hz⟩:∃ z,z=(if y<0 then -x else x):=⟨_,rfl⟩
 have hza:z.natAbs=x.natAbs:=by rw [hz];split<;>omega
 obtain ⟨d,hd⟩:∃ d,d=y.natAbs:=⟨_,rfl⟩
 have hd0:d≠0:=by omega
 unfold b2Q at hx hy;rw [← hza] at hx;rw [← hd] at hy;rw [← hz,← hd];clear hz hza hd hy0;clear x y;have cg:=b4h z.natAbs d hx hy;obtain ⟨qn,qd⟩:=a5W (x:=z) hd0;have hg:0<Nat.gcd z.natAbs d:=Nat.gcd_pos_of_pos_right _ (Nat.pos_of_ne_zero hd0);have hgl:(a0o (Nat.gcd z.natAbs d)).length<1000000:=Nat.lt_of_le_of_lt (a0B _ _ (Nat.gcd_le_right _ (Nat.pos_of_ne_zero hd0))) hy;have c4:=d4C z.natAbs (Nat.gcd z.natAbs d) (by omega) hx hgl;have c5:a0b C0 160 [rD d,rD (Nat.gcd z.natAbs d)] (.tup [.sl false 1 ((a0o (d / Nat.gcd z.natAbs d)).map a0p),rD (d%Nat.gcd z.natAbs d)]):=d4C d (Nat.gcd z.natAbs d) (by omega) hy hgl;have hpl:(a0o (z.natAbs / Nat.gcd z.natAbs d)).length<1000000:=Nat.lt_of_le_of_lt (a0B _ _ (Nat.div_le_self _ _)) hx;have hql:(a0o (d / Nat.gcd z.natAbs d)).length<1000000:=Nat.lt_of_le_of_lt (a0B _ _ (Nat.div_le_self _ _)) hy;have etx:txt (mkRat z d)=if d / Nat.gcd z.natAbs d=1 then Lib.itoa (sg (decide (z<0)) (z.natAbs / Nat.gcd z.natAbs d)) else Lib.itoa (sg (decide (z<0)) (z.natAbs / Nat.gcd z.natAbs d))++47::Lib.decDigits (d / Nat.gcd z.natAbs d):=by
  unfold txt;rw [qn,qd]
 rw [etx];clear etx qn qd hg hgl;generalize z.natAbs / Nat.gcd z.natAbs d=p at *;generalize d / Nat.gcd z.natAbs d=q at *;generalize z.natAbs%Nat.gcd z.natAbs d=r1 at *;generalize d%Nat.gcd z.natAbs d=r2 at *;generalize Nat.gcd z.natAbs d=gg at *;have c6:=a3Y (decide (z<0)) p (by omega);have hab:(sg (decide (z<0)) p).natAbs=p:=by unfold sg;split<;>omega
 have c7:=c0e (sg (decide (z<0)) p) (by unfold b2Q;rw [hab];exact hpl);have c8:=a3Y false q (by omega);have c9:=c0e (sg false q) (by unfold b2Q;show (a0o q).length<1000000;exact hql);have e9:Lib.itoa (sg false q)=Lib.decDigits q:=by rw [b3A false q (by simp)];rfl
 rw [e9] at c9;have l1:=a7V (a0z p);rw [a0q] at l1;have l2:=a7V (a0z q);rw [a0q] at l2;have l3:(Lib.itoa (sg (decide (z<0)) p)).length≤(Lib.decDigits p).length+1:=by
  unfold Lib.itoa;split
  ·rw [hab,List.length_cons];exact Nat.le_refl _
  ·rw [show (sg (decide (z<0)) p).toNat=p by omega];omega
 generalize sg (decide (z<0)) p=pz at *;have s1:=a0u (Lib.itoa pz);have s2:=a0u (Lib.decDigits q);have s3:(⟨#[47]⟩:ByteArray).size=1:=rfl;have s4:(sb (Lib.itoa pz)++(⟨#[47]⟩:ByteArray)).size=(sb (Lib.itoa pz)).size+(⟨#[47]⟩:ByteArray).size:=ByteArray.size_append;generalize Lib.itoa pz=t1 at *;generalize Lib.decDigits q=t2 at *;refine sR 300 ?_;refine cI cg ?_;refine sR 400 ?_;refine cI c4 ?_;refine sR 500 ?_;refine cI c5 ?_;refine sR 600 ?_;refine cI c6 ?_;refine cI c7 ?_;have ht:=b4W q;rcases ht with ⟨h1,a,ha,h2⟩|⟨h1,h2⟩
 ·have ha':=a6T ha
  refine OkS.seq ?_;refine sZ 700 ?_;refine gwI h1 ?_;refine ixI kT ha' ?_;refine gwI (ff2 h1 h2) ?_
  by_cases hq:q=1
  ·rw [decide_eq_true hq,if_pos hq]
   refine ifI ?_;refine sR 800 ?_;refine rtI ?_;exact a0a rfl IsPure.out
  ·rw [decide_eq_false hq,if_neg hq]
   refine ifI ?_;refine skI ?_;refine sR 900 ?_;refine a0l.same _ c8 inferInstance ?_;refine stI ?_;refine a0l.same _ c9 inferInstance ?_;refine stI ?_;refine rtI ?_;refine a0a ?_ IsPure.out;show str ((⟨t1.toArray⟩++⟨([47]:List UInt8).toArray⟩:ByteArray)++⟨t2.toArray⟩)=_;rw [a3v,a3v,List.append_assoc];rfl
 ·rw [if_neg h2]
  refine OkS.seq ?_;refine sZ 700 ?_;refine nwI h1 ?_;refine gwI kF ?_;refine ifI ?_;refine skI ?_;refine sR 900 ?_;refine a0l.same _ c8 inferInstance ?_;refine stI ?_;refine a0l.same _ c9 inferInstance ?_;refine stI ?_;refine rtI ?_;refine a0a ?_ IsPure.out;show str ((⟨t1.toArray⟩++⟨([47]:List UInt8).toArray⟩:ByteArray)++⟨t2.toArray⟩)=_;rw [a3v,a3v,List.append_assoc];rfl
set_option maxHeartbeats 2000000
theorem a7m (k:Nat)(h:k<10):(UInt8.ofNat (48+k)).toNat=48+k:=by
 rw [UInt8.toNat_ofNat'];omega
theorem a1m:∀ n:Nat,(Lib.decDigits n).all a0y=true∧dv (Lib.decDigits n)=n∧(Lib.decDigits n)≠[]:=fun n=>by
 induction n using Nat.strongRecOn with
 | _ n ih =>
  have one:∀ k,k<10→a0y (UInt8.ofNat (48+k))=true:=fun k hk=>by
   unfold a0y;rw [a7m k hk,Bool.and_eq_true];exact ⟨Nat.ble_eq_true_of_le (by omega),Nat.ble_eq_true_of_le (by omega)⟩
  have vone:∀ k,k<10→dv [UInt8.ofNat (48+k)]=k:=fun k hk=>by
   show 0*10+((UInt8.ofNat (48+k)).toNat - 48)=k;rw [a7m k hk];omega
  rw [Lib.decDigits];split
  ·rename_i h
   exact ⟨by rw [List.all_cons,one n h];rfl,vone n h,by simp⟩
  ·rename_i h
   obtain ⟨h1,h2,h3⟩:=ih (n / 10) (by omega);refine ⟨by rw [List.all_append,h1,List.all_cons,one _ (Nat.mod_lt _ (by decide))];rfl,?_,by simp⟩;rw [a4o,h2,vone _ (Nat.mod_lt _ (by decide)),List.length_singleton];omega
theorem c0V {n:Nat}(h:n≠0):∃ c l,Lib.decDigits n=c::l∧c≠48:=by
 induction n using Nat.strongRecOn with
 | _ n ih =>
  rw [Lib.decDigits];split
  ·rename_i h1
   refine ⟨_,_,rfl,fun hh=>?_⟩
   have:=congrArg UInt8.toNat hh
   rw [a7m n h1] at this
   have:48+n=48:=this
   omega
  ·rename_i h1
   obtain ⟨c,l,e,hc⟩:=ih (n / 10) (by omega) (by omega);rw [e];exact ⟨c,l++_,rfl,hc⟩
theorem c8b {c:UInt8}(h:a0y c=true):c≠47∧c≠45:=by
 obtain ⟨h1,h2⟩:=a2n h;exact ⟨fun hh=>by subst hh;simp at h1,fun hh=>by subst hh;simp at h1⟩
theorem a4O (z:Int):a1P (Lib.itoa z)=decide (z<0)∧a0j (Lib.itoa z)=Lib.decDigits z.natAbs:=by
 unfold Lib.itoa
 by_cases h:z<0
 ·rw [if_pos h,decide_eq_true h]
  exact ⟨rfl,rfl⟩
 ·rw [if_neg h,decide_eq_false h,show z.toNat=z.natAbs by omega]
  have h1:=a6p (a1m z.natAbs).1;exact ⟨h1,a1E (a1m z.natAbs).1⟩
theorem b9A (z:Int):rv (Lib.itoa z)=z:=by
 unfold rv;rw [(a4O z).1,(a4O z).2,(a1m z.natAbs).2.1]
 by_cases h:z<0
 ·rw [decide_eq_true h,if_pos rfl];omega
 ·rw [decide_eq_false h,if_neg (by decide)];omega
theorem a6M (z:Int):∀ c∈Lib.itoa z,(c != 47)=true:=fun c hc=>by
 have hd:∀ n,∀ c∈Lib.decDigits n,(c != 47)=true:=fun n c h=>by
  have:=(c8b (List.all_eq_true.1 (a1m n).1 c h)).1
  simpa using this
 unfold Lib.itoa at hc;split at hc
 ·rcases List.mem_cons.1 hc with rfl|h
  ·rfl
  ·exact hd _ c h
 ·exact hd _ c hc
theorem a3Z {p:UInt8→Bool}:∀ {l:List UInt8} (m:List UInt8),(∀ c∈l,p c=true)→(l++m).takeWhile p=l++m.takeWhile p
 | [],_,_=>rfl
 | a::l,m,h=>by
  rw [List.cons_append,List.takeWhile_cons,if_pos (h a List.mem_cons_self),a3Z m fun c hc=>h c (List.mem_cons_of_mem _ hc)];rfl
theorem a4F (r:Rat):a0d (txt r)=(Lib.itoa r.num).length:=by
 unfold a0d txt;split
 ·have:=a3Z (p:=(· != 47)) [] (a6M r.num)
  rw [List.append_nil] at this;rw [this];simp
 ·rw [a3Z (p:=(· != 47)) _ (a6M r.num)]
  simp
theorem a9c (r:Rat):a2i (txt r)=Lib.itoa r.num:=by
 unfold a2i;rw [a4F];unfold txt;split
 ·exact List.take_of_length_le (Nat.le_refl _)
 ·exact List.take_left' rfl
theorem a6E (r:Rat):a1v (txt r)=if r.den=1 then [] else Lib.decDigits r.den:=by
 unfold a1v;rw [a4F];unfold txt;split
 ·exact List.drop_of_length_le (Nat.le_succ _)
 ·rw [List.drop_append]
  rw [List.drop_of_length_le (Nat.le_succ _),Nat.add_sub_cancel_left];rfl
theorem b1j (r:Rat):a4e (txt r) = !decide (r.den=1):=by
 unfold a4e;rw [a4F];unfold txt
 by_cases h:r.den=1
 ·rw [if_pos h,decide_eq_true h,decide_eq_false (by omega)];rfl
 ·rw [if_neg h,decide_eq_false h,List.length_append,List.length_cons,decide_eq_true (by omega)];rfl
theorem b1m (r:Rat):d1x (txt r)=r.num:=by unfold d1x;rw [a9c,b9A]
theorem b5u (r:Rat):c8a (txt r)=r.den:=by
 unfold c8a;rw [b1j,a6E]
 by_cases h:r.den=1
 ·rw [decide_eq_true h,h];rfl
 ·rw [decide_eq_false h,if_neg h,if_pos (show (!false)=true from rfl),b0g (a1m _).1,(a1m _).2.1]
theorem a7D (r:Rat):(a0j (a2i (txt r))).all a0y=true:=by rw [a9c,(a4O _).2];exact (a1m _).1
theorem a7C (r:Rat):(a0j (a1v (txt r))).all a0y=true:=by
 rw [a6E];split
 ·rfl
 ·rw [a1E (a1m _).1];exact (a1m _).1
theorem b8q (z:Int):Lib.itoa z≠[]:=by
 unfold Lib.itoa;split
 ·simp
 ·exact (a1m _).2.2
theorem c4K (r:Rat):txt r≠[]:=by
 unfold txt;split
 ·exact b8q _
 ·simp
theorem b1l (r:Rat):a1P (txt r)=decide (r.num<0):=by
 rw [← (a4O r.num).1];unfold txt;split
 ·rfl
 ·have:=b8q r.num
  cases h:Lib.itoa r.num with
  | nil=>exact absurd h this
  | cons c l=>rfl
theorem b5w (r:Rat):decide (txt r=[48])=decide (r.num=0):=by
 refine decide_eq_decide.2 ⟨fun h=>?_,fun h=>?_⟩
 ·have h1:=b1m r
  rw [h] at h1;rw [← h1];decide
 ·have:r.den=1:=by
   have:=r.reduced
   rw [h] at this;simpa using this
  unfold txt;rw [if_pos this,h];show Lib.decDigits 0=[48];rw [Lib.decDigits,dif_pos (by decide)];rfl
abbrev rR (r:Rat):D:=str (sb (txt r))
def c4I (r:Rat):Prop:=(txt r).length≤1000000
theorem b9N (r:Rat)(hl:c4I r):a0b C0 71 [rR r] (i64 (a7g r)):=by
 refine a0c.walk w1 d3G rfl fun F=>?_
 have hsz:=a0u (txt r);unfold c4I at hl;have ez:=a5f (txt r) [48];rw [b5w] at ez;have en:=b1l r;refine sR 0 ?_;refine OkS.seq ?_;refine OkS.seq ?_;have ez2:a1Q (sb (txt r)) ⟨#[48]⟩=decide (r.num=0):=ez;have hne:=c4K r;refine OkS.reg w1 100 (by kernel_rfl) ?_;refine nwI ez2 ?_
 by_cases h0:r.num=0
 ·rw [decide_eq_true h0]
  refine ifI ?_;refine sR 200 ?_;refine rtI ?_;exact a0a (by unfold a7g;rw [h0];rfl) IsPure.out
 ·rw [decide_eq_false h0]
  have hpos:0<(txt r).length:=List.length_pos_iff.2 hne;have e0:decide (((sb (txt r)).size:Int)>0)=true:=decide_eq_true (by omega);have e1:((((txt r).getD (Int.toNat 0) 0).toNat:Int)==45)=decide (r.num<0):=by
   rw [← en];cases ht:txt r with
   | nil=>exact absurd ht hne
   | cons c l=>exact a7v c l
  refine ifI ?_;refine skI ?_;refine OkS.seq ?_;refine sZ 300 ?_;refine gwI e0 ?_;refine gwI (ff3 kT e0 e1) ?_
  by_cases hn:r.num<0
  ·rw [decide_eq_true hn]
   refine ifI ?_;refine sR 400 ?_;refine rtI ?_;exact a0a (by unfold a7g;congr 3;omega) IsPure.out
  ·rw [decide_eq_false hn]
   refine ifI ?_;refine skI ?_;refine sR 500 ?_;refine rtI ?_;exact a0a (by unfold a7g;congr 3;omega) IsPure.out
theorem c6W (z:Int):txt (z:Rat)=Lib.itoa z:=by
 unfold txt;rw [if_pos (Rat.den_intCast z),Rat.num_intCast]
theorem b1k {r:Rat}(h:r.num<0):(txt r).drop 1=txt (-r)∧(txt (-r)).length+1=(txt r).length:=by
 have e:Lib.itoa r.num=45::Lib.itoa (-r.num):=by
  unfold Lib.itoa;rw [if_pos h,if_neg (by omega),show (-r.num).toNat=r.num.natAbs by omega]
 have e2:txt r=45::txt (-r):=by
  unfold txt;rw [Rat.neg_den,Rat.neg_num,e];split<;>rfl
 rw [e2];exact ⟨rfl,rfl⟩
theorem c2z {r:Rat}(h:0<r.num):txt (-r)=45::txt r:=by
 obtain ⟨h1,h2⟩:=b1k (r:=-r) (by rw [Rat.neg_num];omega);rw [Rat.neg_neg] at h1;have h3:=b1l (-r);rw [decide_eq_true (by rw [Rat.neg_num];omega)] at h3;cases ht:txt (-r) with
 | nil=>rw [ht] at h3;cases h3
 | cons c l =>
  rw [ht] at h1 h3
  have:c=45:=by simpa [a1P] using h3
  rw [this,← h1];rfl
theorem c6D (r:Rat):decide (a7g r<0)=decide (r.num<0):=decide_eq_decide.2 (by unfold a7g;omega)
theorem b9D (r:Rat):(a7g r==0)=decide (r.num=0):=by
 rw [Bool.eq_iff_iff,beq_iff_eq,decide_eq_true_iff];unfold a7g;omega
theorem d4j (r:Rat)(hl:c4I r):a0b C0 139 [rR r] (rR (-r)):=by
 refine a0c.walk w1 c8A rfl fun F=>?_
 have hsz:=a0u (txt r);have cs:=b9N r hl;unfold c4I at hl;have e1:=c6D r;have e2:=b9D r;refine sR 0 ?_;refine OkS.seq ?_;refine sR 100 ?_;refine cI cs ?_;rw [e1]
 by_cases h:r.num<0
 ·obtain ⟨t1,t2⟩:=b1k h
  have ee:(sb (txt r)).extract (Int.toNat 1) (txt r).length=sb (txt (-r)):=by
   rw [a1Z,List.take_of_length_le (Nat.le_refl _),← t1];rfl
  rw [decide_eq_true h];refine ifI ?_;refine sZ 200 ?_;refine gwI (ff2 hsz kN) ?_;rw [ee];refine rtI ?_;exact a0a rfl IsPure.out
 ·rw [decide_eq_false h]
  refine ifI ?_;refine skI ?_;refine OkS.seq ?_;refine sR 300 ?_;refine cI cs ?_;rw [e2]
  by_cases h0:r.num=0
  ·rw [decide_eq_true h0]
   refine ifI ?_;refine sR 400 ?_;refine rtI ?_;refine a0a ?_ IsPure.out
   have:r=0:=Rat.num_eq_zero.1 h0
   rw [this];rfl
  ·have tp:=c2z (r:=r) (by omega)
   have z3:(⟨#[45]⟩:ByteArray).size=1:=rfl;rw [decide_eq_false h0];refine ifI ?_;refine skI ?_;refine sR 500 ?_;refine rtI ?_;refine a0a ?_ IsPure.out;show str ((⟨([45]:List UInt8).toArray⟩:ByteArray)++⟨(txt r).toArray⟩)=str (sb (txt (-r)));rw [a3v,tp];rfl
def a5g (r:Rat):Rat:=if r.num<0 then -r else r
theorem a7j (r:Rat):(a5g r).num=r.num.natAbs∧(a5g r).den=r.den:=by
 unfold a5g;split
 ·rw [Rat.neg_num,Rat.neg_den];exact ⟨by omega,rfl⟩
 ·exact ⟨by omega,rfl⟩
def qk (r:Rat):Bool:=!decide (20<(txt r).length) && !(decide (9<a0d (txt (a5g r)))||decide (10<(txt (a5g r)).length - a0d (txt (a5g r))))
theorem c0A (r:Rat):(txt (a5g r)).length≤(txt r).length:=by
 unfold a5g;split
 ·rename_i h
  have:=(b1k h).2
  omega
 ·exact Nat.le_refl _
theorem a7J (r:Rat):Lib.itoa (a5g r).num=Lib.decDigits r.num.natAbs:=by
 rw [(a7j r).1];unfold Lib.itoa;rw [if_neg (by omega)];rfl
theorem a5X {r:Rat}(h:qk r=true):r.num.natAbs<10^9∧r.den<10^9:=by
 unfold qk at h;simp only [Bool.and_eq_true,Bool.not_eq_true',Bool.or_eq_false_iff,decide_eq_false_iff_not] at h;obtain ⟨h1,h2,h3⟩:=h;have hs:=a4F (a5g r);rw [a7J] at hs;have hd:=a6E (a5g r);rw [(a7j r).2] at hd;have hdl:(a1v (txt (a5g r))).length=(txt (a5g r)).length - (a0d (txt (a5g r))+1):=by unfold a1v;rw [List.length_drop]
 have d1:=a5c _ (a1m r.num.natAbs).1;have d2:=a5c _ (a1m r.den).1;rw [(a1m _).2.1] at d1 d2;refine ⟨Nat.lt_of_lt_of_le d1 (Nat.pow_le_pow_right (by decide) (by omega)),?_⟩
 by_cases h1:r.den=1
 ·rw [h1];decide
 ·rw [if_neg h1] at hd
  rw [hd] at hdl;exact Nat.lt_of_lt_of_le d2 (Nat.pow_le_pow_right (by decide) (by omega))
theorem b0W (r:Rat)(hl:c4I r):a0b C0 92 [rR r] (.tup [i64 (if qk r then r.num else 0),i64 (if qk r then (r.den:Int) else 0),boo (qk r)]):=by
 refine a0c.walk w1 d3Q rfl fun F=>?_
 have hsz:=a0u (txt r);unfold c4I at hl;have hne:=c4K r;have hpos:0<(txt r).length:=List.length_pos_iff.2 hne;refine sR 0 ?_;refine sR 100 ?_;refine OkS.seq ?_;refine OkS.seq ?_
 by_cases h20:20<(txt r).length
 ·have e2:decide (((txt r).length:Int)>20)=true:=decide_eq_true (by omega)
  have eq:qk r=false:=by unfold qk;rw [decide_eq_true h20];rfl
  rw [eq];refine OkS.reg w1 200 (by kernel_rfl) ?_;refine nwI (ff2 hsz e2) ?_;refine ifI ?_;refine sR 300 ?_;refine rtI ?_;exact a0a rfl IsPure.out
 ·have e2:decide (((txt r).length:Int)>20)=false:=decide_eq_false (by omega)
  have eq:qk r = !(decide (9<a0d (txt (a5g r)))||decide (10<(txt (a5g r)).length - a0d (txt (a5g r)))):=by unfold qk;rw [decide_eq_false h20];rfl
  have en:=b1l r;refine OkS.reg w1 200 (by kernel_rfl) ?_;refine nwI (ff2 hsz e2) ?_;refine ifI ?_;refine skI ?_;refine OkS.seqX (α:=Nat) (fun n=>⟨[(5,rR r),(6,boo (decide (r.num<0)))],[],n⟩) (fun _=>True) ?_ ?_
  ·have e0:decide (((sb (txt r)).size:Int)>0)=true:=decide_eq_true (by omega)
   have e1:((((txt r).getD (Int.toNat 0) 0).toNat:Int)==45)=decide (r.num<0):=by
    rw [← en];cases ht:txt r with
    | nil=>exact absurd ht hne
    | cons c l=>exact a7v c l
   refine OkS.reg w1 400 (by kernel_rfl) ?_;refine gwI e0 ?_;refine gwI (ff3 kT e0 e1) ?_;exact ⟨trivial,_,trivial,wkI⟩
  rintro n0 -;refine OkS.seqX (α:=Nat) (fun n=>⟨[(5,rR (a5g r)),(6,boo (decide (r.num<0)))],[],n⟩) (fun _=>True) ?_ ?_
  ·refine sR 500 ?_
   by_cases h:r.num<0
   ·obtain ⟨t1,t2⟩:=b1k h
    have ea:a5g r = -r:=by unfold a5g;rw [if_pos h]
    have ee:(sb (txt r)).extract (Int.toNat 1) (txt r).length=sb (txt (a5g r)):=by
     rw [ea,a1Z,List.take_of_length_le (Nat.le_refl _),← t1];rfl
    rw [decide_eq_true h];refine ifI ?_;refine OkS.reg w1 600 (by kernel_rfl) ?_;refine gwI (ff2 hsz kN) ?_;rw [ee];exact ⟨trivial,_,trivial,wkI⟩
   ·have ea:a5g r=r:=by unfold a5g;rw [if_neg h]
    rw [decide_eq_false h,ea];refine ifI ?_;refine skI ?_;exact ⟨rfl,_,trivial,wkI⟩
  rintro n1 -;have hal:=c0A r;have hsa:=a4F (a5g r);rw [a7J] at hsa;have hn:=a9c (a5g r);rw [a7J] at hn;have hd:=a6E (a5g r);rw [(a7j r).2] at hd;have hh:=b1j (a5g r);rw [(a7j r).2] at hh;unfold a4e at hh;have hle:=a2r (txt (a5g r));have cs:=b3P (txt (a5g r)) (by omega);have hszA:=a0u (txt (a5g r));clear hsz hne hpos e2 en;generalize hT:txt (a5g r)=T at *;have eR:rR (a5g r)=str (sb T):=by rw [← hT]
  rw [eR];clear hT eR;refine sR 700 ?_;refine cI cs ?_;have w8:IntKind.i64.wrap ((T.length:Int) - (a0d T:Int))=((T.length - a0d T:Nat):Int):=by rw [wI (by omega) (by omega)];omega
  have eb:decide (((T.length - a0d T:Nat):Int)>10)=decide (10<T.length - a0d T):=decide_eq_decide.2 (by omega)
  by_cases h9:9<a0d T
  ·have e8:decide ((a0d T:Int)>9)=true:=decide_eq_true (by omega)
   rw [decide_eq_true h9] at eq;have eq2:qk r=false:=eq;rw [eq2];refine OkS.seq ?_;refine sZ 800 ?_;refine nwI e8 ?_;refine gwI kT ?_;refine ifI ?_;refine sR 900 ?_;refine rtI ?_;exact a0a rfl IsPure.out
  have e8:decide ((a0d T:Int)>9)=false:=decide_eq_false (by omega);rw [decide_eq_false h9] at eq
  by_cases h10:10<T.length - a0d T
  ·rw [decide_eq_true h10] at eq eb
   have eq2:qk r=false:=eq;rw [eq2];refine OkS.seq ?_;refine sZ 800 ?_;refine nwI e8 ?_;refine gwI (ff4 kF hszA w8 eb) ?_;refine ifI ?_;refine sR 900 ?_;refine rtI ?_;exact a0a rfl IsPure.out
  rw [decide_eq_false h10] at eq eb;have eq2:qk r=true:=eq;rw [eq2];refine OkS.seq ?_;refine sZ 800 ?_;refine nwI e8 ?_;refine gwI (ff4 kF hszA w8 eb) ?_;refine ifI ?_;refine skI ?_;have hd1:=a1m r.num.natAbs;have hd2:=a1m r.den;have c1:=b1n (Lib.decDigits r.num.natAbs) hd1.1 (by omega);rw [hd1.2.1] at c1;have e10:(sb T).extract 0 (a0d T)=sb (Lib.decDigits r.num.natAbs):=by
   rw [a1Z,List.drop_zero,← hn];rfl
  refine sZ 1000 ?_;refine gwI (ff2 hszA kN) ?_;refine gwI e10 ?_;refine a0l.same _ c1 inferInstance ?_;refine stI ?_;refine OkS.seqX (α:=Nat) (fun n=>⟨[(6,boo (decide (r.num<0))),(8,i64 (r.num.natAbs:Int)),(9,i64 (r.den:Int))],[],n⟩) (fun _=>True) ?_ ?_
  ·by_cases hden:r.den=1
   ·rw [decide_eq_true hden] at hh
    have e11:decide ((a0d T:Int)<(T.length:Int))=false:=decide_eq_false (by have:=of_decide_eq_false (p:=a0d T<T.length) hh;omega);rw [hden];refine sZ 1100 ?_;refine nwI (ff2 hszA e11) ?_;refine ifI ?_;refine skI ?_;exact ⟨rfl,_,trivial,wkI⟩
   ·rw [decide_eq_false hden] at hh
    rw [if_neg hden] at hd;have hlt:=of_decide_eq_true (p:=a0d T<T.length) hh;have e11:decide ((a0d T:Int)<(T.length:Int))=true:=decide_eq_true (by omega);have wk:IntKind.i64.wrap (((a0d T:Nat):Int)+1)=((a0d T+1:Nat):Int):=wI (by omega) (by omega);have e12:(sb T).extract (a0d T+1) T.length=sb (Lib.decDigits r.den):=by
     rw [a1Z,List.take_of_length_le (Nat.le_refl _),← hd];rfl
    have hdl:(Lib.decDigits r.den).length≤18:=by
     rw [← hd];unfold a1v;rw [List.length_drop];omega
    have c2:=b1n (Lib.decDigits r.den) hd2.1 hdl;rw [hd2.2.1] at c2;refine sZ 1100 ?_;refine nwI (ff2 hszA e11) ?_;refine ifI ?_;refine OkS.reg w1 1200 (by kernel_rfl) ?_;refine gwI (ff3 hszA wk kN) ?_;refine gwI e12 ?_;refine a0l.same _ c2 inferInstance ?_;refine stI ?_;exact ⟨trivial,_,trivial,wkI⟩
  rintro n2 -;obtain ⟨b1,b2⟩:=a5X eq2;refine OkS.seqX (α:=Nat) (fun n=>⟨[(8,i64 r.num),(9,i64 (r.den:Int))],[],n⟩) (fun _=>True) ?_ ?_
  ·refine sR 1300 ?_
   by_cases h:r.num<0
   ·have wn:IntKind.i64.wrap (0 - (r.num.natAbs:Int))=r.num:=by rw [wI (by omega) (by omega)];omega
    rw [decide_eq_true h];refine ifI ?_;refine OkS.reg w1 1400 (by kernel_rfl) ?_;refine nwI wn ?_;exact ⟨trivial,_,trivial,wkI⟩
   ·have en:(r.num.natAbs:Int)=r.num:=by omega
    rw [decide_eq_false h,en];refine ifI ?_;refine skI ?_;exact ⟨rfl,_,trivial,wkI⟩
  rintro n3 -;refine sR 1500 ?_;refine rtI ?_;exact a0a rfl IsPure.out
theorem b2A (b:Bool)(n:Nat):(sg b n).natAbs=n:=by unfold sg;split<;>omega
theorem b6c (z:Int)(d:Nat)(hz:z.natAbs≤4000000000000000000)(hd0:0<d)(hd:d≤4000000000000000000):a0b C0 31 [i64 z,i64 (d:Int)] (rR (mkRat z d)):=by
 refine a0c.walk w1 d3i rfl fun F=>?_
 have hg:0<Nat.gcd z.natAbs d:=Nat.gcd_pos_of_pos_right _ hd0;have hgl:Nat.gcd z.natAbs d≤d:=Nat.gcd_le_right _ hd0;obtain ⟨qn,qd⟩:=a5W (x:=z) (d:=d) (by omega);have etx:txt (mkRat z d)=if d / Nat.gcd z.natAbs d=1 then Lib.itoa (mkRat z d).num else Lib.itoa (mkRat z d).num++47::Lib.decDigits (d / Nat.gcd z.natAbs d):=by
  unfold txt;rw [qd]
 have q1:z.tdiv (Nat.gcd z.natAbs d:Nat)=(mkRat z d).num:=by
  rw [qn];obtain ⟨p,hp⟩:=Nat.gcd_dvd_left z.natAbs d;have e1:z.natAbs / Nat.gcd z.natAbs d=p:=Nat.div_eq_of_eq_mul_right hg hp;have e2:z=(Nat.gcd z.natAbs d:Int)*sg (decide (z<0)) p:=by
   have h0:(z.natAbs:Int)=(Nat.gcd z.natAbs d:Int)*(p:Int):=by rw [← Int.natCast_mul,← hp]
   unfold sg
   by_cases hx:z<0
   ·rw [decide_eq_true hx,if_pos rfl,Int.mul_neg,← h0];omega
   ·rw [decide_eq_false hx,if_neg (by decide),← h0];omega
  rw [e1]
  conv=>lhs;arg 1;rw [e2]
  rw [Int.mul_tdiv_cancel_left _ (by omega)]
 have q2:(d:Int).tdiv (Nat.gcd z.natAbs d:Nat)=((d / Nat.gcd z.natAbs d:Nat):Int):=rfl;have q5:(mkRat z d).num.natAbs≤4000000000000000000:=by
  rw [qn];rw [b2A];exact Nat.le_trans (Nat.div_le_self _ _) hz
 have q4:d / Nat.gcd z.natAbs d≤4000000000000000000:=Nat.le_trans (Nat.div_le_self _ _) hd;have hx:0<d / Nat.gcd z.natAbs d:=Nat.div_pos hgl hg;have ert:rR (mkRat z d)=str (sb (if d / Nat.gcd z.natAbs d=1 then Lib.itoa (mkRat z d).num else Lib.itoa (mkRat z d).num++47::Lib.decDigits (d / Nat.gcd z.natAbs d))):=by rw [← etx]
 rw [ert];clear etx ert qn qd;generalize (mkRat z d).num=pz at *;refine fR 0 ?_;refine OkS.seqW ⟨[(0,i64 z),(1,i64 d),(4,str ⟨#[]⟩)],[],50⟩ ?_ ?_
 ·refine OkS.seq ?_
  have l1:(decide (z < -4000000000000000000))=false:=by apply decide_eq_false;omega
  have l2:(decide (z>4000000000000000000))=false:=by apply decide_eq_false;omega
  have l3:(decide ((d:Int) < -4000000000000000000))=false:=by apply decide_eq_false;omega
  have l4:(decide ((d:Int)>4000000000000000000))=false:=by apply decide_eq_false;omega
  refine OkS.reg w1 100 (by kernel_rfl) ?_
  repeat' (first|(refine And.intro (by exact sdI) ?_;(refine dsI ?_);(try simp only [a6k,b0w,l1,l2,l3,l4]))|((refine brI (fun hb=>?_) (fun hb=>?_))<;>(try simp only [Bool.not_eq_true',Bool.not_eq_false'] at hb)<;>(try simp only [hb])<;>(refine dsI ?_)))
  refine ifI ?_;refine skI ?_;exact And.intro (by trivial) (wkI)
 refine OkS.seqW ⟨[(0,i64 z),(1,i64 d),(4,str ⟨#[]⟩)],[],100⟩ ?_ ?_
 ·refine fR 300 ?_
  refine ifI ?_;have e27:(decide ((d:Int)<0))=false:=by simp
  rw [e27];refine skI ?_;exact And.intro (by trivial) (wkI)
 refine OkS.seq ?_;have m1:max z (IntKind.i64.wrap (0 - z))=(z.natAbs:Int):=by rw [wI (by omega) (by omega)];omega
 refine OkS.reg w1 500 (by kernel_rfl) ?_;refine mwI m1 ?_;refine dI (c6y z.natAbs d (by omega) (by omega)) ?_;refine OkS.seq ?_;refine OkS.regD w1 600 [0,1,2,3,4,5,6] [7] (by kernel_rfl) ?_;refine nxI ?_;have w1p:IntKind.i64.wrap pz=pz:=wI (by omega) (by omega);rw [q1,q2,w1p,wN (Nat.le_trans q4 (by decide))];clear q1 q2 hg hgl;generalize d / Nat.gcd z.natAbs d=y at *;refine fR 700 ?_;have c1:=a4M pz.natAbs 1 (by omega);have c2:=a4M y 1 (by omega);rw [b7f] at c1 c2;have s1:=a0R 18 pz.natAbs (Nat.lt_of_le_of_lt q5 (by decide));have s2:=a0R 18 y (Nat.lt_of_le_of_lt q4 (by decide));have z1:=a5q (Lib.decDigits pz.natAbs);have z2:=a5q (Lib.decDigits y);have m1:max pz (IntKind.i64.wrap (0 - pz))=(pz.natAbs:Int):=by rw [wI (by omega) (by omega)];omega
 refine OkS.seqX (α:=Nat) (fun n=>⟨[(0,i64 pz),(1,i64 (y:Int)),(4,str ⟨#[]⟩),(6,str (sb (if pz<0 then [45] else [])))],[],n⟩) (fun _=>True) ?_ ?_
 ·refine fR 800 ?_
  by_cases h:pz<0
  ·rw [decide_eq_true h,if_pos h]
   refine ifI ?_;refine fI 900 ?_;exact ⟨rfl,_,trivial,wkI⟩
  ·rw [decide_eq_false h,if_neg h]
   refine ifI ?_;refine skI ?_;exact ⟨rfl,_,trivial,wkI⟩
 rintro n0 -;have ei:(if pz<0 then [45] else [])++Lib.decDigits pz.natAbs=Lib.itoa pz:=by
  unfold Lib.itoa;split
  ·rfl
  ·rw [show pz.toNat=pz.natAbs by omega];rfl
 have z3:=a0u (if pz<0 then [45] else []);have z4:(if pz<0 then [45] else []:List UInt8).length≤1:=by split<;>simp
 have z5:(Lib.itoa pz).length≤20:=by rw [← ei,List.length_append];omega
 refine sZ 1000 ?_;refine mwI m1 ?_;refine dI c1 ?_;rw [a3v,ei];have z6:=a5q (Lib.itoa pz);generalize Lib.itoa pz=t1 at *;clear ei z3 z4;refine OkS.seqX (α:=Nat) (fun n=>⟨[(6,str (sb (if y=1 then t1 else t1++47::Lib.decDigits y)))],[],n⟩) (fun _=>True) ?_ ?_
 ·refine fR 1100 ?_
  by_cases hy:y=1
  ·rw [if_pos hy]
   have e54:(decide ((y:Int)>1))=false:=by apply decide_eq_false;omega
   rw [e54];refine ifI ?_;refine skI ?_;exact ⟨rfl,_,trivial,wkI⟩
  ·rw [if_neg hy]
   have e54:(decide ((y:Int)>1))=true:=by apply decide_eq_true;omega
   have s3:(⟨#[47]⟩:ByteArray).size=1:=rfl;have sc:((⟨t1.toArray⟩:ByteArray)++(⟨#[47]⟩:ByteArray)).size=(⟨t1.toArray⟩:ByteArray).size+(⟨#[47]⟩:ByteArray).size:=ByteArray.size_append;rw [e54];refine ifI ?_;refine fI 1200 ?_;refine dI c2 ?_;have e47:(⟨#[47]⟩:ByteArray)=⟨([47]:List UInt8).toArray⟩:=rfl;rw [e47,a3v,a3v,List.append_assoc,List.cons_append,List.nil_append];exact ⟨rfl,_,trivial,wkI⟩
 rintro n1 -;refine fR 1300 ?_;refine rtI ?_;exact a0a rfl IsPure.out
theorem b3C {n k:Nat}(h:(a0e n).length≤k):(a0o n).length≤3*k:=by
 refine a0Z (Nat.lt_of_lt_of_le (a2L n) ?_);rw [Nat.pow_mul];exact Nat.le_trans (Nat.pow_le_pow_right (by decide) h) (Nat.pow_le_pow_left (by decide) k)
theorem a9C {n k:Nat}(h:(a0e n).length≤k):(Lib.decDigits n).length≤27*k+1:=by
 have h1:=a7V (a0z n);rw [a0q] at h1
 have:=b3C h
 omega
theorem c5U {z:Int}{k:Nat}(h:(a0e z.natAbs).length≤k):(Lib.itoa z).length≤27*k+2:=by
 have:=a9C h
 unfold Lib.itoa;split
 ·rw [List.length_cons];omega
 ·rw [show z.toNat=z.natAbs by omega];omega
theorem a5A {r:Rat}{k:Nat}(h:rk r k)(hk:k≤10000):c4I r:=by
 have h1:=c5U h.1;have h2:=a9C h.2;unfold c4I txt;split
 ·omega
 ·rw [List.length_append,List.length_cons];omega
def LZ (x:Int)(p:Nat):Prop:=(a0o x.natAbs).length≤p
theorem LZ.mul {x y:Int}{p q:Nat}(hx:LZ x p)(hy:LZ y q):LZ (x*y) (p+q):=by
 unfold LZ at *;rw [Int.natAbs_mul]
 have:=a5y x.natAbs y.natAbs
 omega
theorem LZ.add {x y:Int}{p q:Nat}(hx:LZ x p)(hy:LZ y q):LZ (x+y) (p+q+1):=by
 unfold LZ at *;have h1:=a0B (x+y).natAbs (x.natAbs+y.natAbs) (Int.natAbs_add_le x y);have h2:=a8F x.natAbs y.natAbs;omega
theorem LZ.few {x:Int}{p:Nat}(h:LZ x p)(hp:p<1000000):b2Q x:=Nat.lt_of_le_of_lt h hp
theorem LZ.num {r:Rat}{k:Nat}(h:rk r k):LZ r.num (3*k):=b3C h.1
theorem LZ.den {r:Rat}{k:Nat}(h:rk r k):LZ (r.den:Int) (3*k):=b3C h.2
theorem d1P (a b:Rat):qZ (a.num*b.den+b.num*a.den) ((a.den:Int)*b.den)=a+b:=by
 unfold qZ;have h:¬ ((a.den:Int)*b.den<0):=by
  rw [← Int.natCast_mul];omega
 rw [if_neg h,← Int.natCast_mul,Int.natAbs_natCast,Rat.add_def',]
theorem d1Q (a b:Rat):qZ (a.num*b.num) ((a.den:Int)*b.den)=a*b:=by
 unfold qZ;have h:¬ ((a.den:Int)*b.den<0):=by
  rw [← Int.natCast_mul];omega
 rw [if_neg h,← Int.natCast_mul,Int.natAbs_natCast,Rat.mul_def']
theorem a4C {x y:Int}(hx:x.natAbs<10^9)(hy:y.natAbs<10^9):(x*y).natAbs<10^18:=by
 rw [Int.natAbs_mul];exact Nat.lt_of_lt_of_le (Nat.mul_lt_mul'' hx hy) (by decide)
theorem d4z (a b:Rat)(i j:Nat)(ha:rk a i)(hb:rk b j)(hij:i+j≤10000):a0b C0 35 [rR a,rR b] (rR (a+b)):=by
 refine a0c.walk w1 d3m rfl fun F=>?_
 have ta:=a5A ha (by omega);have tb:=a5A hb (by omega);have qa:=b0W a ta;have qb:=b0W b tb
 by_cases hq:qk a=true∧qk b=true
 ·obtain ⟨h1,h2⟩:=hq
  obtain ⟨n1,d1⟩:=a5X h1;obtain ⟨n2,d2⟩:=a5X h2;rw [h1,if_pos rfl,if_pos rfl] at qa;rw [h2,if_pos rfl,if_pos rfl] at qb;have p1:=a4C n1 (y:=(b.den:Int)) (by omega);have p2:=a4C n2 (y:=(a.den:Int)) (by omega);have p3:=a4C (x:=(a.den:Int)) (y:=(b.den:Int)) (by omega) (by omega);have m1:IntKind.i64.wrap (a.num*(b.den:Int))=a.num*b.den:=wI (by omega) (by omega);have m2:IntKind.i64.wrap (b.num*(a.den:Int))=b.num*a.den:=wI (by omega) (by omega);have m3:IntKind.i64.wrap (a.num*(b.den:Int)+b.num*(a.den:Int))=a.num*b.den+b.num*a.den:=wI (by omega) (by omega);have m4:IntKind.i64.wrap ((a.den:Int)*(b.den:Int))=((a.den*b.den:Nat):Int):=by rw [wI (by omega) (by omega),Int.natCast_mul]
  have p4:a.den*b.den<10^18:=by rw [← Int.natCast_mul,Int.natAbs_natCast] at p3;exact p3
  have cf:=b6c (a.num*b.den+b.num*a.den) (a.den*b.den) (by omega) (Nat.mul_pos a.den_pos b.den_pos) (by omega);rw [← Rat.add_def'] at cf;refine sR 0 ?_;refine sR 100 ?_;refine cI qa ?_;refine sR 200 ?_;refine cI qb ?_;refine OkS.seq ?_;refine sZ 300 ?_;refine gwI kT ?_;refine ifI ?_;refine sZ 400 ?_;refine nwI (ff4 m1 m2 m3 m4) ?_;refine cI cf ?_;refine rtI ?_;exact a0a rfl IsPure.out
 ·refine sR 0 ?_
  refine sR 100 ?_;refine cI qa ?_;refine sR 200 ?_;refine cI qb ?_;refine OkS.seqX (α:=Nat) (fun n=>⟨[(0,rR a),(1,rR b)],[],n⟩) (fun _=>True) ?_ ?_
  ·cases h1:qk a
   ·refine sZ 300 ?_
    refine gwI h1 ?_;refine gwI kF ?_;refine ifI ?_;refine skI ?_;exact ⟨rfl,_,trivial,wkI⟩
   ·have h2:qk b=false:=by
     cases h2:qk b
     ·rfl
     ·exact absurd ⟨h1,h2⟩ hq
    rw [h2];refine sZ 300 ?_;refine gwI h1 ?_;refine gwI kT ?_;refine ifI ?_;refine skI ?_;exact ⟨rfl,_,trivial,wkI⟩
  rintro n0 -;clear qa qb hq;have pa:=a8z (txt a) (a7D a) (a7C a) ta;have pb:=a8z (txt b) (a7D b) (a7C b) tb;rw [b1m,b5u] at pa pb;have lan:=LZ.num ha;have lad:=LZ.den ha;have lbn:=LZ.num hb;have lbd:=LZ.den hb;have da:=a.den_pos;have db:=b.den_pos;have c1:=a8Y a.num b.den (lan.few (by omega)) (lbd.few (by omega));have c2:=a8Y b.num a.den (lbn.few (by omega)) (lad.few (by omega));have c3:=d1I (a.num*b.den) (b.num*a.den) ((lan.mul lbd).few (by omega)) ((lbn.mul lad).few (by omega));have c4:=a8Y (a.den:Int) b.den (lad.few (by omega)) (lbd.few (by omega));have c5:=a9K (a.num*b.den+b.num*a.den) ((a.den:Int)*b.den) (by rw [← Int.natCast_mul];have:=Nat.mul_pos da db;omega) (((lan.mul lbd).add (lbn.mul lad)).few (by omega)) ((lad.mul lbd).few (by omega));rw [d1P] at c5;refine sR 500 ?_;refine cI pa ?_;refine sR 600 ?_;refine cI pb ?_;refine OkS.seq ?_;refine OkS.regD w1 700 [0,1,2,3,4,5,6,7,8] [9,10,11] (by kernel_rfl) ?_;refine gwI kN ?_
  first|refine a0n.same _ c1 inferInstance ?_|refine a0l.same _ c1 inferInstance ?_
  refine gwI kN ?_
  first|refine a0n.same _ c2 inferInstance ?_|refine a0l.same _ c2 inferInstance ?_
  refine gwI kN ?_
  first|refine a0n.same _ c3 inferInstance ?_|refine a0l.same _ c3 inferInstance ?_
  refine gwI kN ?_
  first|refine a0n.same _ c4 inferInstance ?_|refine a0l.same _ c4 inferInstance ?_
  refine gwI kN ?_
  first|refine a0n.same _ c5 inferInstance ?_|refine a0l.same _ c5 inferInstance ?_
  refine gwI kN ?_;refine rtI ?_;exact a0a rfl IsPure.out
theorem d2D (a b:Rat)(i j:Nat)(ha:rk a i)(hb:rk b j)(hij:i+j≤10000):a0b C0 36 [rR a,rR b] (rR (a*b)):=by
 refine a0c.walk w1 d3n rfl fun F=>?_
 have ta:=a5A ha (by omega);have tb:=a5A hb (by omega);have qa:=b0W a ta;have qb:=b0W b tb
 by_cases hq:qk a=true∧qk b=true
 ·obtain ⟨h1,h2⟩:=hq
  obtain ⟨n1,d1⟩:=a5X h1;obtain ⟨n2,d2⟩:=a5X h2;rw [h1,if_pos rfl,if_pos rfl] at qa;rw [h2,if_pos rfl,if_pos rfl] at qb;have p1:=a4C n1 (y:=b.num) n2;have p3:=a4C (x:=(a.den:Int)) (y:=(b.den:Int)) (by omega) (by omega);have m1:IntKind.i64.wrap (a.num*b.num)=a.num*b.num:=wI (by omega) (by omega);have m4:IntKind.i64.wrap ((a.den:Int)*(b.den:Int))=((a.den*b.den:Nat):Int):=by rw [wI (by omega) (by omega),Int.natCast_mul]
  have p4:a.den*b.den<10^18:=by rw [← Int.natCast_mul,Int.natAbs_natCast] at p3;exact p3
  have cf:=b6c (a.num*b.num) (a.den*b.den) (by omega) (Nat.mul_pos a.den_pos b.den_pos) (by omega);rw [← Rat.mul_def'] at cf;refine sR 0 ?_;refine sR 100 ?_;refine cI qa ?_;refine sR 200 ?_;refine cI qb ?_;refine OkS.seq ?_;refine sZ 300 ?_;refine gwI kT ?_;refine ifI ?_;refine sZ 400 ?_;refine nwI (ff2 m1 m4) ?_;refine cI cf ?_;refine rtI ?_;exact a0a rfl IsPure.out
 ·refine sR 0 ?_
  refine sR 100 ?_;refine cI qa ?_;refine sR 200 ?_;refine cI qb ?_;refine OkS.seqX (α:=Nat) (fun n=>⟨[(0,rR a),(1,rR b)],[],n⟩) (fun _=>True) ?_ ?_
  ·cases h1:qk a
   ·refine sZ 300 ?_
    refine gwI h1 ?_;refine gwI kF ?_;refine ifI ?_;refine skI ?_;exact ⟨rfl,_,trivial,wkI⟩
   ·have h2:qk b=false:=by
     cases h2:qk b
     ·rfl
     ·exact absurd ⟨h1,h2⟩ hq
    rw [h2];refine sZ 300 ?_;refine gwI h1 ?_;refine gwI kT ?_;refine ifI ?_;refine skI ?_;exact ⟨rfl,_,trivial,wkI⟩
  rintro n0 -;clear qa qb hq;have pa:=a8z (txt a) (a7D a) (a7C a) ta;have pb:=a8z (txt b) (a7D b) (a7C b) tb;rw [b1m,b5u] at pa pb;have lan:=LZ.num ha;have lad:=LZ.den ha;have lbn:=LZ.num hb;have lbd:=LZ.den hb;have da:=a.den_pos;have db:=b.den_pos;have c1:=a8Y a.num b.num (lan.few (by omega)) (lbn.few (by omega));have c4:=a8Y (a.den:Int) b.den (lad.few (by omega)) (lbd.few (by omega));have c5:=a9K (a.num*b.num) ((a.den:Int)*b.den) (by rw [← Int.natCast_mul];have:=Nat.mul_pos da db;omega) ((lan.mul lbn).few (by omega)) ((lad.mul lbd).few (by omega));rw [d1Q] at c5;refine sR 500 ?_;refine cI pa ?_;refine sR 600 ?_;refine cI pb ?_;refine OkS.seq ?_;refine OkS.regD w1 700 [0,1,2,3,4] [5,6,7] (by kernel_rfl) ?_;refine gwI kN ?_
  first|refine a0n.same _ c1 inferInstance ?_|refine a0l.same _ c1 inferInstance ?_
  refine gwI kN ?_
  first|refine a0n.same _ c4 inferInstance ?_|refine a0l.same _ c4 inferInstance ?_
  refine gwI kN ?_
  first|refine a0n.same _ c5 inferInstance ?_|refine a0l.same _ c5 inferInstance ?_
  refine gwI kN ?_;refine rtI ?_;exact a0a rfl IsPure.out
theorem d4G (a b:Rat)(i j:Nat)(ha:rk a i)(hb:rk b j)(hij:i+j≤10000):a0b C0 60 [rR a,rR b] (rR (a - b)):=by
 refine a0c.walk w1 d3C rfl fun F=>?_
 have c1:=d4j b (a5A hb (by omega));have c2:=d4z a (-b) i j ha (b9x hb) hij;rw [← Rat.sub_eq_add_neg] at c2;refine sR 0 ?_;refine sR 100 ?_;refine cI c1 ?_;refine cI c2 ?_;refine rtI ?_;exact a0a rfl IsPure.out
theorem c6E (a b:Rat):a7g (a - b)=a3x a b:=by
 unfold a7g a3x;have h1:(a - b).num<0↔a<b:=by
  have e:=Rat.lt_iff (a - b) 0;have e1:(a - b).num*((0:Rat).den:Int)<(0:Rat).num*((a - b).den:Int)↔(a - b).num<0:=by simp
  rw [← e1,← e];constructor<;>intro h<;>grind
 have h2:0<(a - b).num↔b<a:=by
  have e:=Rat.lt_iff 0 (a - b);have e1:(0:Rat).num*((a - b).den:Int)<(a - b).num*((0:Rat).den:Int)↔0<(a - b).num:=by simp
  rw [← e1,← e];constructor<;>intro h<;>grind
 by_cases h:a<b
 ·rw [if_pos h];have:=h1.2 h;omega
 ·rw [if_neg h]
  by_cases h':b<a
  ·rw [if_pos h'];have:=h2.2 h';omega
  ·rw [if_neg h']
   have:=mt h1.1 h
   have:=mt h2.1 h'
   omega
theorem d2C (a b:Rat)(i j:Nat)(ha:rk a i)(hb:rk b j)(hij:i+j<10000):a0b C0 33 [rR a,rR b] (i64 (a3x a b)):=by
 refine a0c.walk w1 d3k rfl fun F=>?_
 have c1:=d4G a b i j ha hb (by omega);have c2:=b9N (a - b) (a5A (a3G ha hb) (by omega));rw [c6E] at c2;refine sR 0 ?_;refine sR 100 ?_;refine cI c1 ?_;refine cI c2 ?_;refine rtI ?_;exact a0a rfl IsPure.out
theorem c1z (c:UInt8):a0y c=(!decide ((c.toNat:Int)<48) && !decide ((c.toNat:Int)>57)):=by
 unfold a0y;rw [Bool.eq_iff_iff,Bool.and_eq_true,Bool.and_eq_true];simp only [Bool.not_eq_true',decide_eq_false_iff_not,Nat.ble_eq];omega
theorem b1w {l:List UInt8}{i:Nat}{c:UInt8}(hc:l[i]? = some c)(h:(l.take i).all a0y=true):(l.take (i+1)).all a0y=a0y c:=by
 rw [List.take_add_one,hc,List.all_append,h];simp
theorem c7I {l:List UInt8}{i:Nat}{c:UInt8}(hc:l[i]? = some c)(h:a0y c=false):l.all a0y=false:=by
 cases ha:l.all a0y
 ·rfl
 ·have:=List.all_eq_true.1 ha c (List.mem_of_getElem? hc)
  rw [h] at this;cases this
theorem c1a (l:List UInt8)(hl:l.length≤1000000000):a0b C0 163 [str (sb l)] (boo (l.all a0y)):=by
 refine a0c.walk w1 c8I rfl fun F=>?_
 have hsz:=a0u l;refine sR 0 ?_;refine OkS.seq ?_;refine sR 100 ?_;refine OkS.block ?_;refine OkS.loop (α:=Nat × Nat) (fun p=>⟨[(0,str (sb l)),(3,i64 (p.1:Int))],[],p.2⟩) (fun p=>l.length - p.1) (fun p=>p.1≤l.length∧(l.take p.1).all a0y=true) (0,_) ⟨Nat.zero_le _,rfl⟩ wkI ?_;rintro ⟨i,n⟩ F ⟨hi,ha⟩;dsimp only at hi ha ⊢;refine OkS.seq ?_;refine sZ 200 ?_;refine nwI hsz ?_;refine ifI ?_
 (refine brI (fun hlt=>?_) (fun hlt=>?_))<;>(try simp only [Bool.not_eq_true',Bool.not_eq_false'] at hlt)<;>(try simp only [hlt])
 ·have hi2:i<l.length:=by
   have:=of_decide_eq_true hlt
   omega
  obtain ⟨c,hc⟩:∃ c,l[i]? = some c:=⟨l[i],List.getElem?_eq_getElem hi2⟩
  have hg:l.getD i 0=c:=by simp [hc]
  have wi:IntKind.i64.wrap ((i:Int)+1)=((i+1:Nat):Int):=wI (by omega) (by omega);have hid:=c1z c;have hat:=b1w hc ha;have hno:=c7I hc;refine skI ?_;refine OkS.seq ?_;refine OkS.block ?_;refine sZ 400 ?_;refine nwI (ff2 kN hg) ?_
  by_cases c1:(c.toNat:Int)<48
  ·rw [decide_eq_true c1] at hid
   have e4:=decide_eq_true c1;simp only [e4];refine gwI kT ?_;refine ifI ?_;refine sR 500 ?_;refine rtI ?_;exact a0a (by rw [hno hid]) IsPure.out
  ·rw [decide_eq_false c1] at hid
   have e4:=decide_eq_false c1;simp only [e4];refine gwI (ff3 kF kN hg) ?_
   by_cases c2:(c.toNat:Int)>57
   ·rw [decide_eq_true c2] at hid ⊢
    refine ifI ?_;refine sR 500 ?_;refine rtI ?_;exact a0a (by rw [hno hid]) IsPure.out
   ·rw [decide_eq_false c2] at hid ⊢
    refine ifI ?_;refine skI ?_;refine OkS.reg w1 300 (by kernel_rfl) ?_;refine nwI wi ?_;exact ⟨(i+1,_),⟨hi2,hat.trans hid⟩,by dsimp only;omega,wkI⟩
 ·have hi2:i=l.length:=by
   have:=of_decide_eq_false hlt
   omega
  subst hi2;rw [List.take_of_length_le (Nat.le_refl _)] at ha;refine exI ?_;refine sR 600 ?_;refine rtI ?_;exact a0a (by rw [ha]) IsPure.out
theorem b8m (c : UInt8) : (((c.toNat : Nat) : Int) == 48) = decide (c = 48) := by
  rw [Bool.eq_iff_iff, beq_iff_eq, decide_eq_true_iff, ← UInt8.toNat_inj]
  exact ⟨fun h => by have : c.toNat = 48 := by omega
                     exact this, fun h => by rw [h]; rfl⟩
theorem c3Y (l:List UInt8)(hl:l.length≤1000000000):a0b C0 88 [str (sb l)] (boo (a0W l)):=by
 refine a0c.walk w1 d3M rfl fun F=>?_
 have hsz:=a0u l;have cd:=c1a l hl;refine sR 0 ?_;refine OkS.seq ?_;refine OkS.seq ?_
 match l,hl,hsz,cd with
 | [],_,hsz,_ =>
  have e1:((((sb []).size:Nat):Int)==0)=true:=rfl;refine OkS.reg w1 100 (by kernel_rfl) ?_;refine nwI e1 ?_;refine gwI kT ?_;refine ifI ?_;refine sR 200 ?_;refine rtI ?_;exact a0a rfl IsPure.out
 | [c],hl,hsz,cd =>
  have e1:((((sb [c]).size:Nat):Int)==0)=false:=rfl;have e2:decide ((((sb [c]).size:Nat):Int)>1)=false:=rfl;have ep:a0W [c]=[c].all a0y:=by
   unfold a0W c2N
   by_cases h:c=48
   ·subst h;rfl
   ·simp [h]
  rw [ep];refine OkS.reg w1 100 (by kernel_rfl) ?_;refine nwI e1 ?_;refine gwI kF ?_;simp only [e2];refine gwI kF ?_;refine ifI ?_;refine skI ?_;refine sR 300 ?_;refine cI cd ?_;refine rtI ?_;exact a0a rfl IsPure.out
 | c::d::l,hl,hsz,cd =>
  have hs2:(sb (c::d::l)).size=l.length+2:=hsz;have e1:((((sb (c::d::l)).size:Nat):Int)==0)=false:=beq_eq_false_iff_ne.2 (by omega);have e2:decide ((((sb (c::d::l)).size:Nat):Int)>1)=true:=decide_eq_true (by omega);have e3:((((c::d::l).getD (Int.toNat 0) 0).toNat:Int)==48)=decide (c=48):=b8m c;have ep:a0W (c::d::l)=if c=48 then false else (c::d::l).all a0y:=by
   unfold a0W c2N
   by_cases h:c=48
   ·subst h;simp
   ·simp [h]
  rw [ep];refine OkS.reg w1 100 (by kernel_rfl) ?_;refine nwI e1 ?_;refine gwI (ff2 kF e2) ?_;refine gwI (ff4 kT e2 e3 kF) ?_
  by_cases h:c=48
  ·rw [decide_eq_true h,if_pos h]
   refine ifI ?_;refine sR 200 ?_;refine rtI ?_;exact a0a rfl IsPure.out
  ·rw [decide_eq_false h,if_neg h]
   refine ifI ?_;refine skI ?_;refine sR 300 ?_;refine cI cd ?_;refine rtI ?_;exact a0a rfl IsPure.out
def b1p (r:Rat):Bool:=decide (600<(Lib.decDigits r.num.natAbs).length)||decide (600<(Lib.decDigits r.den).length)
theorem b9O (l:List UInt8):a0d l=(a2i l).length:=by
 have:=a2r l
 unfold a2i;rw [List.length_take];omega
theorem a6q (l:List UInt8):a2i (a0j l)=a0L l∧a1v (a0j l)=a1v l∧a4e (a0j l)=a4e l∧decide (a2i l=[45,48])=(a1P l&&decide (a0L l=[48])):=by
 cases hb:a1P l
 ·have ed:a0j l=l:=by unfold a0j;rw [hb];rfl
  have en:a1P (a2i l)=false:=by
   unfold a2i;cases l with
   | nil=>rfl
   | cons c l =>
    cases hk:a0d (c::l) with
    | zero=>rfl
    | succ k=>exact hb
  have es:a0L l=a2i l:=by unfold a0L a0j;rw [en];rfl
  rw [ed,es];refine ⟨rfl,rfl,rfl,?_⟩;rw [Bool.false_and];refine decide_eq_false fun h=>?_
  rw [h] at en;cases en
 ·cases l with
  | nil=>cases hb
  | cons c m =>
   have hc:c=45:=by simpa [a1P] using hb
   subst hc;have ed:a0j (45::m)=m:=rfl;have e1:a0d (45::m)=a0d m+1:=by
    unfold a0d;rw [List.takeWhile_cons,if_pos (by decide),List.length_cons]
   have e2:a2i (45::m)=45::a2i m:=by unfold a2i;rw [e1,List.take_succ_cons]
   have e3:a1v (45::m)=a1v m:=by unfold a1v;rw [e1,List.drop_succ_cons]
   have e4:a4e (45::m)=a4e m:=by unfold a4e;rw [e1,List.length_cons];exact decide_eq_decide.2 (by omega)
   have e5:a0L (45::m)=a2i m:=by unfold a0L;rw [e2];rfl
   rw [ed,e2,e3,e4,e5];refine ⟨rfl,rfl,rfl,?_⟩;rw [Bool.true_and];exact decide_eq_decide.2 (by simp)
theorem a4J (l:List UInt8):a3K l=((!a0W (a0L l)||(a1P l&&decide (a0L l=[48])))||(a4e l&&(!a0W (a1v l)||decide (a1v l=[48])||decide (a1v l=[49])))):=by
 unfold a3K;rw [(a6q l).2.2.2]
theorem c1T {l:List UInt8}(h:a0W l=true):l≠[]:=(a2C h).1
theorem c4l {l:List UInt8}(h:0<l.length):(((l.getD (Int.toNat 0) 0).toNat:Int)==45)=a1P l:=by
 cases l with
 | nil=>cases h
 | cons c l=>exact a7v c l
theorem b5d (l:List UInt8)(hl:l.length≤100000):a0b C0 32 [str (sb l)] (i64 (chk l)):=by
 refine a0c.walk w1 d3j rfl fun F=>?_
 have hsz:=a0u l;obtain ⟨p1,p2,p3,-⟩:=a6q l;have hdl:(a0j l).length≤l.length:=by
  unfold a0j;split
  ·rw [List.length_drop];omega
  ·exact Nat.le_refl _
 have hbf:=a4J l;have hchk1:(!a0W (a0L l)||(a1P l&&decide (a0L l=[48])))=true→chk l=1:=fun h=>by
  unfold chk;rw [hbf,h,Bool.true_or,if_pos rfl]
 have hchk2:(a4e l&&(!a0W (a1v l)||decide (a1v l=[48])||decide (a1v l=[49])))=true→chk l=1:=fun h=>by
  unfold chk;rw [hbf,h,Bool.or_true,if_pos rfl]
 have hne:a0W (a0L l)=true→0<l.length:=fun h=>by
  cases l with
  | nil=>exact absurd rfl (c1T h)
  | cons c l=>rw [List.length_cons];omega
 refine sR 0 ?_;refine sR 100 ?_;refine OkS.seqX (α:=Nat) (fun n=>⟨[(0,str (sb l)),(3,str (sb (a0j l)))],[],n⟩) (fun _=>True) ?_ ?_
 ·rcases Nat.eq_zero_or_pos l.length with h0|h0
  ·have e0:l=[]:=List.eq_nil_of_length_eq_zero h0
   have e1:decide (((sb []).size:Int)>0)=false:=rfl;have ed:a0j l=l:=by rw [e0];rfl
   rw [ed,e0];refine sZ 200 ?_;refine nwI e1 ?_;refine gwI kF ?_;refine ifI ?_;refine skI ?_;exact ⟨rfl,_,trivial,wkI⟩
  ·have e0:decide (((sb l).size:Int)>0)=true:=decide_eq_true (by omega)
   have e1:=c4l h0;refine sZ 200 ?_;refine gwI e0 ?_;refine gwI (ff3 kT e0 e1) ?_;cases hb:a1P l
   ·have ed:a0j l=l:=by unfold a0j;rw [hb];rfl
    rw [ed];refine ifI ?_;refine skI ?_;exact ⟨rfl,_,trivial,wkI⟩
   ·have ed:a0j l=l.drop 1:=by unfold a0j;rw [hb];rfl
    have ee:(sb l).extract (Int.toNat 1) l.length=sb (a0j l):=by
     rw [a1Z,List.take_of_length_le (Nat.le_refl _),ed];rfl
    refine ifI ?_;refine OkS.reg w1 300 (by kernel_rfl) ?_;refine gwI (ff2 hsz kN) ?_;rw [ee];exact ⟨trivial,_,trivial,wkI⟩
 rintro n0 -;have cs:=b3P (a0j l) (by omega);have hle:=a2r (a0j l);have hszS:=a0u (a0j l);have hhs:a4e l=decide (a0d (a0j l)<(a0j l).length):=p3.symm;have e10:(sb (a0j l)).extract 0 (a0d (a0j l))=sb (a0L l):=by rw [← p1,a1Z,List.drop_zero];rfl
 have e11:(sb (a0j l)).extract (a0d (a0j l)+1) (a0j l).length=sb (a1v l):=by rw [← p2,a1Z,List.take_of_length_le (Nat.le_refl _)];rfl
 have hNl:a0d (a0j l)=(a0L l).length:=by rw [← p1];exact b9O _
 have hDl:(a1v l).length=(a0j l).length - (a0d (a0j l)+1):=by rw [← p2];unfold a1v;rw [List.length_drop]
 have pp:=fun h1 h2=>a8z (a0j l) h1 h2 (by omega)
 unfold d1x c8a at pp;rw [p1,p2,p3] at pp;have edef:chk l=if a3K l then 1 else if 600<(a0L l).length∨600<(a1v l).length then 4 else if a4e l=true∧Nat.gcd (dv (a0L l)) (dv (a1v l))≠1 then 1 else 0:=rfl
 rw [hbf] at edef;generalize hN:a0L l=Nn at *;generalize hD:a1v l=Dn at *;generalize hH:a4e l=hv at *;generalize hK:chk l=Kn at *;generalize a0j l=Sn at *;generalize a0d Sn=k at *;clear p1 p2 p3 hbf hN hD hH hK;have cf:=c3Y Nn (by omega);have cf2:=c3Y Dn (by omega);have q0:=a5f Nn [48];have q1:=a5f Dn [48];have q2:=a5f Dn [49];refine sR 400 ?_;refine cI cs ?_;refine OkS.seqX (α:=Nat) (fun n=>⟨[(0,str (sb l)),(3,str (sb Sn)),(4,i64 (k:Int))],[],n⟩) (fun _=>(!a0W Nn||(a1P l&&decide (Nn=[48])))=false) ?_ ?_
 ·refine sZ 500 ?_
  refine gwI (ff2 hszS kN) ?_;refine gwI e10 ?_;cases hp:a0W Nn
  ·rw [hp] at cf
   refine a0l.same _ cf inferInstance ?_;refine stI ?_;simp only [Bool.not_false];refine gwI kT ?_;refine ifI ?_;refine sR 600 ?_;refine rtI ?_;exact a0a (by rw [hchk1 (by rw [hp];rfl)];rfl) IsPure.out
  ·rw [hp] at cf
   have hl0:=hne hp;have e1:=c4l hl0;refine a0l.same _ cf inferInstance ?_;refine stI ?_;simp only [Bool.not_true];refine gwI (ff3 kF hsz e1) ?_;have q0':a1Q (sb Nn) ⟨#[48]⟩=decide (Nn=[48]):=q0;cases hb:a1P l
   ·refine gwI kF ?_
    refine ifI ?_;refine skI ?_;exact ⟨rfl,_,rfl,wkI⟩
   ·refine gwI (ff4 kT kF hszS kN) ?_
    refine gwI (ff4 kT kF e10 q0') ?_
    by_cases h0:Nn=[48]
    ·rw [decide_eq_true h0]
     refine ifI ?_;refine sR 600 ?_;refine rtI ?_;exact a0a (by rw [hchk1 (by simp [hp,hb,h0])];rfl) IsPure.out
    ·rw [decide_eq_false h0]
     refine ifI ?_;refine skI ?_;exact ⟨rfl,_,by simp,wkI⟩
 rintro n1 hb1;clear hchk1 hne cf q0;refine OkS.seqX (α:=Nat) (fun n=>⟨[(0,str (sb l)),(3,str (sb Sn)),(4,i64 (k:Int))],[],n⟩) (fun _=>(hv&&(!a0W Dn||decide (Dn=[48])||decide (Dn=[49])))=false) ?_ ?_
 ·cases hv
  ·have e40:decide ((k:Int)<(Sn.length:Int))=false:=decide_eq_false (by have:=of_decide_eq_false hhs.symm;omega)
   refine sZ 700 ?_;refine nwI (ff2 hszS e40) ?_;refine gwI kF ?_;refine ifI ?_;refine skI ?_;exact ⟨rfl,_,rfl,wkI⟩
  ·have hkl:=of_decide_eq_true hhs.symm
   have e40:decide ((k:Int)<(Sn.length:Int))=true:=decide_eq_true (by omega);have wk:IntKind.i64.wrap ((k:Int)+1)=((k+1:Nat):Int):=wI (by omega) (by omega);have q1':a1Q (sb Dn) ⟨#[48]⟩=decide (Dn=[48]):=q1;have q2':a1Q (sb Dn) ⟨#[49]⟩=decide (Dn=[49]):=q2;refine sZ 700 ?_;refine nwI (ff2 hszS e40) ?_;refine gwI (ff4 kT wk hszS kN) ?_;simp only [e11];refine gcI kT ?_;cases hp:a0W Dn
   ·rw [hp] at cf2
    refine a0l.same _ cf2 inferInstance ?_;refine gwI kB ?_;refine gwI kT ?_;refine ifI ?_;refine sR 800 ?_;refine rtI ?_;exact a0a (by rw [hchk2 (by simp [hp])];rfl) IsPure.out
   ·rw [hp] at cf2
    have e12:(sb Sn).extract (IntKind.i64.wrap ((k:Int)+1)).toNat (sb Sn).size=sb Dn:=by rw [wk,hszS,Int.toNat_natCast];exact e11
    refine a0l.same _ cf2 inferInstance ?_;refine gwI kB ?_;simp only [e12,q1']
    by_cases h48:Dn=[48]
    ·rw [decide_eq_true h48]
     refine gwI kT ?_;refine ifI ?_;refine sR 800 ?_;refine rtI ?_;exact a0a (by rw [hchk2 (by simp [h48])];rfl) IsPure.out
    ·rw [decide_eq_false h48]
     refine gwI kB ?_;simp only [e12,q2']
     by_cases h49:Dn=[49]
     ·rw [decide_eq_true h49]
      refine ifI ?_;refine sR 800 ?_;refine rtI ?_;exact a0a (by rw [hchk2 (by simp [h49])];rfl) IsPure.out
     ·rw [decide_eq_false h49]
      refine ifI ?_;refine skI ?_;exact ⟨rfl,_,by simp,wkI⟩
 rintro n2 hb2;clear hchk2 cf2 q1 q2 e10 e11 hsz;have hpN:a0W Nn=true:=by
  cases h:a0W Nn
  ·rw [h] at hb1;simp at hb1
  ·rfl
 have hpD:hv=true→a0W Dn=true:=fun h0=>by
  cases h:a0W Dn
  ·rw [h,h0] at hb2;simp at hb2
  ·rfl
 rw [hb1,hb2] at edef;rw [if_neg (by decide)] at edef;have wl1:IntKind.i64.wrap ((Sn.length:Int) - (k:Int))=(Sn.length:Int) - (k:Int):=wI (by omega) (by omega);have wl2:IntKind.i64.wrap ((Sn.length:Int) - (k:Int) - 1)=(Sn.length:Int) - (k:Int) - 1:=wI (by omega) (by omega);have e91:decide ((Sn.length:Int) - (k:Int) - 1>600)=decide (600<Dn.length):=decide_eq_decide.2 (by omega);refine OkS.seqX (α:=Nat) (fun n=>⟨[(3,str (sb Sn)),(4,i64 (k:Int))],[],n⟩) (fun _=>Nn.length≤600∧Dn.length≤600) ?_ ?_
 ·by_cases g1:600<k
  ·have e9:decide ((k:Int)>600)=true:=decide_eq_true (by omega)
   rw [if_pos (.inl (by omega))] at edef;refine sZ 900 ?_;refine nwI e9 ?_;refine gwI kT ?_;refine ifI ?_;refine sR 1000 ?_;refine rtI ?_;exact a0a (by rw [edef];rfl) IsPure.out
  ·have e9:decide ((k:Int)>600)=false:=decide_eq_false (by omega)
   refine sZ 900 ?_;refine nwI e9 ?_;refine gwI (ff5 kF hszS wl1 wl2 e91) ?_
   by_cases g2:600<Dn.length
   ·rw [if_pos (.inr g2)] at edef
    rw [decide_eq_true g2];refine ifI ?_;refine sR 1000 ?_;refine rtI ?_;exact a0a (by rw [edef];rfl) IsPure.out
   ·rw [decide_eq_false g2]
    refine ifI ?_;refine skI ?_;exact ⟨rfl,_,⟨by omega,by omega⟩,wkI⟩
 rintro n3 ⟨g1,g2⟩;rw [if_neg (by omega)] at edef;clear e91 wl1 wl2 hb1 hb2;obtain ⟨-,dN⟩:=a2C hpN;refine OkS.seqX (α:=Nat) (fun n=>⟨[],[],n⟩) (fun _=>Kn=0) ?_ ?_
 ·cases hv
  ·have e40:decide ((k:Int)<(Sn.length:Int))=false:=decide_eq_false (by have:=of_decide_eq_false hhs.symm;omega)
   rw [if_neg (by simp)] at edef;refine sZ 1100 ?_;refine nwI (ff2 hszS e40) ?_;refine ifI ?_;refine skI ?_;exact ⟨rfl,_,edef,wkI⟩
  ·have hkl:=of_decide_eq_true hhs.symm
   have e40:decide ((k:Int)<(Sn.length:Int))=true:=decide_eq_true (by omega);obtain ⟨-,dD⟩:=a2C (hpD rfl);have pa:=pp (by rw [a1E dN];exact dN) (by rw [a1E dD];exact dD);rw [if_pos rfl,b0g dN,b0g dD] at pa;have lN:(a0o (dv Nn)).length<1000000:=Nat.lt_of_le_of_lt (a0Z (Nat.lt_of_lt_of_le (a5c Nn dN) (Nat.pow_le_pow_left (by decide) Nn.length))) (by omega);have lD:(a0o (dv Dn)).length<1000000:=Nat.lt_of_le_of_lt (a0Z (Nat.lt_of_lt_of_le (a5c Dn dD) (Nat.pow_le_pow_left (by decide) Dn.length))) (by omega);have cg:a0b C0 90 [rD ((dv Nn:Int)).natAbs,rD ((dv Dn:Int)).natAbs] (.sl false 1 ((a0o (Nat.gcd (dv Nn) (dv Dn))).map a0p)):=b4h (dv Nn) (dv Dn) lN lD;have ht:=b4W (Nat.gcd (dv Nn) (dv Dn));have ed1:Nat.gcd (dv Nn) (dv Dn)≠1→Kn=1:=fun h=>by rw [if_pos ⟨rfl,h⟩] at edef;exact edef
   have ed0:Nat.gcd (dv Nn) (dv Dn)=1→Kn=0:=fun h=>by rw [if_neg (fun hh=>hh.2 h)] at edef;exact edef
   clear edef;generalize Nat.gcd (dv Nn) (dv Dn)=gg at *;refine sZ 1100 ?_;refine nwI (ff2 hszS e40) ?_;refine ifI ?_;refine sR 1200 ?_;refine cI pa ?_;refine sR 1300 ?_;refine cI cg ?_;rcases ht with ⟨t1,a,ha,t2⟩|⟨t1,t2⟩
   ·have ha':=a6T ha
    have t1n:((((a0o gg).map a0p).length:Int) != 1)=false:=by unfold bne;rw [t1];rfl
    have t2n:((a:Int) != 1) = !decide (gg=1):=by unfold bne;rw [t2]
    refine sZ 1400 ?_;refine nwI t1n ?_;refine gwI kF ?_;refine ixI kF ha' ?_;refine gwI (ff2 kF t2n) ?_
    by_cases hg1:gg=1
    ·rw [decide_eq_true hg1]
     refine ifI ?_;refine skI ?_;exact ⟨rfl,_,ed0 hg1,wkI⟩
    ·rw [decide_eq_false hg1]
     refine ifI ?_;refine sR 1500 ?_;refine rtI ?_;exact a0a (by rw [ed1 hg1];rfl) IsPure.out
   ·have edf:=ed1 t2
    have t1n:((((a0o gg).map a0p).length:Int) != 1)=true:=by unfold bne;rw [t1];rfl
    refine sZ 1400 ?_;refine nwI t1n ?_;refine gwI kT ?_;refine ifI ?_;refine sR 1500 ?_;refine rtI ?_;exact a0a (by rw [edf];rfl) IsPure.out
 rintro n4 h0;refine sR 1600 ?_;refine rtI ?_;exact a0a (by rw [h0];rfl) IsPure.out
theorem c0Y {n k:Nat}(hn:n≠0)(hk:k<10):Lib.decDigits (n*10+k)=Lib.decDigits n++[UInt8.ofNat (48+k)]:=by
 rw [Lib.decDigits,dif_neg (by omega)]
 congr 2
 ·omega
 ·congr 2;omega
theorem b4k {c:UInt8}(h:a0y c=true):UInt8.ofNat (48+(c.toNat - 48))=c:=by
 obtain ⟨h1,h2⟩:=a2n h;rw [← UInt8.toNat_inj,a7m _ (by omega)];omega
theorem c5p (l:List UInt8)(c:UInt8):dv (l++[c])=dv l*10+(c.toNat - 48):=by
 rw [a4o];simp [dv,dvF]
theorem c7Z:∀ (n:Nat) (l:List UInt8),l.length=n→l≠[]→l.all a0y=true→l.head? ≠ some 48→dv l≠0∧Lib.decDigits (dv l)=l:=fun n=>by
 induction n with
 | zero=>intro l h0 h1;exact absurd (List.eq_nil_of_length_eq_zero h0) h1
 | succ n ih =>
  intro l h0 h1 h2 h3;rcases List.eq_nil_or_concat l with rfl|⟨m,c,rfl⟩
  ·exact absurd rfl h1
  ·rw [List.concat_eq_append] at h0 h1 h2 h3 ⊢
   rw [List.all_append,Bool.and_eq_true] at h2;have hc:a0y c=true:=by simpa using h2.2
   obtain ⟨c1,c2⟩:=a2n hc;rw [c5p]
   by_cases hm:m=[]
   ·subst hm
    have hc48:c≠48:=fun h=>h3 (by rw [h];rfl)
    have hcn:c.toNat≠48:=fun h=>hc48 (UInt8.toNat_inj.1 h)
    have e0:dv []*10+(c.toNat - 48)=c.toNat - 48:=by simp [dv,dvF]
    rw [e0];refine ⟨by omega,?_⟩;rw [Lib.decDigits,dif_pos (by omega),b4k hc];rfl
   ·have hh:m.head? ≠ some 48:=by
     cases m with
     | nil=>exact absurd rfl hm
     | cons a m=>exact h3
    obtain ⟨i1,i2⟩:=ih m (by rw [List.length_append,List.length_singleton] at h0;omega) hm h2.1 hh;refine ⟨by omega,?_⟩;rw [c0Y i1 (by omega),i2,b4k hc]
theorem a8A {l:List UInt8}(h:a0W l=true):Lib.decDigits (dv l)=l∧(l≠[48]→dv l≠0):=by
 obtain ⟨h1,h2⟩:=a2C h
 by_cases h0:l=[48]
 ·subst h0
  refine ⟨?_,fun hh=>absurd rfl hh⟩;show Lib.decDigits 0=[48];rw [Lib.decDigits,dif_pos (by decide)];rfl
 ·have h3:l.head? ≠ some 48:=by
   unfold a0W at h;rw [Bool.and_eq_true,decide_eq_false h0,Bool.false_or] at h
   have:=h.2
   simpa using this
  obtain ⟨a,b⟩:=c7Z _ l rfl h1 h2 h3;exact ⟨b,fun _=>a⟩
theorem b5q:∀ {l:List UInt8},a0d l<l.length→l.drop (a0d l)=47::l.drop (a0d l+1)
 | [],h=>by cases h
 | c::l,h=>by
  by_cases hc:c=47
  ·subst hc;rfl
  ·have e1:a0d (c::l)=a0d l+1:=by
    unfold a0d;rw [List.takeWhile_cons,if_pos (by simpa using hc),List.length_cons]
   rw [e1,List.length_cons] at h;rw [e1,List.drop_succ_cons,List.drop_succ_cons];exact b5q (by omega)
def b3M (l:List UInt8):Nat:=if a4e l then dv (a1v l) else 1
def a1x (l:List UInt8):Rat:=mkRat (rv (a2i l)) (b3M l)
theorem b8C {n:Int}{d:Nat}(hd:d≠0)(h:Nat.gcd n.natAbs d=1):(mkRat n d).num=n∧(mkRat n d).den=d:=by
 obtain ⟨q1,q2⟩:=a5W (x:=n) hd;rw [h,Nat.div_one] at q1 q2;rw [b5k] at q1;exact ⟨q1,q2⟩
theorem b0x {l:List UInt8}(h:chk l=0):a3K l=false∧(a0L l).length≤600∧(a1v l).length≤600∧(a4e l=true→Nat.gcd (dv (a0L l)) (dv (a1v l))=1):=by
 unfold chk at h;cases hb:a3K l
 ·rw [hb,if_neg (by decide)] at h
  split at h
  ·cases h
  ·rename_i h1
   split at h
   ·cases h
   ·rename_i h2
    refine ⟨rfl,by omega,by omega,fun h3=>?_⟩;rcases Nat.decEq (Nat.gcd (dv (a0L l)) (dv (a1v l))) 1 with h4|h4
    ·exact absurd ⟨h3,h4⟩ h2
    ·exact h4
 ·rw [hb,if_pos rfl] at h;cases h
theorem a4m {l:List UInt8}(h:chk l=0):(a1x l).num=rv (a2i l)∧(a1x l).den=b3M l∧txt (a1x l)=l∧(rv (a2i l)).natAbs=dv (a0L l):=by
 obtain ⟨h1,h2,h3,h4⟩:=b0x h;rw [a4J] at h1;simp only [Bool.or_eq_false_iff] at h1;obtain ⟨⟨b1,b2⟩,b3⟩:=h1;have p1:a0W (a0L l)=true:=by simpa using b1
 obtain ⟨d1,d2⟩:=a8A p1;have hab:(rv (a2i l)).natAbs=dv (a0L l):=by
  show (rv (a2i l)).natAbs=dv (a0j (a2i l));unfold rv;split<;>omega
 have hdd:a4e l=true→a0W (a1v l)=true∧a1v l≠[48]∧a1v l≠[49]:=fun hs=>by
  rw [hs,Bool.true_and] at b3;simp only [Bool.or_eq_false_iff] at b3;exact ⟨by simpa using b3.1.1,of_decide_eq_false b3.1.2,of_decide_eq_false b3.2⟩
 have hd0:b3M l≠0:=by
  unfold b3M;cases hs:a4e l
  ·simp
  ·obtain ⟨e1,e2,e3⟩:=hdd hs
   simpa using (a8A e1).2 e2
 have hg:Nat.gcd (rv (a2i l)).natAbs (b3M l)=1:=by
  rw [hab];unfold b3M;cases hs:a4e l
  ·simp
  ·simpa using h4 hs
 obtain ⟨m1,m2⟩:=b8C hd0 hg;refine ⟨m1,m2,?_,hab⟩;have hi:Lib.itoa (rv (a2i l))=a2i l:=by
  cases hb:a1P (a2i l)
  ·have e1:a0L l=a2i l:=by unfold a0L a0j;rw [hb];rfl
   rw [e1] at d1;have e2:rv (a2i l)=(dv (a2i l):Int):=by unfold rv a0j;rw [hb];rfl
   rw [e2];unfold Lib.itoa;rw [if_neg (by omega)];exact d1
  ·obtain ⟨m,hm⟩:∃ m,a2i l=45::m:=by
    cases hn:a2i l with
    | nil=>rw [hn] at hb;cases hb
    | cons c m =>
     rw [hn] at hb;exact ⟨m,by rw [show c=45 by simpa [a1P] using hb]⟩
   have e1:a0L l=m:=by unfold a0L;rw [hm];rfl
   have hne:a0L l≠[48]:=fun h=>by
    have:=(a6q l).2.2.2
    rw [b2,hm] at this;have h2:=of_decide_eq_false this;rw [e1] at h;exact h2 (by rw [h])
   have hpos:=d2 hne;rw [e1] at d1 hpos;have e2:rv (a2i l) = -(dv m:Int):=by rw [hm];rfl
   rw [e2];unfold Lib.itoa;rw [if_pos (by omega),Int.natAbs_neg,Int.natAbs_natCast,d1,hm]
 unfold txt;rw [show (a1x l).num=rv (a2i l) from m1,show (a1x l).den=b3M l from m2,hi];have hle:=a2r l;cases hs:a4e l
 ·have e1:b3M l=1:=by unfold b3M;rw [hs];rfl
  have e2:=of_decide_eq_false (p:=a0d l<l.length) hs;rw [if_pos e1];unfold a2i;exact List.take_of_length_le (by omega)
 ·obtain ⟨e1,e2,e3⟩:=hdd hs
  have e4:b3M l=dv (a1v l):=by unfold b3M;rw [hs];rfl
  have e5:=(a8A e1).1;have e6:dv (a1v l)≠1:=fun h=>by
   rw [h,Lib.decDigits,dif_pos (by decide)] at e5;exact e3 e5.symm
  rw [e4,if_neg e6,e5];unfold a2i a1v;rw [← b5q (of_decide_eq_true hs),List.take_append_drop]
theorem a2W {l:List UInt8}(h:chk l=0):(a0L l).all a0y=true∧(a4e l=true→(a1v l).all a0y=true):=by
 obtain ⟨h1,-,-,-⟩:=b0x h;rw [a4J] at h1;simp only [Bool.or_eq_false_iff] at h1;obtain ⟨⟨b1,-⟩,b3⟩:=h1;refine ⟨(a2C (by simpa using b1)).2,fun hs=>?_⟩;rw [hs,Bool.true_and] at b3;simp only [Bool.or_eq_false_iff] at b3;exact (a2C (by simpa using b3.1.1)).2
theorem c7Q {l:List UInt8}(h:chk l=0):rk (a1x l) 600:=by
 obtain ⟨m1,m2,-,m4⟩:=a4m h;obtain ⟨-,h2,h3,-⟩:=b0x h;obtain ⟨p1,p2⟩:=a2W h;have hb:∀ k,(10:Nat)^k≤BB^k:=fun k=>Nat.pow_le_pow_left (by decide) k
 refine ⟨?_,?_⟩
 ·rw [m1,m4]
  exact Nat.le_trans (a0G (Nat.lt_of_lt_of_le (a5c _ p1) (hb _))) h2
 ·rw [m2]
  unfold b3M;cases hs:a4e l
  ·exact Nat.le_trans (a0G (n:=1) (k:=1) (by decide)) (by decide)
  ·exact Nat.le_trans (a0G (Nat.lt_of_lt_of_le (a5c _ (p2 hs)) (hb _))) h3
theorem a7S {l:List UInt8}(h:chk l=0):FR (a1x l) (a5N l) 600:=by
 obtain ⟨m1,m2,-,-⟩:=a4m h;refine ⟨⟨a0H _,?_,?_⟩,c7Q h⟩
 ·show (mkG (rv (a2i l))).z=_
  rw [a2B,m1]
 ·show (if a4e l then dv (a1v l) else 1)=_
  rw [m2];rfl
theorem c4a {l:List UInt8}(hl:l.length≤100000)(h:chk l=0):a0b C0 63 [str (sb l)] (a5N l).D:=c5G l hl (a2W h).1 (a2W h).2
def a3f:List Int→Int
 | []=>0
 | e::r=>if e≠0 then e else a3f r
theorem a8c {v:List Int}{i:Nat}(h:∀ (j:Nat) (e:Int),j<i→v[j]? = some e→e=0):a3f v=a3f (v.drop i):=by
 induction i generalizing v with
 | zero=>rfl
 | succ i ih =>
  cases v with
  | nil=>rfl
  | cons l r =>
   have h0:=h 0 l (Nat.succ_pos i) rfl;rw [List.drop_succ_cons];show (if l≠0 then l else a3f r)=_;rw [if_neg (fun hh=>hh h0)];exact ih fun j m hj hm=>h (j+1) m (by omega) hm
theorem b6P {a:Int}(h:a≠0):(a != 0)=true:=by
 have:(a==0)=false:=beq_eq_false_iff_ne.2 h
 unfold bne;rw [this];rfl
theorem b3q (v:List Int)(hl:v.length≤1000):a0b C0 47 [.sl true 1 (v.map fun e=>i64 e)] (i64 (a3f v)):=by
 refine a0c.walk w1 d0M rfl fun F=>?_
 have el:(((v.map fun e=>i64 e).length:Nat):Int)=(v.length:Int):=by rw [List.length_map]
 refine sR 0 ?_;refine OkS.seq ?_;refine sZ 100 ?_;refine nwI el ?_;refine OkS.block ?_;refine OkS.loop (α:=Nat × Nat) (fun p=>⟨[(5,.sl true 1 (v.map fun e=>i64 e)),(6,i64 v.length),(7,i64 (p.1:Int))],[],p.2⟩) (fun p=>v.length - p.1) (fun p=>p.1≤v.length∧∀ (j:Nat) (e:Int),j<p.1→v[j]? = some e→e=0) (0,_) ⟨Nat.zero_le _,fun j l hj=>absurd hj (Nat.not_lt_zero j)⟩ wkI ?_;rintro ⟨i,n⟩ F ⟨hi,ha⟩;dsimp only at hi ha ⊢;refine sR 200 ?_;refine OkS.seq ?_;refine ifI ?_
 (refine brI (fun hlt=>?_) (fun hlt=>?_))<;>(try simp only [Bool.not_eq_true',Bool.not_eq_false'] at hlt)<;>(try simp only [hlt])
 ·have hi2:i<v.length:=by
   have:=of_decide_eq_true hlt
   omega
  obtain ⟨l,hl'⟩:∃ l,v[i]? = some l:=⟨v[i],List.getElem?_eq_getElem hi2⟩
  have hm:(v.map fun e=>i64 e)[i]? = some (i64 l):=by rw [List.getElem?_map,hl'];rfl
  have hd:a3f v=a3f (v.drop i):=a8c ha;have hdd:v.drop i=l::v.drop (i+1):=by
   rw [List.drop_eq_getElem_cons hi2];rw [List.getElem?_eq_getElem hi2] at hl';rw [Option.some.inj hl']
  have wi:IntKind.i64.wrap ((i:Int)+1)=((i+1:Nat):Int):=wI (by omega) (by omega);refine skI ?_;refine OkS.seq ?_;refine OkS.block ?_;refine sZ 300 ?_;refine gwI kN ?_;refine ixI kT hm ?_;refine gwI kN ?_
  by_cases g:l=0
  ·have e5:(l != 0)=false:=by rw [g];rfl
   refine sZ 400 ?_;refine nwI e5 ?_;refine ifI ?_;refine skI ?_;refine OkS.reg w1 600 (by kernel_rfl) ?_;refine nwI wi ?_;refine ⟨(i+1,_),⟨hi2,fun j m hj hjm=>?_⟩,by dsimp only;omega,wkI⟩;rcases Nat.lt_or_ge j i with h|h
   ·exact ha j m h hjm
   ·have:j=i:=by dsimp only at hj;omega
    subst this;rw [hl'] at hjm;cases hjm;exact g
  ·have e5:(l != 0)=true:=b6P g
   refine sZ 400 ?_;refine nwI e5 ?_;refine ifI ?_;refine sR 500 ?_;refine rtI ?_;refine a0a ?_ IsPure.out;rw [hd,hdd];show _=i64 (if l≠0 then l else a3f (v.drop (i+1)));rw [if_pos g]
 ·have hi2:i=v.length:=by
   have:=of_decide_eq_false hlt
   omega
  subst hi2;refine exI ?_;refine sR 700 ?_;refine rtI ?_;refine a0a ?_ IsPure.out;rw [a8c ha,List.drop_of_length_le (Nat.le_refl _)];rfl
structure c4P where
 name:List UInt8
 tol:List UInt8
 kind:List UInt8
 step:List UInt8
 deriving Inhabited
def c4P.D (f:c4P):D:=.agg [str (sb f.name),str (sb f.tol),str (sb f.kind),str (sb f.step)]
instance  (f:c4P):CellsPure f.D:=by unfold c4P.D;exact inferInstance
instance  (f:c4P):IsPure f.D:=by unfold c4P.D;exact inferInstance
theorem a7B (a b:List UInt8):a1Q (sb a) (sb b)=decide (a=b):=by
 unfold a1Q
 by_cases h:a=b
 ·subst h;simp
 ·rw [decide_eq_false h]
  apply beq_eq_false_iff_ne.2;intro hh;apply h;simpa [sb] using hh
def b6v (f:Nat→Nat):Nat→Nat
 | 0=>0
 | n+1=>if b6v f n≠0 then b6v f n else f n
theorem a5O {f:Nat→Nat}{n:Nat}(h:∀ j,j<n→f j=0):b6v f n=0:=by
 induction n with
 | zero=>rfl
 | succ n ih =>
  have:=ih fun j hj=>h j (by omega)
  unfold b6v;rw [if_neg (fun hh=>hh this)];exact h n (by omega)
theorem b8b {f:Nat→Nat}{i n:Nat}(h:∀ j,j<i→f j=0)(hi:i<n)(h0:f i≠0):b6v f n=f i:=by
 induction n with
 | zero=>omega
 | succ n ih =>
  unfold b6v;rcases Nat.lt_or_ge i n with hlt|hge
  ·have:=ih hlt
   rw [if_pos (by rw [this];exact h0),this]
  ·have:i=n:=by omega
   subst this;rw [if_neg (fun hh=>hh (a5O h))]
theorem c1q {f:Nat→Nat}{n:Nat}(h:b6v f n=0):∀ j,j<n→f j=0:=by
 induction n with
 | zero=>intro j hj;omega
 | succ n ih =>
  unfold b6v at h
  by_cases h0:b6v f n=0
  ·rw [if_neg (fun hh=>hh h0)] at h
   intro j hj;rcases Nat.lt_or_ge j n with hl|hg
   ·exact ih h0 j hl
   ·have:j=n:=by omega
    subst this;exact h
  ·rw [if_pos h0] at h
   exact absurd h h0
structure c4Q where
 name:List UInt8
 least:List (List UInt8)
 most:List (List UInt8)
 deriving Inhabited
def c4Q.D (g:c4Q):D:=.agg [str (sb g.name),.sl false 1 (g.least.map fun l=>str (sb l)),.sl false 1 (g.most.map fun l=>str (sb l))]
instance  (g:c4Q):CellsPure g.D:=by unfold c4Q.D;exact inferInstance
instance  (g:c4Q):IsPure g.D:=by unfold c4Q.D;exact inferInstance
def lv (l:List (List UInt8))(k:Nat):List UInt8:=l.getD k []
def c7K (gs:List c4Q)(i k:Nat):Option (List UInt8 × List UInt8):=if i=0 then none else some (lv (gs.getD (i - 1) default).least k,lv (gs.getD (i - 1) default).most k)
theorem b0v {α:Type}{l:List α}{p:α→Bool}{i:Nat}(h:∀ (j:Nat) (x:α),j<i→l[j]? = some x→p x=false):(l.take i).any p=false:=by
 rw [List.any_eq_false];intro x hx;obtain ⟨j,hj,e⟩:=List.mem_iff_getElem.1 hx;have hj2:j<i:=by rw [List.length_take] at hj;omega
 have:l[j]? = some x:=by
  rw [← e,List.getElem_take];exact List.getElem?_eq_getElem _
 rw [h j x hj2 this];simp
def c5x {α:Type}(p:α→Bool)(l:List α):Int:=if l.any p then (l.findIdx p:Int) else -1
theorem c5y {α:Type}{p:α→Bool}{l:List α}{i:Nat}{x:α}(hx:l[i]? = some x)(h:p x=true)(ha:∀ (j:Nat) (y:α),j<i→l[j]? = some y→p y=false):c5x p l=i:=by
 unfold c5x;obtain ⟨hi,e⟩:=List.getElem?_eq_some_iff.1 hx;rw [if_pos (List.any_eq_true.2 ⟨x,List.mem_of_getElem? hx,h⟩)]
 have:l.findIdx p=i:=(List.findIdx_eq hi).2 ⟨by rw [e];exact h,fun j hj=>ha j _ hj (List.getElem?_eq_getElem _)⟩
 rw [this]
theorem b7J {α:Type}{p:α→Bool}{l:List α}(ha:∀ (j:Nat) (y:α),j<l.length→l[j]? = some y→p y=false):c5x p l = -1:=by
 unfold c5x
 have:=b0v (l:=l) (p:=p) (i:=l.length) ha
 rw [List.take_length] at this;rw [this];rfl
theorem c5z {α:Type}(p:α→Bool)(l:List α):decide (c5x p l≥0)=l.any p:=by
 unfold c5x;cases l.any p
 ·rfl
 ·exact decide_eq_true (by simp)
set_option maxHeartbeats 4000000
theorem c7T (a b:Rat):decide (a3x a b>0)=decide (a3x b a<0):=decide_eq_decide.2 (by
 unfold a3x
 by_cases h1:a<b
 ·have h2:¬ b<a:=by grind
  rw [if_pos h1,if_neg h2,if_pos h1];decide
 ·by_cases h2:b<a
  ·rw [if_neg h1,if_pos h2,if_pos h2];decide
  ·rw [if_neg h1,if_neg h2,if_neg h2,if_neg h1])
theorem c0D {α:Type}{l:List α}{p:α→Bool}{k:Nat}{x:α}(hx:l[k]? = some x)(h:(l.take k).all p=true)(hp:p x=true):(l.take (k+1)).all p=true:=by
 rw [List.take_add_one,hx,List.all_append,h];simp [hp]
open Go.ChangeShapes Go.WideShapes
def stF (P:Program)(t:Nat):Option (List (Nat × Nat × Nat)):=match P.underlying t with
 | some (.struct fs)=>some (fs.toList.map fun f=>(f.type,f.offset,P.cellsOf f.type))
 | _=>none
section
variable {H:Type} {enc:TypeId × Value→H} {W:World} {fuel:Nat} {cs:List Value} {x:DataW H × List MemPlace} {t:TypeId}
theorem d4B {l:List (Nat × Nat × Nat)}{m:Nat}(hs:stF Tryz.prog t=some l)(hm:Tryz.prog.cellsOf t=m)(h:DataW.trod enc Tryz.prog W 0 (fun _=>true) true fuel t cs=some x) :
  cs.length=m∧∃ n,∀ (i u off k:Nat),l[i]? = some (u,off,k)→∃ y,DataW.trod enc Tryz.prog W 0 (fun _=>true) true n u ((cs.drop off).take k)=some y:=by
 unfold stF at hs;split at hs
 ·rename_i fs hu
  obtain ⟨h1,n,h2⟩:=b9n hu h;refine ⟨h1.trans hm,n,fun i u off k hl=>?_⟩;obtain rfl:=Option.some.inj hs;rw [List.getElem?_map] at hl;obtain ⟨f,hf,he⟩:=Option.map_eq_some_iff.1 hl;cases he;exact h2 i f (by rw [← Array.getElem?_toList];exact hf)
 ·cases hs
theorem c4t {a b c:Nat}{p q:List D}(h:a9i W ((cs.drop a).take b) p)(k:a9i W ((cs.drop (a+b)).take c) q):a9i W ((cs.drop a).take (b+c)) (p++q):=by
 rw [List.take_add,List.drop_drop];exact h.append k
theorem d1U {n:Nat}{p:List D}(hn:cs.length=n)(h:a9i W ((cs.drop 0).take n) p):a9i W cs p:=by
 rw [List.drop_zero,← hn,List.take_length] at h;exact h
theorem c4u (h:DataW.trod enc Tryz.prog W 0 (fun _=>true) true fuel 44 cs=some x):∃ l:List UInt8,a9i W cs (str (sb l)).cells∧l.length≤maxLen:=d1X (by kernel_rfl) h
end
theorem ltT {i n:Nat}(h:i<n):decide ((i:Int)<(n:Int))=true:=decide_eq_true (by omega)
theorem ltF {i n:Nat}(h:n≤i):decide ((i:Int)<(n:Int))=false:=decide_eq_false (by omega)
theorem wiI {i:Nat}(h:i<9223372036854775807):IntKind.i64.wrap ((i:Int)+1)=((i+1:Nat):Int):=wI (by omega) (by omega)
theorem a1T {α:Type}{l:List α}{i:Nat}(h:i<l.length):∃ x,l[i]? = some x:=⟨l[i],List.getElem?_eq_getElem h⟩
instance  (l:List UInt8):CellsPure (a5N l).D:=by unfold GF.D;exact inferInstance
theorem c5c {a:Nat}(h:a≠0):(((a:Nat):Int) != 0)=true:=b6P (by omega)
theorem c7k {a:Nat}(h:a=0):(((a:Nat):Int) != 0)=false:=by subst h;rfl
theorem c7L {a:Nat}(h:a≠0):(((a:Nat):Int)==0)=false:=beq_eq_false_iff_ne.2 (by omega)
theorem d2O {a:Nat}(h:a=0):(((a:Nat):Int)==0)=true:=by subst h;rfl
theorem b8d {H Hf:Hp}{K g T sz:Nat}{l:List D}(h:l=[]∨Hp.get H K=some ⟨K,g,T,sz,l⟩)(hf:Hp.get Hf K=none):Fz H Hf (a7a K g sz l) (.sl false sz l):=by
 cases l with
 | nil=>exact .nil sz
 | cons x l =>
  rcases h with h|h
  ·cases h
  refine .osl (e:=⟨K,g,T,sz,x::l⟩) h hf rfl rfl (by simp) (by simp) (fun j d d' h1 h2=>?_) fun j d d' q c c' h1 h2 h3 h4=>?_
  ·rw [Nat.zero_add] at h1;rw [h1] at h2;cases h2;rfl
  ·rw [Nat.zero_add] at h1;rw [h1] at h2;cases h2;rw [h3] at h4;cases h4;exact Fz.refl _
theorem c5I {H Hf r r':Hp}{K g T sz:Nat}{l:List D}(h:FzH H Hf r r'):FzH H Hf (a6g K g T sz l++r) r':=by
 cases l with
 | nil=>exact h
 | cons x l=>exact .drop h
theorem c5L {K g T sz:Nat}{l:List D}{H:Hp}:l=[]∨Hp.get (a6g K g T sz l++H) K=some ⟨K,g,T,sz,l⟩:=by
 cases l with
 | nil=>exact .inl rfl
 | cons x l=>right;simp [a6g,Hp.get]
theorem a6u {H Hf:Hp}{a a' b:D}(h:Fz H Hf a a'):Fz H Hf (.tup [a,b]) (.tup [a',b]):=.tup rfl fun i d d' h1 h2=>by
 rcases i with _|_|i
 ·cases h1;cases h2;exact h
 ·cases h1;cases h2;exact .refl _
 ·simp at h1
section
variable {H:Type} {enc:TypeId × Value→H} {W:World} {fuel:Nat} {cs:List Value} {x:DataW H × List MemPlace} {t:TypeId}
theorem d1V (h:DataW.trod enc Tryz.prog W 0 (fun _=>true) true fuel 3 cs=some x):∃ z:Int,a9i W cs [i64 z]:=by
 obtain ⟨z,_,_,h⟩:=d1W (by kernel_rfl) h;exact ⟨z,h⟩
end
theorem d4I {P:Program}{W:World}{t e base:Nat}{v:Value}(hu:P.underlying t=some (.slice e))(h:Value.okWide P W .any base t v):∃ a l c,v=.slice a l c:=by
 unfold Value.okWide at h;rw [hu] at h;dsimp only at h;unfold Cell.okWide at h;rw [hu] at h;cases v<;>first|exact ⟨_,_,_,rfl⟩|(dsimp only at h;unfold Cell.ok at h;rw [hu] at h;exact h.elim)
theorem a9i.val1 {W:World}{v:Value}{d:D}(h:a9i W [v] [d]):Rep nol (fun _=>False) W d v:=(h.cell 0 v d rfl rfl).2
def nb (r:Rat)(n d:Nat):Prop:=r.num.natAbs≤n∧r.den≤d
theorem nb.mono {r:Rat}{n d n' d':Nat}(h:nb r n d)(h1:n≤n')(h2:d≤d'):nb r n' d':=⟨Nat.le_trans h.1 h1,Nat.le_trans h.2 h2⟩
theorem c6f:nb 0 0 1:=⟨by decide,by decide⟩
def d4S:Nat:=(10^100)^6
theorem b8H {r:Rat}{n d:Nat}(h:nb r n d)(h1:n<d4S)(h2:d<d4S):b1p r=false:=by
 unfold b1p;have key:∀ a b k m,a*b=k+1→m<(10^a)^b→(Lib.decDigits m).length≤k+1:=fun a b k m hk h=>a0R k m (by rw [← hk,Nat.pow_mul];exact h)
 have l1:=key 100 6 599 r.num.natAbs rfl (Nat.lt_of_le_of_lt h.1 h1);have l2:=key 100 6 599 r.den rfl (Nat.lt_of_le_of_lt h.2 h2);rw [decide_eq_false (by omega),decide_eq_false (by omega)];rfl
def E40:Nat:=10^40
theorem c6e {l:List UInt8}(h:chk l=0)(hl:l.length≤40):nb (a1x l) E40 E40:=by
 obtain ⟨m1,m2,m3,m4⟩:=a4m h;obtain ⟨p1,p2⟩:=a2W h;have hs1:(a0L l).length≤40:=by
  have:(a0L l).length≤l.length:=by
   unfold a0L;have a1:(a0j (a2i l)).length≤(a2i l).length:=by unfold a0j;split<;>simp
   have a2:(a2i l).length≤l.length:=by unfold a2i;rw [List.length_take];omega
   omega
  omega
 have hb:∀ k,k≤40→(10:Nat)^k≤E40:=fun k hk=>Nat.pow_le_pow_right (by decide) hk
 refine ⟨?_,?_⟩
 ·rw [m1,m4]
  exact Nat.le_trans (Nat.le_of_lt (a5c _ p1)) (hb _ hs1)
 ·rw [m2]
  unfold b3M;cases hs:a4e l
  ·exact (by decide:1≤E40)
  ·have hs2:(a1v l).length≤40:=by
    have:(a1v l).length≤l.length:=by unfold a1v;simp
    omega
   exact Nat.le_trans (Nat.le_of_lt (a5c _ (p2 hs))) (hb _ hs2)
theorem d1t {r:Rat}{n d k:Nat}(h:nb r n d)(h1:n<BB^k)(h2:d<BB^k):rk r k :=
 ⟨a0G (Nat.lt_of_le_of_lt h.1 h1),a0G (Nat.lt_of_le_of_lt h.2 h2)⟩
theorem rk3 {l:List UInt8}(h:chk l=0)(hl:l.length≤40):rk (a1x l) 3:=d1t (c6e h hl) (by decide) (by decide)
theorem c7g (k:Nat)(hk:1≤k):FR 0 ⟨mkG 0,1⟩ k:=⟨⟨a0H _,by rw [a2B];rfl,rfl⟩,by
 refine rk.mono (k:=1) ?_ hk;exact ⟨a0G (k:=1) (by decide),a0G (k:=1) (by decide)⟩⟩
set_option maxHeartbeats 1000000
set_option maxRecDepth 100000
theorem d4e {n:Nat}(h:1≤n):liesAt Tryz.prog Tryz.prog.depth 269 n 0 269 1=true:=by
 have hs:sameLayout Tryz.prog Tryz.prog.depth 269 269=true:=by kernel_rfl
 have hc:Tryz.prog.cellsOf 269=2:=by kernel_rfl
 obtain ⟨d,hd⟩:∃ d,Tryz.prog.depth=d+1:=⟨Tryz.prog.depth - 1,by kernel_rfl⟩
 rw [hd] at hs ⊢;unfold liesAt;rw [hd];unfold rowAt;simp [hc,hs,h]
theorem c5d (b c:Nat)(hc:2≤c)(w:World)(h0:w.cell? ⟨b,0,none⟩=some (.pointer none))(hsh:w.shape? b=some (269,c))(hfz:w.frozen? ⟨b,0,none⟩=false) :
  Calls Tryz.prog 242 #[.pointer (some ⟨b,0,none⟩)] w fun e w'=>e=.returned (.tuple #[])∧w'=w.setCell ⟨b,0,none⟩ (.pointer (some ⟨b,0,none⟩)):=by
 obtain ⟨j,hj,hjs⟩:=Option.map_eq_some_iff.1 (show (Tryz.prog.info? 269).map (·.size)=some 2 by kernel_rfl);have hl:liesAt Tryz.prog Tryz.prog.depth 269 (c / Tryz.prog.cellsOf 269) 0 269 1=true:=d4e (by rw [show Tryz.prog.cellsOf 269=2 by kernel_rfl];omega)
 go_enter Tryz.func242,Tryz.ntmps242
 go_wp2
 rw [Lib.run_to_unsafe w ⟨b,0,none⟩ (t:=269) (by kernel_rfl) (by kernel_rfl) hj (by rw [hjs];decide) hsh (by show 0<c;omega)];simp only [Result.andThen];rw [Oper.upon_value]
 go_wp2
 rw [run_callFunc_extern Tryz.func265 (by kernel_rfl) (by kernel_rfl) (by kernel_rfl) (e:=Extern.AbiNoEscape.same) (by kernel_rfl)];rw [Lib.run_noEscape];simp only [Result.andThen];rw [Oper.upon_value]
 go_wp2
 rw [Lib.run_from_unsafe w ⟨b,0,none⟩ (u:=269) (by kernel_rfl) (by kernel_rfl) hj hsh hl];simp only [Result.andThen];rw [Oper.upon_value]
 go_wp2
 go_end0
 exact ⟨rfl,rfl⟩
theorem c7O (b:Nat)(w:World)(h0:w.cell? ⟨b,0,none⟩=some (.pointer (some ⟨b,0,none⟩))) :
  Calls Tryz.prog 242 #[.pointer (some ⟨b,0,none⟩)] w fun e w'=>e=.returned (.tuple #[])∧w'=w:=by
 obtain ⟨j,hj,hjs⟩:=Option.map_eq_some_iff.1 (show (Tryz.prog.info? 269).map (·.size)=some 2 by kernel_rfl)
 go_enter Tryz.func242,Tryz.ntmps242
 go_wp2
 rw [Lib.run_neq_ptr_same w _ (te:=269) (by kernel_rfl) hj]
 go_wp2
 go_end0
 exact ⟨rfl,rfl⟩
theorem d5v (b g:Nat)(cur cs:Array Value)(l:List UInt8)(h0:l≠[])(w:World)(hb:w.heap[b]? = some (.cells cs 269 (0,0)))(hb1:cs[1]? = some (.slice (some ⟨g,0,none⟩) l.length cur.size))
  (hg:w.heap[g]? = some (.cells cur 5 (0,0))) (hl:l.length≤cur.size) (hcap:cur.size≤maxLen) (hcell:∀ (j:Nat) (x:UInt8),l[j]? = some x→cur[j]? = some (.int .u8 x.toNat)) :
  Calls Tryz.prog 189 #[.pointer (some ⟨b,0,none⟩)] w fun e w'=>e=.returned (.string ⟨l.toArray⟩)∧w'=(w.drew.freeze ⟨g,0,none⟩ l.length):=by
 have c1:w.drew.cell? ⟨b,1,none⟩=some (.slice (some ⟨g,0,none⟩) l.length cur.size):=by
  have:w.drew.heap[b]? = some (.cells cs 269 (0,0)):=hb
  rw [Lib.cell_of_heap this];exact hb1
 have h0':l.length≠0:=by simpa using h0
 have hSD:(Builtin.unsafeSliceData_ #[267] 317 #[.slice (some ⟨g,0,none⟩) l.length cur.size]).run Tryz.prog w.drew=.ok (.pointer (some ⟨g,0,none⟩)) w.drew :=
  Lib.run_unsafeSliceData_row _ _ _ _ _ _ (by omega)
 have hUS:(Builtin.unsafeString_ #[317,3] 9 #[.pointer (some ⟨g,0,none⟩),.int .i64 l.length]).run Tryz.prog w.drew=.ok (.string ⟨l.toArray⟩) (w.drew.freeze ⟨g,0,none⟩ l.length):=by
  refine Lib.run_unsafeString_row w.drew 317 3 9 5 (by kernel_rfl) (by kernel_rfl) g cur.size (by have hg':w.drew.heap[g]? = some (.cells cur 5 (0,0)):=hg;simp [World.shape?,hg']) l h0 (by omega) (by unfold maxLen at hcap;omega) ?_;intro j x hx;have hg':w.drew.heap[g]? = some (.cells cur 5 (0,0)):=hg
  have:=hcell j x hx
  rw [Addr.add_lit];simp [World.cell?,hg',this]
 have mixed:Tryz.prog.follows .mixedOrders=true:=by kernel_rfl
 go_enter Tryz.func189,Tryz.ntmps189
 go_wp2
 go_region_o
 all_goals (go_wp2;go_ret;exact ⟨rfl,rfl⟩)
def a5b (l:List UInt8):List D:=l.map fun b=>.prim (.int .u8 (b.toNat:Int))
abbrev b1x (g:Nat)(p x:D):Ent:=⟨1500,g,269,2,[.agg [p,x]]⟩
theorem d4T {vs:Array Value}(h:vs.size=1):vs = #[vs.getD 0 undef]:=by
 match vs,h with
 | ⟨[u]⟩,_=>rfl
theorem d4U (g n:Nat)(x p:D)(H1 H2:Hp)(hp:p=.prim (.pointer none)∨p=.optr 1500 g 2 0 0) :
  a0m C0 242 [.optr 1500 g 2 0 0] (H1++b1x g p x::H2) n (fun d H' n'=>d=.prim (.tuple #[])∧H'=H1++b1x g (.optr 1500 g 2 0 0) x::H2∧n'=n):=by
 refine ⟨⟨_,_,Tryz.func242,rfl,by kernel_rfl⟩,fun F ρ w vs m fr hgn hvs hr=>?_⟩;have h0:=hr 0 _ rfl;rw [d4T hvs];generalize hv:vs.getD 0 undef=v at h0;cases h0 with
 | optr hρ =>
  rename_i b;have he:b1x g p x∈H1++b1x g p x::H2:=by simp
  obtain ⟨cs,hc,q⟩:=m.at he hρ;have hlen:2≤cs.size:=q.len;have hr0:Rep ρ (Own F.X ρ (H1++b1x g p x::H2)) w p (cs.getD 0 undef):=q.rep 0 _ 0 p rfl rfl;have hr1:Rep ρ (Own F.X ρ (H1++b1x g p x::H2)) w x (cs.getD 1 undef):=q.rep 0 _ 1 x rfl rfl;have hcell:w.cell? ⟨b,0,none⟩=some (cs.getD 0 undef):=by
   simp [World.cell?,hc,Array.getD,show 0<cs.size by omega]
  rcases hp with rfl|rfl
  ·cases hr0':cs.getD 0 undef with
   | pointer a =>
    rw [hr0'] at hr0 hcell;cases hr0;refine (c5d b cs.size hlen w hcell (by simp [World.shape?,hc]) (by simp [World.frozen?,hc])).mono ?_;rintro e w' ⟨rfl,rfl⟩;have hset:w.setCell ⟨b,0,none⟩ (.pointer (some ⟨b,0,none⟩))=World.setBlk w b (cs.setIfInBounds 0 (.pointer (some ⟨b,0,none⟩))) 269:=by
     rw [setCell_eq_setRow w b 0 cs 269 (0,0) _ hc];exact a8O hc
    have hop:Rep ρ (Own F.X ρ (H1++b1x g (.prim (.pointer none)) x::H2)) w (.optr 1500 g 2 0 0) (.pointer (some ⟨b,0*2+0,none⟩)):=.optr hρ;have ho:a2j ρ (Own F.X ρ (H1++b1x g (.prim (.pointer none)) x::H2)) w (b1x g (.optr 1500 g 2 0 0) x) (cs.setIfInBounds 0 (.pointer (some ⟨b,0,none⟩))):=by
     refine ⟨by rw [Array.size_setIfInBounds];exact q.len,fun i d hd=>?_,fun i v hv=>?_,fun i d j c hd hj=>?_⟩
     ·rcases i with _|i
      ·cases hd;rfl
      ·simp at hd
     ·rw [Array.getElem?_setIfInBounds] at hv
      split at hv
      ·split at hv
       ·cases hv;rfl
       ·cases hv
      ·exact q.one i v hv
     ·rcases i with _|i
      ·cases hd
       rcases j with _|_|j
       ·cases hj
        have:(cs.setIfInBounds 0 (.pointer (some ⟨b,0,none⟩))).getD (0*2+0) undef=.pointer (some ⟨b,0*2+0,none⟩):=by
         simp [Array.getD_eq_getD_getElem?,show 0<cs.size by omega]
        rw [this];exact hop
       ·cases hj
        have:(cs.setIfInBounds 0 (.pointer (some ⟨b,0,none⟩))).getD (0*2+1) undef=cs.getD 1 undef:=by
         simp [Array.getD_eq_getD_getElem?]
        rw [this];exact hr1
       ·simp [D.cells] at hj
      ·simp at hd
    obtain ⟨m1,x1⟩:=m.write (e':=b1x g (.optr 1500 g 2 0 0) x) hρ hc rfl rfl rfl (Array.size_setIfInBounds ..) ho;rw [hset];exact ⟨_,_,_,n,ρ,rfl,⟨rfl,rfl,rfl⟩,m1,x1,fr,fun e' he'=>by
     rcases List.mem_append.1 he' with h|h
     ·exact hgn e' (by simp [h])
     ·rcases List.mem_cons.1 h with rfl|h
      ·exact hgn (b1x g (.prim (.pointer none)) x) he
      ·exact hgn e' (by simp [h]),.prim _⟩
   | _=>rw [hr0'] at hr0;cases hr0
  ·cases hr0':cs.getD 0 undef with
   | pointer a =>
    rw [hr0'] at hr0 hcell;cases hr0 with
    | optr hρ2 =>
     rw [hρ] at hρ2;cases hρ2;refine (c7O b w hcell).mono ?_;rintro e w' ⟨rfl,rfl⟩;exact ⟨_,_,_,n,ρ,rfl,⟨rfl,rfl,rfl⟩,m,Ext.refl _ _ _,fr,hgn,.prim _⟩
   | _=>rw [hr0'] at hr0;cases hr0
theorem b1S (w:World)(g n:Nat)(hn:n≠0)(cur:Array Value)(T:Nat)(hg:w.heap[g]? = some (.cells cur T (0,0))) :
  (w.freeze ⟨g,0,none⟩ n).heap.size=w.heap.size∧(w.freeze ⟨g,0,none⟩ n).os=w.os∧(w.freeze ⟨g,0,none⟩ n).tape=w.tape∧(w.freeze ⟨g,0,none⟩ n).output=w.output ∧
  (∀ k,k≠g→(w.freeze ⟨g,0,none⟩ n).heap[k]? = w.heap[k]?)∧∃ (cs':Array Value) (fz':Nat × Nat),(w.freeze ⟨g,0,none⟩ n).heap[g]? = some (.cells cs' T fz')∧cs'.size=cur.size:=by
 unfold World.freeze;rw [if_neg hn];refine ⟨by simp,rfl,rfl,rfl,fun k hk=>?_,?_⟩
 ·dsimp only
  rw [Array.getElem?_modify,if_neg (fun h=>hk h.symm)]
 ·dsimp only
  rw [Array.getElem?_modify,if_pos rfl,hg];exact ⟨cur,_,rfl,rfl⟩
theorem d4J (g gb n:Nat)(l:List UInt8)(h0:l≠[])(p:D)(R:Hp) :
  a0m C0 189 [.optr 1500 g 2 0 0] (⟨206,gb,5,1,a5b l⟩::b1x g p (.osl 206 gb 1 0 l.length)::R) n (fun d H' n'=>d=str ⟨l.toArray⟩∧H'=b1x g p (.osl 206 gb 1 0 l.length)::R∧n'=n):=by
 refine ⟨⟨_,_,Tryz.func189,rfl,by kernel_rfl⟩,fun F ρ w vs m fr hgn hvs hr=>?_⟩;have hz:=hr 0 _ rfl;have h0':l.length≠0:=by simpa using h0
 rw [d4T hvs];generalize hv:vs.getD 0 undef=v at hz;cases hz with
 | optr hρ =>
  rename_i b;obtain ⟨cs,hc,q⟩:=m.at (e:=b1x g p (.osl 206 gb 1 0 l.length)) (by simp) hρ;have hlen:2≤cs.size:=q.len;have hr1:Rep ρ (Own F.X ρ (⟨206,gb,5,1,a5b l⟩::b1x g p (.osl 206 gb 1 0 l.length)::R)) w (.osl 206 gb 1 0 l.length) (cs.getD 1 undef):=q.rep 0 _ 1 (.osl 206 gb 1 0 l.length) rfl rfl;generalize hs1:cs.getD 1 undef=sv at hr1;generalize hL:l.length=L at hr1;cases hr1 with
   | onil=>exact absurd hL h0'
   | osl hρ2 hb2 hc2 hs2 hm2 =>
    rename_i cap gy T' cs2 fz2;obtain ⟨cur,hcur,qy⟩:=m.at (e:=⟨206,gb,5,1,a5b l⟩) (by simp) hρ2;rw [hb2] at hcur;cases hcur;have hcap:cap=cs2.size:=by omega
    subst hcap;have hcell:∀ (j:Nat) (x:UInt8),l[j]? = some x→cs2[j]? = some (.int .u8 x.toNat):=fun j x hx=>by
     have hr:=qy.rep j (.prim (.int .u8 (x.toNat:Int))) 0 (.prim (.int .u8 (x.toNat:Int))) (by unfold a5b;rw [List.getElem?_map,hx];rfl) rfl;have hlt:j<cs2.size:=by
      have:=(List.getElem?_eq_some_iff.1 hx).1
      omega
     generalize hvv:cs2.getD (j*1+0) undef=vv at hr;cases hr;rw [Array.getElem?_eq_getElem hlt]
     have:cs2.getD j undef=cs2[j]:=by simp [Array.getD,hlt]
     rw [Nat.mul_one,Nat.add_zero,this] at hvv;rw [hvv]
    have hb1:cs[1]? = some (.slice (some ⟨gy,0,none⟩) l.length cs2.size):=by
     have hlt:1<cs.size:=by omega
     rw [Array.getElem?_eq_getElem hlt]
     have:cs.getD 1 undef=cs[1]:=by simp [Array.getD,hlt]
     rw [this] at hs1;rw [hs1,hL,Nat.zero_mul]
    refine (d5v b gy cs2 cs l h0 w hc hb1 hb2 (by omega) (by omega) hcell).mono ?_;rintro e w' ⟨rfl,rfl⟩;have md:=m.drew;obtain ⟨f1,f2,f3,f4,f5,cs',fz',f6,f7⟩:=b1S w.drew gy l.length h0' cs2 5 hb2;obtain ⟨m1,x1⟩:=Mem.letGo (H1:=[]) (H2:=b1x g p (.osl 206 gb 1 0 l.length)::R) (w':=w.drew.freeze ⟨gy,0,none⟩ l.length) md hρ2 f1 f2 f3 f4 f5 (fun c hcc=>by
     have hb2':w.drew.heap[gy]? = some (.cells cs2 5 (0,0)):=hb2;have hcc':w.drew.heap[gy]? = some (.cells c 5 (0,0)):=hcc;rw [hb2'] at hcc';cases hcc';exact ⟨cs',fz',f6,f7⟩)
    rw [hL];rw [hL] at m1 x1;exact ⟨_,_,_,n,ρ,rfl,⟨rfl,rfl,rfl⟩,m1,(Ext.drew _ _ _).trans x1,fr,fun e' he'=>hgn e' (by rw [hL];exact List.mem_cons_of_mem _ he'),.prim _⟩
set_option maxRecDepth 20000
set_option maxHeartbeats 4000000
def bH (gb g:Nat)(p:D)(L:List UInt8)(R:Hp):Hp:=a6g 206 gb 5 1 (a5b L)++(b1x g p (a7a 206 gb 1 (a5b L))::R)
theorem b6S (s:List UInt8):a4k (sb s)=a5b s:=rfl
theorem a4j (l:List UInt8):(a5b l).length=l.length:=List.length_map ..
theorem b6R (a b:List UInt8):a5b (a++b)=a5b a++a5b b:=List.map_append
theorem b4d {l:List UInt8}(h:l≠[]):∃ x r,a5b l=x::r:=by
 cases l with
 | nil=>exact absurd rfl h
 | cons a l=>exact ⟨_,_,rfl⟩
theorem d5f (g gb n:Nat)(p:D)(hp:p=.prim (.pointer none)∨p=.optr 1500 g 2 0 0)(L s:List UInt8)(hs:s≠[])(R:Hp)(hlen:L.length+s.length≤100000000) :
  a0m C0 188 [.optr 1500 g 2 0 0,str (sb s)] (bH gb g p L R) n (fun d H' n'=>(∃ g',H'=bH g' g (.optr 1500 g 2 0 0) (L++s) R)∧n≤n'):=by
 refine a0m.walk w1 c3r rfl fun F=>?_
 have hsz:=a0u s;have hb:=b6S s;obtain ⟨x,r,hx⟩:=b4d hs;have hr:s.length=r.length+1:=by rw [← a4j,hx];rfl
 unfold bH;rw [b6R];cases hL:a5b L with
 | nil =>
  dsimp only [a1A,a1B,List.nil_append];refine goI dr0 kB trivial trivial trivial trivial trivial trivial ?_;refine a0l.own _ (d4U g _ a2d p [] R hp) ?_;rintro d H' n' ⟨rfl,rfl,rfl⟩;have hL0:L.length=0:=by rw [← a4j,hL];rfl
  refine goI dr0 (ff2 hsz hb) trivial trivial trivial trivial trivial trivial ?_;refine ⟨?_,by omega⟩;apply Exists.intro;rw [hx,hr];rfl
 | cons y l =>
  dsimp only [a1j,a1k,List.cons_append,List.nil_append];have hL1:L.length=l.length+1:=by rw [← a4j,hL];rfl
  have htk:List.take (l.length+1) (y::l)=y::l:=by simp
  refine goI dr0 kB trivial trivial trivial trivial trivial trivial ?_;refine a0l.own _ (d4U g _ (.osl 206 gb 1 0 (l.length+1)) p [⟨206,gb,5,1,y::l⟩] R hp) ?_;rintro d H' n' ⟨rfl,rfl,rfl⟩;refine goI dr0 (ff3 hsz hb htk) trivial trivial trivial trivial trivial trivial ?_;refine ⟨?_,by omega⟩;apply Exists.intro;have hap:y::l++a5b s=y::(l++a5b s):=rfl;have hl2:(l++a5b s).length+1=l.length+1+s.length:=by rw [List.length_append,a4j];omega
  rw [hl2]
open Go.Sort Go.Shelf
section
open Go.Lib
set_option maxHeartbeats 6400000 in
set_option maxRecDepth 100000 in
theorem d5B (u:Nat) (hu64:u<18446744073709551616) (w:World) (htab:Lib.TabIs Tryz.prog w "internal/strconv.uint64pow10" .u64 Lib.pow10Tab) :
  Calls Tryz.prog 238 #[.int .u64 u,.int .i64 10] w fun e w'=>e=.returned (.string ⟨(Lib.decDigits u).toArray⟩)∧∃ k os,w'=grow (w.drewN k) os:=by
 have e283:∀ args w,(callFunc 259 args).run Tryz.prog w=.ok (.enter 259 args) w:=enters_of Tryz.func259 (by kernel_rfl) rfl;have e284:∀ args w,(callFunc 260 args).run Tryz.prog w=.ok (.enter 260 args) w:=enters_of Tryz.func260 (by kernel_rfl) rfl;have e285:∀ args w,(callFunc 261 args).run Tryz.prog w=.ok (.enter 261 args) w:=enters_of Tryz.func261 (by kernel_rfl) rfl
 by_cases hs:u<100
 ·go_enter Tryz.func238,Tryz.ntmps238
  go_wp2_with (go_at_fn 259;refine (Tryz.internal_strconv_small u hs _).mono ?_;rintro e w' ⟨rfl,rfl⟩)
  go_ret
  exact ⟨rfl,0,#[],by simp [World.drewN_zero]⟩
 ·have hu1:1≤u:=by omega
  have hnd20:Lib.nDigits u≤20:=by have:=Lib.numDigits_eq u hu1 hu64;split at this<;>omega
  have hb3:Lib.nDigits u≤24:=by omega
  have hal:Tryz.prog.arrayLen 327=24:=by kernel_rfl
  have hsl1:∀ W,(Instr.sliceAt 327 (.pointer (some ⟨w.heap.size,0,none⟩)) none (some (.int .i64 (Lib.nDigits u:Int))) none).run Tryz.prog W=.ok (.slice (some ⟨w.heap.size,0,none⟩) (Lib.nDigits u) 24) W:=fun W=>by
   rw [run_sliceAt_array_h W 327 ⟨w.heap.size,0,none⟩ (by kernel_rfl) .i64 (Lib.nDigits u:Int) (by omega) (by rw [hal];omega)]
   go_simp
  have hH0:=Lib.holds_zero0 w 327 (Lib.nDigits u) (by omega);have hfmt:=Tryz.internal_strconv_formatBase10 w.heap.size 0 24 u (Array.replicate (Lib.nDigits u) 0) (w.alloc (.cells Lib.zeros24 327)) hH0 (by rw [Array.size_replicate];exact Lib.lt_pow_nDigits u) hu64 (by rw [Array.size_replicate];omega);rw [Array.size_replicate] at hfmt;have HH0:=Lib.hid hH0;clear hH0 hal
  go_enter Tryz.func238,Tryz.ntmps238
  go_wp2_with (first
   | (go_at_fn 260;refine (Tryz.internal_strconv_numDigits u hu1 hu64 _ (Lib.tabIs_alloc htab _)).mono ?_;rintro e w' ⟨rfl,rfl⟩))
  go_at_fn 261
  refine hfmt.mono ?_;rintro e w' ⟨rfl,k,v',dk,rfl,hF⟩;have hcv:(convert 267 9 (.slice (some ⟨w.heap.size,0,none⟩) (Lib.nDigits u) 24)).run Tryz.prog ((putRow (fun (b:UInt8)=>Value.int .u8 (b.toNat:Int)) (w.alloc (.cells Lib.zeros24 327)) w.heap.size 0 dk).drewN k)=.ok (.string ⟨(Lib.decDigits u).toArray⟩) ((putRow (fun (b:UInt8)=>Value.int .u8 (b.toNat:Int)) (w.alloc (.cells Lib.zeros24 327)) w.heap.size 0 dk).drewN k):=by
   have h:=run_convert_bytes_back (P:=Tryz.prog) ((putRow (fun (b:UInt8)=>Value.int .u8 (b.toNat:Int)) (w.alloc (.cells Lib.zeros24 327)) w.heap.size 0 dk).drewN k) 267 9 5 ⟨w.heap.size,0,none⟩ 24 (Lib.decDigits u) (by kernel_rfl) (by kernel_rfl) (by kernel_rfl) (fun j hj=>by
    rw [Lib.row_is_numeral hF j hj,Lib.add_plain,World.cell?_drewN];exact cell?_putRow (fun (b:UInt8)=>Value.int .u8 (b.toNat:Int)) _ w.heap.size 0 _ dk HH0.out (by rw [hF.size,Array.size_replicate]) j (by rw [hF.size];rw [Lib.decDigits_length] at hj;exact hj))
   rw [Lib.decDigits_length] at h;exact h
  go_wp2
  go_ret
  obtain ⟨os,eo⟩:=Lib.fin_at w (.cells Lib.zeros24 327) dk k 0;exact ⟨rfl,k,os,eo⟩
end
theorem b6b {O:Nat→Prop}{w:World}{v u:Value}{vs:Array Value}(hn:vs.size=2)(h:∀ (i:Nat) (x:D),[D.prim v,.prim u][i]? = some x→Rep nol O w x (vs.getD i undef)):vs = #[v,u]:=by
 match vs,hn with
 | ⟨[a,b]⟩,_ =>
  have h0:=h 0 _ rfl;have h1:=h 1 _ rfl;simp at h0 h1;cases h0;cases h1;rfl
theorem c5B (u:Nat)(hu:u<18446744073709551616):a0b C0 238 [.prim (.int .u64 (u:Int)),i64 10] (str ⟨(Lib.decDigits u).toArray⟩):=by
 refine ⟨⟨_,_,Tryz.func238,rfl,by kernel_rfl⟩,fun Y w vs hG hnG hX hvs hr=>?_⟩
 have:=b6b hvs hr
 subst this;refine (d5B u hu w hG).mono ?_;rintro e w' ⟨rfl,k,os,rfl⟩;exact ⟨_,_,rfl,Lib.below_grow _ _ (Nat.le_refl _) _ _,rfl,.prim _⟩
theorem c8k (u:Nat)(hu:u<18446744073709551616):a0b C0 186 [.prim (.int .u64 (u:Int)),i64 10] (str ⟨(Lib.decDigits u).toArray⟩):=by
 refine a0c.walk w1 c3q rfl fun F=>?_
 refine goI dr0 kB (c5B u hu) trivial trivial trivial trivial trivial ?_;exact a0a rfl IsPure.out
theorem rp0:a0b C0 187 [str ⟨#[48]⟩,i64 0] (str ⟨#[]⟩):=a0b.ev a4c 400 20 (by kernel_rfl)
theorem rp1:a0b C0 187 [str ⟨#[48]⟩,i64 1] (str ⟨#[48]⟩):=a0b.ev a4c 400 20 (by kernel_rfl)
theorem rp2:a0b C0 187 [str ⟨#[48]⟩,i64 2] (str ⟨#[48,48]⟩):=a0b.ev a4c 400 20 (by kernel_rfl)
theorem rp3:a0b C0 187 [str ⟨#[48]⟩,i64 3] (str ⟨#[48,48,48]⟩):=a0b.ev a4c 400 20 (by kernel_rfl)
theorem rp4:a0b C0 187 [str ⟨#[48]⟩,i64 4] (str ⟨#[48,48,48,48]⟩):=a0b.ev a4c 400 20 (by kernel_rfl)
theorem rp5:a0b C0 187 [str ⟨#[48]⟩,i64 5] (str ⟨#[48,48,48,48,48]⟩):=a0b.ev a4c 400 20 (by kernel_rfl)
theorem rp6:a0b C0 187 [str ⟨#[48]⟩,i64 6] (str ⟨#[48,48,48,48,48,48]⟩):=a0b.ev a4c 400 20 (by kernel_rfl)
theorem rp7:a0b C0 187 [str ⟨#[48]⟩,i64 7] (str ⟨#[48,48,48,48,48,48,48]⟩):=a0b.ev a4c 400 20 (by kernel_rfl)
theorem rp8:a0b C0 187 [str ⟨#[48]⟩,i64 8] (str ⟨#[48,48,48,48,48,48,48,48]⟩):=a0b.ev a4c 400 20 (by kernel_rfl)
theorem rp9:a0b C0 187 [str ⟨#[48]⟩,i64 9] (str ⟨#[48,48,48,48,48,48,48,48,48]⟩):=a0b.ev a4c 400 20 (by kernel_rfl)
theorem d5P:a0b C0 187 [str ⟨#[48]⟩,i64 10] (str ⟨#[48,48,48,48,48,48,48,48,48,48]⟩):=a0b.ev a4c 400 20 (by kernel_rfl)
theorem d5Q:a0b C0 187 [str ⟨#[48]⟩,i64 11] (str ⟨#[48,48,48,48,48,48,48,48,48,48,48]⟩):=a0b.ev a4c 400 20 (by kernel_rfl)
theorem d5R:a0b C0 187 [str ⟨#[48]⟩,i64 12] (str ⟨#[48,48,48,48,48,48,48,48,48,48,48,48]⟩):=a0b.ev a4c 400 20 (by kernel_rfl)
theorem d5S:a0b C0 187 [str ⟨#[48]⟩,i64 13] (str ⟨#[48,48,48,48,48,48,48,48,48,48,48,48,48]⟩):=a0b.ev a4c 400 20 (by kernel_rfl)
theorem d5T:a0b C0 187 [str ⟨#[48]⟩,i64 14] (str ⟨#[48,48,48,48,48,48,48,48,48,48,48,48,48,48]⟩):=a0b.ev a4c 400 20 (by kernel_rfl)
theorem d5U:a0b C0 187 [str ⟨#[48]⟩,i64 15] (str ⟨#[48,48,48,48,48,48,48,48,48,48,48,48,48,48,48]⟩):=a0b.ev a4c 400 20 (by kernel_rfl)
theorem d5V:a0b C0 187 [str ⟨#[48]⟩,i64 16] (str ⟨#[48,48,48,48,48,48,48,48,48,48,48,48,48,48,48,48]⟩):=a0b.ev a4c 400 20 (by kernel_rfl)
theorem d5W:a0b C0 187 [str ⟨#[48]⟩,i64 17] (str ⟨#[48,48,48,48,48,48,48,48,48,48,48,48,48,48,48,48,48]⟩):=a0b.ev a4c 400 20 (by kernel_rfl)
theorem c6x (n:Nat)(h:n≤17):a0b C0 187 [str ⟨#[48]⟩,i64 (n:Int)] (str ⟨(List.replicate n 48).toArray⟩):=by
 match n,h with
 | 0,_=>exact rp0
 | 1,_=>exact rp1
 | 2,_=>exact rp2
 | 3,_=>exact rp3
 | 4,_=>exact rp4
 | 5,_=>exact rp5
 | 6,_=>exact rp6
 | 7,_=>exact rp7
 | 8,_=>exact rp8
 | 9,_=>exact rp9
 | 10,_=>exact d5P
 | 11,_=>exact d5Q
 | 12,_=>exact d5R
 | 13,_=>exact d5S
 | 14,_=>exact d5T
 | 15,_=>exact d5U
 | 16,_=>exact d5V
 | 17,_=>exact d5W
 | n+18,h=>omega
set_option maxHeartbeats 8000000
def a5e (q r:Nat):List UInt8:=if q=0 then Lib.decDigits r else List.replicate (18 - (Lib.decDigits r).length) 48++Lib.decDigits r
theorem b4j:Lib.decDigits 0=[48]:=by unfold Lib.decDigits;rfl
theorem b1D (n:Nat):Lib.decDigits n≠[]:=(a1m n).2.2
theorem c1S (q r:Nat):a5e q r≠[]:=by
 unfold a5e;split
 ·exact b1D r
 ·intro h;exact b1D r (List.append_eq_nil_iff.1 h).2
theorem b8Z {q r:Nat}(hq:q≠0):a5e q r=a2f 18 r []:=by
 unfold a5e a2f c6n;rw [if_neg hq]
 by_cases h:r=0
 ·subst h;rw [b4j,if_pos rfl];rfl
 ·rw [if_neg h,List.append_nil]
theorem c0X (B q r:Nat)(hB:B=10^18)(hr:r<B):Lib.decDigits (q*B+r)=if q=0 then a5e q r else Lib.decDigits q++a5e q r:=by
 by_cases hq:q=0
 ·subst hq;rw [if_pos rfl];unfold a5e;rw [if_pos rfl,Nat.zero_mul,Nat.zero_add]
 ·rw [if_neg hq,b8Z hq,hB]
  exact b3h 18 q r hq (by rw [← hB];exact hr)
def a2U (P:List (List UInt8)):List UInt8:=P.reverse.flatten
theorem a9R (P:List (List UInt8))(p:List UInt8):a2U (P++[p])=p++a2U P:=by unfold a2U;simp
theorem b9B (a b:List UInt8):sb a++sb b=sb (a++b):=by
 apply ByteArray.ext;simp [ByteArray.data_append]
theorem b8r {P:List (List UInt8)}(h:∀ p∈P,p≠[]):P.length≤(a2U P).length:=by
 unfold a2U;rw [List.length_flatten,← List.length_reverse];generalize hQ:P.reverse=Q;have h':∀ p∈Q,p≠[]:=fun p hp=>h p (by rw [← hQ] at hp;exact List.mem_reverse.1 hp)
 clear hQ h
 induction Q with
 | nil=>exact Nat.le_refl _
 | cons a r ih =>
  have h1:=ih fun p hp=>h' p (List.mem_cons_of_mem _ hp)
  have h2:a.length≠0:=fun q=>h' a List.mem_cons_self (List.eq_nil_of_length_eq_zero q)
  rw [List.map_cons,List.sum_cons,List.length_cons];omega
structure a9x (n m:Nat)(P:List (List UInt8)):Prop where
 ne:m≠0→Lib.decDigits n=Lib.decDigits m++a2U P
 eq:m=0→Lib.decDigits n=a2U P
 all:∀ p∈P,p≠[]
 le:m≤n
theorem a9x.len {n m:Nat}{P:List (List UInt8)}(h:a9x n m P):P.length≤(Lib.decDigits n).length:=by
 have h1:=b8r h.all
 by_cases q:m=0
 ·rw [h.eq q];exact h1
 ·rw [h.ne q,List.length_append];omega
theorem a9x.step {n m:Nat}{P:List (List UInt8)}{B:Nat}(h:a9x n m P)(hm:m≠0)(hB:B=10^18):a9x n (m / B) (P++[a5e (m / B) (m%B)]):=by
 have hB0:0<B:=by rw [hB];decide
 have hd:=c0X B (m / B) (m%B) hB (Nat.mod_lt _ hB0);rw [show m / B*B+m%B=m by rw [Nat.mul_comm];exact Nat.div_add_mod m B] at hd;have hn:=h.ne hm;rw [hd] at hn;refine ⟨fun q=>?_,fun q=>?_,fun p hp=>?_,Nat.le_trans (Nat.div_le_self _ _) h.le⟩
 ·rw [if_neg q] at hn;rw [hn,a9R,List.append_assoc]
 ·rw [if_pos q] at hn;rw [hn,a9R]
 ·rcases List.mem_append.1 hp with hp|hp
  ·exact h.all p hp
  ·rw [List.mem_singleton] at hp;subst hp;exact c1S _ _
abbrev a2k (P:List (List UInt8)):List D:=P.map fun p=>str (sb p)
theorem b1e (x : GI) (h : x.wf) (hf : x.few) : a0b C0 115 [x.D] (str (sb (Lib.itoa x.z))) := by
  refine a0c.walk w1 b7S rfl fun F => ?_
  obtain ⟨z, sm⟩ := x
  obtain ⟨h1, h2⟩ := h
  have hp := a2M ⟨z, sm⟩ ⟨h1, h2⟩
  dsimp only [GI.D, GI.few] at *
  cases sm with
  | true =>
    obtain ⟨h3, h4⟩ := h1 rfl
    have c : a0b C0 183 [i64 z] (str (sb (Lib.itoa z))) := b0K z h3 (by omega)
    unfold GI.s GI.w
    dsimp only
    refine goI dr0 kB c trivial trivial trivial trivial trivial ?_
    exact a0a rfl IsPure.out
  | false =>
    have hz := h2 rfl
    have hz0 : z.natAbs ≠ 0 := fun q => hz (by have : z = 0 := by omega
                                               subst this; exact a0C rfl)
    have hw : GI.w ⟨z, false⟩ = wD z.natAbs := rfl
    have hs : GI.s ⟨z, false⟩ = if z < 0 then -1 else 1 := rfl
    rw [hw] at hp ⊢
    obtain ⟨sg, hsg⟩ : ∃ s, GI.s ⟨z, false⟩ = s := ⟨_, rfl⟩
    rw [hsg] at hp ⊢
    obtain ⟨B, hB⟩ : ∃ B : Nat, B = 10 ^ 18 := ⟨_, rfl⟩
    have hB1 : B < BB := by rw [hB]; decide
    have hB0 : B ≠ 0 := by rw [hB]; decide
    have hB2 : 1 < B := by rw [hB]; decide
    have hBs : u64 1000000000000000000 = a0h B := by rw [hB]; rfl
    have hBl : a0e B = [B] := a3C hB0 hB1
    obtain ⟨n, hn⟩ : ∃ n, z.natAbs = n := ⟨_, rfl⟩
    obtain ⟨neg, hneg⟩ : ∃ b, decide (z < 0) = b := ⟨_, rfl⟩
    rw [hn] at hp hf hz0 ⊢
    rw [hneg] at hp
    have hit : Lib.itoa z = (if neg then [45] else []) ++ Lib.decDigits n := by
      unfold Lib.itoa
      by_cases q : z < 0
      · rw [if_pos q, ← hneg, decide_eq_true q, hn]; rfl
      · rw [if_neg q, ← hneg, decide_eq_false q, ← hn]
        have : z.toNat = z.natAbs := by omega
        rw [this]; rfl
    rw [hit]
    have hDL : (Lib.decDigits n).length ≤ 27 * 1000000 + 1 := a9C (k := 1000000) (by omega)
    have hmpos : ∀ m : Nat, m ≠ 0 → decide ((((a0e m).map a0h).length : Int) > 0) = true := fun m hm => decide_eq_true (by
      rw [a1b hm, List.map_cons, List.length_cons]; omega)
    have hm0 : decide ((((a0e 0).map a0h).length : Int) > 0) = false := decide_eq_false (by rw [a0K]; decide)
    obtain ⟨w0, ws, hws⟩ : ∃ a l, (a0e n).map a0h = a :: l := by
      cases hl : (a0e n).map a0h with
      | nil => exact absurd hl (a1S hz0)
      | cons a l => exact ⟨a, l, rfl⟩
    have hwD : wD n = .sl false 1 (w0 :: ws) := by unfold wD wL; rw [hws]
    have hbD : wD B = .sl false 1 [u64 1000000000000000000] := by unfold wD wL; rw [hBl, hBs]; rfl
    have pw : IsPure (.sl false 1 (w0 :: ws)) := by rw [← hwD]; exact inferInstance
    rw [hwD] at hp ⊢
    clear hit h1 h2 hz hs hsg
    have hne : (w0 :: ws ≠ []) = True := eq_true (List.cons_ne_nil _ _)
    refine goI dr0 hne hp trivial trivial trivial trivial trivial ?_
    rw [← hwD]
    refine OkS.loop (α := Nat × List (List UInt8) × Nat × Nat) (fun p => ⟨[(3, boo neg), (4, wD p.1), (5, wD B), (6, a7a 1303 p.2.2.1 1 (a2k p.2.1))], a6g 1303 p.2.2.1 9 1 (a2k p.2.1), p.2.2.2⟩) (fun p => p.1)
      (fun p => a9x n p.1 p.2.1) (n, [], 0, _) ⟨fun _ => by unfold a2U; simp, fun q => absurd q hz0, fun p hp => absurd hp List.not_mem_nil, Nat.le_refl _⟩ (by refine ⟨.drop .nil, ⟨.refl _, .refl _, ?_, .refl _, trivial⟩, Nat.le_refl _⟩; dsimp only; rw [hbD]; exact .nn true 1 _) ?_
    rintro ⟨m, P, g, cnt⟩ F I
    dsimp only at I ⊢
    have hPl := I.len
    rcases Nat.decEq m 0 with hm | hm
    rotate_left
    · subst hm
      have hdn := I.eq rfl
      have hall := I.all
      have hLn : P.length ≤ 27000001 := by omega
      have hP0 : P ≠ [] := fun q => b1D n (by rw [hdn, q]; rfl)
      obtain ⟨N, hN⟩ : ∃ N, P.length = N := ⟨_, rfl⟩
      have hN0 : N ≠ 0 := fun q => hP0 (List.eq_nil_of_length_eq_zero (by omega))
      rw [hdn]
      clear hwD hbD pw hp hn hPl I
      have elP : (((a2k P).length : Nat) : Int) = (N : Int) := by rw [List.length_map, hN]
      have wN : IntKind.i64.wrap ((N : Int) - 1) = ((N : Int) - 1) := wI (by omega) (by omega)
      refine OkS.seq ?_
      refine sZ 600 ?_
      refine nwI hm0 ?_
      refine ifI ?_
      refine exI ?_
      refine OkS.weak ⟨[(3, boo neg), (6, .sl false 1 (a2k P))], [], _⟩ ⟨?_, ⟨.refl _, ?_, trivial⟩, Nat.le_refl _⟩ ?_
      · have := c5I (K := 1303) (g := g) (T := 9) (sz := 1) (l := a2k P) (r := []) (r' := []) (H := a6g 1303 g 9 1 (a2k P)) (Hf := []) .nil
        rwa [List.append_nil] at this
      · exact a6L _ _ _ _ _
      obtain ⟨c0, hc0⟩ : ∃ c, c = cnt + 1 + 1 + 1 := ⟨_, rfl⟩
      rw [← hc0]
      refine sR 1500 ?_
      obtain ⟨c1, hc1⟩ : ∃ c, c = c0 + 1 := ⟨_, rfl⟩
      refine OkS.seqX (α := D × Nat × Nat) (fun q => ⟨[(6, .sl false 1 (a2k P)), (10, .optr 1500 c0 2 0 0)], bH q.2.1 c0 q.1 (if neg then [45] else []) [], q.2.2⟩) (fun q => q.1 = .prim (.pointer none) ∨ q.1 = .optr 1500 c0 2 0 0) ?_ ?_
      · cases neg
        · refine goI dr0 kB trivial trivial trivial trivial trivial trivial ?_
          exact ⟨by trivial, (.prim (.pointer none), 0, _), .inl rfl, wkI⟩
        · refine goI dr0 kB trivial trivial trivial trivial trivial trivial ?_
          refine a0l.own _ (d5f c0 0 _ (.prim (.pointer none)) (.inl rfl) [] [45] (by decide) [] (by decide)) ?_
          rintro d H' n' ⟨⟨g', rfl⟩, hn'⟩
          refine stI ?_
          exact ⟨by trivial, (.optr 1500 c0 2 0 0, g', _), .inr rfl, wkI⟩
      rintro ⟨p0, gb0, c2⟩ hp0
      dsimp only at hp0 ⊢
      obtain ⟨pre, hpre⟩ : ∃ l, (if neg then [45] else [] : List UInt8) = l := ⟨_, rfl⟩
      have hpl : pre.length ≤ 1 := by rw [← hpre]; split <;> decide
      rw [hpre]
      refine goI dr0 (ff2 elP @wN) trivial trivial trivial trivial trivial trivial ?_
      refine OkS.loop (α := Nat × D × Nat × Nat) (fun q => ⟨[(6, .sl false 1 (a2k P)), (10, .optr 1500 c0 2 0 0), (11, i64 ((q.1 : Int) - 1))], bH q.2.2.1 c0 q.2.1 (pre ++ a2U (P.drop q.1)) [], q.2.2.2⟩) (fun q => q.1)
        (fun q => q.1 ≤ N ∧ (q.2.1 = .prim (.pointer none) ∨ q.2.1 = .optr 1500 c0 2 0 0)) (N, p0, gb0, _) ⟨Nat.le_refl _, hp0⟩ (by dsimp only; rw [← hN, List.drop_length]; unfold a2U; rw [List.reverse_nil, List.flatten_nil, List.append_nil]; exact wkI) ?_
      rintro ⟨k, p, gb, c3⟩ F ⟨hk, hp⟩
      dsimp only at hk hp ⊢
      have hjl : ∀ k, (a2U (P.drop k)).length ≤ (a2U P).length := fun k => by
        unfold a2U
        conv => rhs; rw [← List.take_append_drop k P]
        rw [List.reverse_append, List.flatten_append, List.length_append]; omega
      have hjP : (a2U P).length ≤ 27000001 := by rw [← hdn]; omega
      rcases Nat.eq_zero_or_pos k with hk0 | hk0
      · subst hk0
        have e1 : decide ((((0 : Nat) : Int) - 1) ≥ 0) = false := by decide
        rw [List.drop_zero]
        have hL : pre ++ a2U P ≠ [] := fun q => by
          have := (List.append_eq_nil_iff.1 q).2
          rw [← hdn] at this; exact b1D n this
        obtain ⟨L, hLL⟩ : ∃ L, pre ++ a2U P = L := ⟨_, rfl⟩
        rw [hLL] at hL ⊢
        obtain ⟨y, r, hy⟩ := b4d hL
        have hlr : L.length = r.length + 1 := by rw [← a4j, hy]; rfl
        refine goI dr0 e1 trivial trivial trivial trivial trivial trivial ?_
        refine a0l.own _ (by
          have := fun n => d4J c0 gb n L hL p []
          unfold bH
          simp only [hy, hlr] at this ⊢
          exact this _) ?_
        rintro d H' n' ⟨rfl, rfl, rfl⟩
        refine goI dr0 kB trivial trivial trivial trivial trivial trivial ?_
        exact a0a rfl IsPure.out
      · obtain ⟨k', rfl⟩ : ∃ k', k = k' + 1 := ⟨k - 1, by omega⟩
        have e1 : decide ((((k' + 1 : Nat) : Int) - 1) ≥ 0) = true := decide_eq_true (by omega)
        have e2 : (((k' + 1 : Nat) : Int) - 1) = (k' : Int) := by omega
        have wk : IntKind.i64.wrap ((k' : Int) - 1) = ((k' : Int) - 1) := wI (by omega) (by omega)
        have e3 : decide ((k' : Int) ≥ 0) = true := decide_eq_true (by omega)
        obtain ⟨t, ht⟩ : ∃ t, P[k']? = some t := a1T (by omega)
        have hm : (a2k P)[k']? = some (str (sb t)) := by rw [List.getElem?_map, ht]; rfl
        have htn := hall t (List.mem_of_getElem? ht)
        have hdr : P.drop k' = t :: P.drop (k' + 1) := by
          rw [List.drop_eq_getElem_cons (List.getElem?_eq_some_iff.1 ht).1, (List.getElem?_eq_some_iff.1 ht).2]
        have hj : pre ++ a2U (P.drop k') = pre ++ a2U (P.drop (k' + 1)) ++ t := by
          rw [hdr, List.append_assoc]
          congr 1
          unfold a2U
          rw [List.reverse_cons, List.flatten_append]; simp
        have hlt : (pre ++ a2U (P.drop (k' + 1))).length + t.length ≤ 100000000 := by
          have h1 := hjl k'
          have h2 : (pre ++ a2U (P.drop k')).length = (pre ++ a2U (P.drop (k' + 1))).length + t.length := by rw [hj, List.length_append]
          rw [← h2, List.length_append]; omega
        rw [e2]
        refine goI dr0 (ff2 e3 kN) hm trivial trivial trivial trivial trivial ?_
        refine a0l.own _ (d5f c0 gb _ p hp (pre ++ a2U (P.drop (k' + 1))) t htn [] hlt) ?_
        rintro d H' n' ⟨⟨g', rfl⟩, hn'⟩
        refine stI ?_
        refine goI dr0 wk trivial trivial trivial trivial trivial trivial ?_
        exact ⟨(k', .optr 1500 c0 2 0 0, g', _), ⟨by dsimp only; omega, .inr rfl⟩, by dsimp only; omega, by (dsimp only; rw [hj]; exact wkI)⟩
    have e1 := hmpos m hm
    have c1 := d4X m B hB0 (Nat.lt_of_le_of_lt (a0A m n I.le) hf) (by rw [hBl]; show 1 < 1000000; decide)
    have I2 := I.step hm hB
    obtain ⟨q, hq⟩ : ∃ q, m / B = q := ⟨_, rfl⟩
    obtain ⟨r, hr⟩ : ∃ q, m % B = q := ⟨_, rfl⟩
    have hqm : q < m := by rw [← hq]; exact Nat.div_lt_self (Nat.pos_of_ne_zero hm) hB2
    have hrB : r < B := by rw [← hr]; exact Nat.mod_lt _ (Nat.pos_of_ne_zero hB0)
    rw [hq, hr] at c1 I2
    have hsz := a0u (Lib.decDigits r)
    have hdl : (Lib.decDigits r).length ≤ 18 := a0R 17 r (by rw [hB] at hrB; exact hrB)
    have hdl1 : (Lib.decDigits r).length ≠ 0 := fun h => b1D r (List.eq_nil_of_length_eq_zero h)
    refine goI dr0 e1 trivial trivial trivial trivial trivial trivial ?_
    refine cI c1 ?_
    refine sR 800 ?_
    refine OkS.seqX (α := Nat) (fun cnt => ⟨[(3, boo neg), (5, wD B), (6, a7a 1303 g 1 (a2k P)), (7, wD q), (9, str (sb (Lib.decDigits r)))], a6g 1303 g 9 1 (a2k P), cnt⟩) (fun _ => True) ?_ ?_
    · rcases Nat.decEq r 0 with h0 | h0
      · have e2 := hmpos r h0
        have hl1 : a0e r = [r] := a3C h0 (Nat.lt_trans hrB hB1)
        have hmm : ((a0e r).map a0h)[0]? = some (u64 (r : Int)) := by rw [hl1]; rfl
        have c2 := c8k r (Nat.lt_trans hrB hB1)
        refine goI dr0 e2 hmm c2 trivial trivial trivial trivial ?_
        exact ⟨by trivial, _, trivial, wkI⟩
      · subst h0
        rw [b4j]
        refine goI dr0 hm0 trivial trivial trivial trivial trivial trivial ?_
        exact ⟨by trivial, _, trivial, wkI⟩
    rintro cnt2 -
    refine OkS.seqX (α := Nat) (fun cnt => ⟨[(3, boo neg), (5, wD B), (6, a7a 1303 g 1 (a2k P)), (7, wD q), (9, str (sb (a5e q r)))], a6g 1303 g 9 1 (a2k P), cnt⟩) (fun _ => True) ?_ ?_
    · rcases Nat.decEq q 0 with h0 | h0
      · have e2 := hmpos q h0
        have c2 : a0b C0 187 [str ⟨#[48]⟩, i64 ((18 - (Lib.decDigits r).length : Nat) : Int)] (str (sb (List.replicate (18 - (Lib.decDigits r).length) 48))) := c6x (18 - (Lib.decDigits r).length) (by omega)
        have w18 : IntKind.i64.wrap (18 - ((Lib.decDigits r).length : Int)) = ((18 - (Lib.decDigits r).length : Nat) : Int) := by rw [wI (by omega) (by omega)]; omega
        have hap := b9B (List.replicate (18 - (Lib.decDigits r).length) 48) (Lib.decDigits r)
        have hsz2 := a0u (List.replicate (18 - (Lib.decDigits r).length) 48)
        have hpt : List.replicate (18 - (Lib.decDigits r).length) 48 ++ Lib.decDigits r = a5e q r := by unfold a5e; rw [if_neg h0]
        rw [hpt] at hap
        have hsize : (sb (List.replicate (18 - (Lib.decDigits r).length) 48)).size + (sb (Lib.decDigits r)).size ≤ 9223372036854775807 := by
          rw [hsz, hsz2, List.length_replicate]; omega
        refine goI dr0 (ff4 e2 hsz w18 hap) c2 trivial trivial trivial trivial trivial ?_
        exact ⟨by trivial, _, trivial, wkI⟩
      · subst h0
        have hpt : a5e 0 r = Lib.decDigits r := if_pos rfl
        rw [hpt]
        refine goI dr0 hm0 trivial trivial trivial trivial trivial trivial ?_
        exact ⟨by trivial, _, trivial, wkI⟩
    rintro cnt3 -
    have hsn : a2k (P ++ [a5e q r]) = a2k P ++ [str (sb (a5e q r))] := by unfold a2k; rw [List.map_append]; rfl
    have hPL : (a2k P).length = P.length := List.length_map ..
    rcases hPD : a2k P with _ | ⟨y, l⟩
    all_goals
      rw [hPD] at hsn hPL
      dsimp only [a1A, a1B, a1j, a1k, List.nil_append]
    · refine goI dr0 kB trivial trivial trivial trivial trivial trivial ?_
      exact ⟨(q, P ++ [a5e q r], _, _), I2, hqm, by (dsimp only; rw [hsn]; exact wkI)⟩
    · have htk : List.take (l.length + 1) (y :: l) = y :: l := by simp
      have hll : l.length + 1 ≤ 27000001 := by rw [List.length_cons] at hPL; omega
      refine goI dr0 htk trivial trivial trivial trivial trivial trivial ?_
      exact ⟨(q, P ++ [a5e q r], _, _), I2, hqm, by (dsimp only; rw [hsn, a2e]; exact wkI)⟩
abbrev b7p:Dr:=[(3,[0,1,2,3,4,5,6],[7,8])]
open Go.Proofs Go.RowKit
set_option maxRecDepth 20000
set_option maxHeartbeats 4000000
theorem c1C (x:Nat)(hx:x<BB):a0b C0 258 [a0h x] (i64 (Lib.bitLen x:Int)):=by
 refine ⟨⟨_,_,Tryz.func258,rfl,by kernel_rfl⟩,fun Y w vs hG hnG hX hvs hr=>?_⟩
 have:=a7x hvs hr
 subst this;refine (Tryz.bits_Len64 x w (by omega) (by unfold BB at hx;omega)).mono ?_;rintro e w' ⟨rfl,rfl⟩;exact ⟨_,_,rfl,.refl _ _,rfl,.prim _⟩
def b1i (n:Nat):Nat:=(a0e n).getD ((a0e n).length - 1) 0
def a7P (n:Nat):Nat:=if n=0 then 0 else 64*((a0e n).length - 1)+Lib.bitLen (b1i n)
theorem c5a (n:Nat):n<2^a7P n:=by
 unfold a7P
 by_cases h:n=0
 ·subst h;rw [if_pos rfl];decide
 ·rw [if_neg h]
  have hl:(a0e n).length≠0:=fun q=>by
   have:=a1b h
   rw [this] at q;simp at q
  obtain ⟨k,hk⟩:∃ k,(a0e n).length=k+1:=⟨(a0e n).length - 1,by omega⟩
  have hat:(a0e n)[k]? = some (b1i n):=by
   unfold b1i;rw [hk,Nat.add_sub_cancel,List.getD_eq_getElem?_getD,List.getElem?_eq_getElem (by omega)];rfl
  have hv:=a4G hat;rw [List.drop_of_length_le (by omega),a0J] at hv;have ht:b1i n<BB:=a1e n _ (List.mem_of_getElem? hat);have h1:a0i ((a0e n).take k)<BB^k:=by
   have:=a2H (l:=(a0e n).take k) fun a ha=>a1e n a (List.mem_of_mem_take ha)
   rwa [List.length_take,Nat.min_eq_left (by omega)] at this
  have h2:b1i n<2^Lib.bitLen (b1i n):=by
   by_cases t0:b1i n=0
   ·rw [t0];exact Nat.two_pow_pos _
   ·exact (Lib.bitLenAux_bounds 64 (b1i n) ht t0).2.2
  have h3:BB^k=2^(64*k):=by rw [Nat.pow_mul]
  rw [hk,Nat.add_sub_cancel,Nat.pow_add,← h3];have h4:n=a0i ((a0e n).take k)+BB^k*b1i n:=by simpa [a0i] using hv
  have h5:BB^k*(b1i n+1)≤BB^k*2^Lib.bitLen (b1i n):=Nat.mul_le_mul_left _ h2;rw [Nat.mul_add,Nat.mul_one] at h5;omega
def b0M (n:Nat):Bool:=decide (600<(Lib.decDigits n).length)
theorem b8v (n:Nat):b0M n=(decide (a7P n>1800)&&b0M n):=by
 by_cases h:a7P n>1800
 ·rw [decide_eq_true h,Bool.true_and]
 ·rw [decide_eq_false h,Bool.false_and]
  have key:∀ k,a7P n≤3*(k+1)→(Lib.decDigits n).length≤k+1:=fun k hk=>a0R k n (Nat.lt_of_lt_of_le (c5a n) (Nat.le_trans (Nat.pow_le_pow_right (by decide) hk) (by rw [Nat.pow_mul];exact Nat.pow_le_pow_left (by decide) (k+1))))
  have h4:=key 599 (by omega);exact decide_eq_false (by omega)
theorem c7N (x:GI)(h:x.wf)(hf:x.few):a0b C0 253 [x.D] (i64 (a7P x.z.natAbs:Nat)):=by
 refine a0c.walk w1 c3T rfl fun F=>?_
 have c1:=a2M x h;obtain ⟨n,hn⟩:∃ n,x.z.natAbs=n:=⟨_,rfl⟩
 unfold GI.few at hf;rw [hn] at c1 hf ⊢;have el:((((a0e n).map a0h).length:Nat):Int)=((a0e n).length:Int):=by rw [List.length_map]
 unfold wD wL at c1;dsimp only [GI.D] at c1 ⊢
 by_cases h0:n=0
 ·have e1:(((a0e n).length:Int)==0)=true:=by rw [h0,a0K];rfl
  have hb:a7P n=0:=if_pos h0;rw [hb];refine goI dr0 (ff2 e1 el) c1 trivial trivial trivial trivial trivial ?_;exact a0a rfl IsPure.out
 ·have hl:(a0e n).length≠0:=fun q=>by
   have:=a1b h0
   rw [this] at q;simp at q
  have e1:(((a0e n).length:Int)==0)=false:=c7L hl;have wl:IntKind.i64.wrap (((a0e n).length:Int) - 1)=(((a0e n).length - 1:Nat):Int):=by rw [wI (by omega) (by omega)];omega
  have wm:IntKind.i64.wrap (64*(((a0e n).length - 1:Nat):Int))=((64*((a0e n).length - 1):Nat):Int):=by rw [wI (by omega) (by omega)];omega
  have hat:(a0e n)[(a0e n).length - 1]? = some (b1i n):=by
   unfold b1i;rw [List.getD_eq_getElem?_getD,List.getElem?_eq_getElem (by omega)];rfl
  have hm:((a0e n).map a0h)[(a0e n).length - 1]? = some (u64 (b1i n:Int)):=by rw [List.getElem?_map,hat];rfl
  have ht:b1i n<BB:=a1e n _ (List.mem_of_getElem? hat);have c2:=c1C (b1i n) ht;have hbl:=Lib.bitLen_le (b1i n) 64 (Nat.le_refl _) ht;have wa:IntKind.i64.wrap (((64*((a0e n).length - 1):Nat):Int)+(Lib.bitLen (b1i n):Int))=((a7P n:Nat):Int):=by
   have hb:a7P n=64*((a0e n).length - 1)+Lib.bitLen (b1i n):=if_neg h0;rw [hb,wI (by omega) (by omega)];omega
  refine goI dr0 (ff6 e1 el wl wm wa kN) c1 hm c2 trivial trivial trivial ?_;exact a0a rfl IsPure.out
theorem c4i (x:GI)(h:x.wf)(hf:x.few):a0b C0 216 [x.D] (boo (b0M x.z.natAbs)):=by
 refine a0c.walk w1 c3A rfl fun F=>?_
 have c1:=c7N x h hf;have c2:=b1e x h hf;have hlen:(Lib.decDigits x.z.natAbs).length≤27*1000000+1:=a9C (k:=1000000) (by unfold GI.few at hf;omega);have hil:(Lib.itoa x.z).length≤27000002:=by
  unfold Lib.itoa;split
  ·rw [List.length_cons];omega
  ·rw [show x.z.toNat=x.z.natAbs by omega];omega
 have c3:=a4a (Lib.itoa x.z) (by omega);rw [(a4O x.z).2] at c3;have hsz:=a0u (Lib.decDigits x.z.natAbs);have hlb:=b8v x.z.natAbs;obtain ⟨b,hb⟩:∃ b,b0M x.z.natAbs=b:=⟨_,rfl⟩
 have e2:decide (((Lib.decDigits x.z.natAbs).length:Int)>600)=b:=by rw [← hb];exact decide_eq_decide.2 (by omega)
 obtain ⟨p,hp⟩:∃ b,decide (a7P x.z.natAbs>1800)=b:=⟨_,rfl⟩
 have e1:decide (((a7P x.z.natAbs:Nat):Int)>1800)=p:=by rw [← hp];exact decide_eq_decide.2 (by omega)
 rw [hb,hp] at hlb;rw [hb,hlb];dsimp only [GI.D] at c1 c2 ⊢;cases p
 ·refine goI dr0 e1 c1 trivial trivial trivial trivial trivial ?_
  exact a0a rfl IsPure.out
 ·refine goI dr0 (ff3 e1 e2 hsz) c1 c2 c3 trivial trivial trivial ?_
  exact a0a rfl IsPure.out
theorem c3Z {r:Rat}{x:GF}{k:Nat}(h:FR r x k)(hk:k<100000):x.n.wf∧x.n.few∧(mkG (x.d:Int)).wf∧(mkG (x.d:Int)).few∧x.n.z=r.num∧x.d=r.den∧0<x.d :=
 ⟨h.is.1,h.fn (by omega),a0H _,by
  show (a0e ((x.d:Int)).natAbs).length<1000000;rw [Int.natAbs_natCast];have:=h.ld;omega,h.is.2.1,h.is.2.2,h.dpos⟩
theorem c5V {r:Rat}{x:GF}{k:Nat}(h:FR r x k)(hk:k<100000):a0b C0 158 [x.D] (boo (b1p r)):=by
 refine a0c.walk w1 c3n rfl fun F=>?_
 obtain ⟨h1,h2,h3,h4,h5,h6,_⟩:=c3Z h hk;have c1:=c4i x.n h1 h2;have c2:=c4i (mkG (x.d:Int)) h3 h4;have hb:b1p r=(b0M x.n.z.natAbs||b0M (mkG (x.d:Int)).z.natAbs):=by
  unfold b1p b0M;rw [h5,← h6];rfl
 rw [hb];obtain ⟨p,hp⟩:∃ b,b0M x.n.z.natAbs=b:=⟨_,rfl⟩
 obtain ⟨q,hq⟩:∃ b,b0M (mkG (x.d:Int)).z.natAbs=b:=⟨_,rfl⟩
 rw [hp] at c1;rw [hq] at c2;rw [hp,hq];dsimp only [GI.D,GF.D] at c1 c2 ⊢;generalize mkG (x.d:Int)=y at c2 ⊢;cases p<;>cases q
 all_goals
  refine goI dr0 kB c1 c2 trivial trivial trivial trivial ?_;exact a0a rfl IsPure.out
theorem d2i {r:Rat}{x:GF}{k:Nat}(h:FR r x k)(hk:k<100000):a0b C0 50 [x.D] (str (sb (txt r))):=by
 refine a0c.walk w1 c5D rfl fun F=>?_
 obtain ⟨h1,h2,h3,h4,h5,h6,h7⟩:=c3Z h hk;have c0:=a8n x h7;have c1:=b1e x.n h1 h2;have c2:=b1e (mkG (x.d:Int)) h3 h4;have hd:Lib.itoa (mkG (x.d:Int)).z=Lib.decDigits r.den:=by
  show Lib.itoa (x.d:Int)=_;unfold Lib.itoa;rw [if_neg (by omega),h6];rfl
 rw [hd] at c2;rw [h5] at c1;have l1:(Lib.itoa r.num).length≤27000002:=by
  have:(Lib.decDigits x.n.z.natAbs).length≤27*1000000+1:=a9C (k:=1000000) (by unfold GI.few at h2;omega)
  rw [h5] at this;unfold Lib.itoa;split
  ·rw [List.length_cons];omega
  ·rw [show r.num.toNat=r.num.natAbs by omega];omega
 have l2:(Lib.decDigits r.den).length≤27000001:=by
  have:(Lib.decDigits (mkG (x.d:Int)).z.natAbs).length≤27*1000000+1:=a9C (k:=1000000) (by unfold GI.few at h4;omega)
  rw [← h6];exact this
 have s1:=a0u (Lib.itoa r.num);have s2:=a0u (Lib.decDigits r.den);have s3:(sb [47]).size=1:=rfl;have s4:=a0u (Lib.itoa r.num++[47]);have z1:(sb (Lib.itoa r.num)).size+(sb [47]).size≤9223372036854775807:=by rw [s1,s3];omega
 have z2:(sb (Lib.itoa r.num++[47])).size+(sb (Lib.decDigits r.den)).size≤9223372036854775807:=by rw [s4,s2,List.length_append,List.length_singleton];omega
 have a1:sb (Lib.itoa r.num)++(⟨#[47]⟩:ByteArray)=sb (Lib.itoa r.num++[47]):=b9B _ [47];have a2:=b9B (Lib.itoa r.num++[47]) (Lib.decDigits r.den);rw [List.append_assoc] at a2;dsimp only [GI.D,GF.D] at c0 c1 c2 ⊢;generalize mkG (x.d:Int)=y at c0 c2 ⊢;unfold txt
 by_cases g:x.d=1
 ·rw [decide_eq_true g] at c0
  rw [if_pos (h6 ▸ g)];refine goI b7p kB c0 c1 trivial trivial trivial trivial ?_;exact a0a rfl IsPure.out
 ·rw [decide_eq_false g] at c0
  rw [if_neg (fun q=>g (h6.trans q))];refine goI b7p (ff2 a1 a2) c0 c1 c2 trivial trivial trivial ?_;exact a0a rfl IsPure.out
set_option maxHeartbeats 4000000
theorem d5A:a0b C0 77 [i64 0] (⟨mkG 0,1⟩:GF).D:=d3b 0
def a8i (r:Rat):List UInt8:=if b1p r=true then [] else txt r
def b1V (r:Rat):Nat:=if b1p r=true then 4 else 0
theorem c5M {r:Rat}{x:GF}{k:Nat}(h:FR r x k)(hk:k<100000):a0b C0 82 [x.D] (.tup [str (sb (a8i r)),i64 (b1V r:Nat)]):=by
 refine a0c.walk w1 d0Z rfl fun F=>?_
 have c1:=c5V h hk;have c2:=d2i h hk;unfold a8i b1V;obtain ⟨b,hb⟩:∃ b,b1p r=b:=⟨_,rfl⟩
 rw [hb] at c1 ⊢;cases b
 all_goals
  refine goI dr0 kB c1 c2 trivial trivial trivial trivial ?_;exact a0a rfl IsPure.out
theorem b5v {l:List UInt8}(h:chk l=0)(h4:l.length≤40):FR (a1x l) (a5N l) 3:=⟨(a7S h).is,rk3 h h4⟩
set_option maxHeartbeats 8000000
theorem b0a {l:List UInt8}(h:chk l=0):rR (a1x l)=str (sb l):=by unfold rR;rw [(a4m h).2.2.1]
def t12 (l:List UInt8):Bool:=decide (l.length≤12)
def f12 (f:c4P):Bool:=t12 f.tol&&t12 f.step
set_option maxHeartbeats 4000000
theorem d1n {n:GI}{k:Nat}(h:n.wf)(hk:1≤k)(hl:(a0e n.z.natAbs).length≤k):FR (n.z:Rat) ⟨n,1⟩ k:=by
 refine ⟨⟨h,(Rat.num_intCast _).symm,(Rat.den_intCast _).symm⟩,?_⟩;unfold rk;rw [Rat.num_intCast,Rat.den_intCast];exact ⟨hl,Nat.le_trans (a0G (n:=1) (k:=1) (by decide)) hk⟩
theorem b1E (n:Nat):a0W (Lib.decDigits n)=true:=by
 obtain ⟨h1,h2,h3⟩:=a1m n;rcases Nat.eq_zero_or_pos n with h|h
 ·have e:Lib.decDigits n=[48]:=by
   have:=b5w 0
   rw [h];exact of_decide_eq_true (this.trans (decide_eq_true rfl))
  rw [e];rfl
 ·obtain ⟨c,l,e,hc⟩:=c0V (Nat.pos_iff_ne_zero.1 h)
  rw [e] at h1 ⊢;unfold a0W c2N;rw [h1];simp [hc]
theorem b7e {n:Nat}{l:List UInt8}(h:n≠dv l):decide (Lib.decDigits n=l)=false:=decide_eq_false fun e=>h (by rw [← e,(a1m n).2.1])
theorem a6m {r:Rat}(h:b1p r=false):chk (txt r)=0:=by
 have hs:a0L (txt r)=Lib.decDigits r.num.natAbs:=by unfold a0L;rw [a9c,(a4O _).2]
 have hd:=a6E r;have hh:=b1j r;unfold b1p at h;simp only [Bool.or_eq_false_iff,decide_eq_false_iff_not] at h;have hb:a3K (txt r)=false:=by
  rw [a4J,hs,b1l,hh,b1E];have e1:(decide (r.num<0)&&decide (Lib.decDigits r.num.natAbs=[48]))=false:=by
   by_cases g:r.num<0
   ·rw [b7e (show r.num.natAbs≠dv [48] by show r.num.natAbs≠0;omega),Bool.and_false]
   ·rw [decide_eq_false g,Bool.false_and]
  rw [e1]
  by_cases g:r.den=1
  ·rw [decide_eq_true g];rfl
  ·rw [hd,if_neg g,b1E,b7e (show r.den≠dv [48] from r.den_nz),b7e (show r.den≠dv [49] from g),decide_eq_false g];rfl
 unfold chk;rw [hb,if_neg (by decide),hs]
 by_cases g:r.den=1
 ·rw [hd,if_pos g,hh,decide_eq_true g,if_neg (by simp;omega),if_neg (fun k=>absurd k.1 (by decide))]
 ·rw [hd,if_neg g,(a1m _).2.1,(a1m _).2.1,if_neg (by omega),if_neg (fun k=>k.2 r.reduced)]
theorem a5Z (r:Rat):a1x (txt r)=r:=by
 unfold a1x b3M;rw [a9c,b9A,b1j,a6E]
 by_cases g:r.den=1
 ·rw [decide_eq_true g]
  show mkRat r.num 1=r;rw [← g];exact Rat.mkRat_self r
 ·rw [decide_eq_false g,if_neg g,(a1m _).2.1]
  exact Rat.mkRat_self r
theorem c7U {a b:Rat}:a3x a b<0↔a<b:=by
 unfold a3x;split
 ·rename_i h;exact ⟨fun _=>h,fun _=>by decide⟩
 ·rename_i h
  split
  ·exact ⟨fun k=>absurd k (by decide),fun k=>absurd k h⟩
  ·exact ⟨fun k=>absurd k (by decide),fun k=>absurd k h⟩
theorem b3d {a b:Rat}:a3x a b>0↔b<a:=by
 unfold a3x;split
 ·rename_i h;exact ⟨fun k=>absurd k (by decide),fun k=>by grind⟩
 ·split
  ·rename_i h;exact ⟨fun _=>h,fun _=>by decide⟩
  ·rename_i h;exact ⟨fun k=>absurd k (by decide),fun k=>absurd k h⟩
theorem c5g {a b:Rat}:¬ a3x a b>0↔a≤b:=by rw [b3d];exact Rat.not_lt
theorem d2a {r:Rat}(h:0≤a7g r):0≤r:=by
 unfold a7g at h;exact Rat.num_nonneg.1 (by omega)
abbrev Pnt:=Rat × Rat
def d2 (a p:Pnt):Rat:=(a.1 - p.1)*(a.1 - p.1)+(a.2 - p.2)*(a.2 - p.2)
def a0U (a:Pnt):List Pnt→Rat→Rat
 | [],m=>m
 | p::P,m=>a0U a P (if d2 a p<m then d2 a p else m)
def pt (P:List Pnt)(i:Nat):Pnt:=P.getD i (0,0)
def a6P (P:List Pnt)(a:Pnt):Rat:=a0U a P (d2 a (pt P 0))
theorem a8w (a:Pnt):∀ (P:List Pnt) (m:Rat),a0U a P m≤m∧∀ p∈P,a0U a P m≤d2 a p
 | [],m=>⟨Rat.le_refl,fun p hp=>by cases hp⟩
 | q::P,m=>by
  obtain ⟨h1,h2⟩:=a8w a P (if d2 a q<m then d2 a q else m);have h3:(if d2 a q<m then d2 a q else m)≤m∧(if d2 a q<m then d2 a q else m)≤d2 a q:=by
   split
   ·exact ⟨Rat.le_of_lt ‹_›,Rat.le_refl⟩
   ·exact ⟨Rat.le_refl,Rat.not_lt.1 ‹_›⟩
  refine ⟨Rat.le_trans h1 h3.1,fun p hp=>?_⟩;rcases List.mem_cons.1 hp with rfl|hp
  ·exact Rat.le_trans h1 h3.2
  ·exact h2 p hp
theorem b0P (a:Pnt):∀ (P:List Pnt) (m:Rat),a0U a P m=m∨∃ p∈P,a0U a P m=d2 a p
 | [],m=>.inl rfl
 | q::P,m=>by
  rcases b0P a P (if d2 a q<m then d2 a q else m) with h|⟨p,hp,h⟩
  ·unfold a0U
   rw [h];split
   ·exact .inr ⟨q,List.mem_cons_self,rfl⟩
   ·exact .inl rfl
  ·exact .inr ⟨p,List.mem_cons_of_mem _ hp,h⟩
theorem a9Y {P:List Pnt}{i:Nat}(h:i<P.length):pt P i∈P:=by
 unfold pt;rw [List.getD_eq_getElem?_getD,List.getElem?_eq_getElem h];exact List.getElem_mem h
theorem c4k {P:List Pnt}{p:Pnt}(h:p∈P):∃ i,i<P.length∧pt P i=p:=by
 obtain ⟨i,hi,e⟩:=List.getElem_of_mem h;exact ⟨i,hi,by unfold pt;rw [List.getD_eq_getElem?_getD,List.getElem?_eq_getElem hi,e];rfl⟩
theorem d1M {P:List Pnt}{i:Nat}{p:Pnt}(h:P[i]? = some p):pt P i=p:=by
 unfold pt;rw [List.getD_eq_getElem?_getD,h];rfl
theorem a3S {P:List Pnt}(h:0<P.length)(a:Pnt):(∃ p∈P,a6P P a=d2 a p)∧∀ p∈P,a6P P a≤d2 a p:=by
 refine ⟨?_,(a8w a P _).2⟩;rcases b0P a P (d2 a (pt P 0)) with q|⟨p,hp,q⟩
 ·exact ⟨_,a9Y h,q⟩
 ·exact ⟨p,hp,q⟩
theorem b2n {P:List Pnt}{p:Pnt}(hp:p∈P)(a:Pnt):a0U a P (d2 a p)=a6P P a:=by
 have hl:0<P.length:=List.length_pos_of_mem hp;obtain ⟨⟨q,hq,e⟩,h⟩:=a3S hl a;refine Rat.le_antisymm ?_ ?_
 ·rw [e];exact (a8w a P _).2 q hq
 ·rcases b0P a P (d2 a p) with k|⟨s,hs,k⟩
  ·rw [k];exact h p hp
  ·rw [k];exact h s hs
theorem a8T (x:Rat):0≤x*x:=by
 rcases (Rat.le_total:0≤x∨x≤0) with h|h
 ·exact Rat.mul_nonneg h h
 ·have:=Rat.mul_nonneg (show 0≤-x by grind) (show 0≤-x by grind)
  grind
theorem c7W (a p:Pnt):0≤d2 a p:=by
 have h1:=a8T (a.1 - p.1);have h2:=a8T (a.2 - p.2);unfold d2;grind
def inR (w h:Rat)(z:Pnt):Bool:=decide (0≤z.1)&&(decide (0≤z.2)&&(decide (z.1≤w)&&decide (z.2≤h)))
theorem a3Q {w h:Rat}{z:Pnt}:inR w h z=true↔0≤z.1∧0≤z.2∧z.1≤w∧z.2≤h:=by
 unfold inR;simp only [Bool.and_eq_true,decide_eq_true_eq]
def a4r (P:List Pnt)(w h:Rat)(r:Rat)(z:Pnt):Rat:=if inR w h z=true∧r<a6P P z then a6P P z else r
def c7o (P:List Pnt)(w h:Rat)(l:List Pnt):Rat:=l.foldl (a4r P w h) 0
theorem b4B {P:List Pnt}{w h:Rat}:∀ (l:List Pnt) (r:Rat),r≤l.foldl (a4r P w h) r∧(∀ z∈l,inR w h z=true→a6P P z≤l.foldl (a4r P w h) r)∧(l.foldl (a4r P w h) r=r∨∃ z∈l,inR w h z=true∧l.foldl (a4r P w h) r=a6P P z)
 | [],r=>⟨Rat.le_refl,fun z hz=>(by cases hz),.inl rfl⟩
 | a::l,r=>by
  obtain ⟨h1,h2,h3⟩:=b4B (P:=P) (w:=w) (h:=h) l (a4r P w h r a);rw [List.foldl_cons];have k1:r≤a4r P w h r a:=by unfold a4r;split;exact Rat.le_of_lt ‹_∧_›.2;exact Rat.le_refl
  have k2:inR w h a=true→a6P P a≤a4r P w h r a:=fun q=>by
   unfold a4r;split
   ·exact Rat.le_refl
   ·rename_i n;exact Rat.not_lt.1 fun s=>n ⟨q,s⟩
  refine ⟨Rat.le_trans k1 h1,fun z hz q=>?_,?_⟩
  ·rcases List.mem_cons.1 hz with rfl|hz
   ·exact Rat.le_trans (k2 q) h1
   ·exact h2 z hz q
  ·rcases h3 with h3|⟨z,hz,q,e⟩
   ·rw [h3]
    unfold a4r;split
    ·rename_i q;exact .inr ⟨a,List.mem_cons_self,q.1,rfl⟩
    ·exact .inl rfl
   ·exact .inr ⟨z,List.mem_cons_of_mem _ hz,q,e⟩
theorem a6v (P:List Pnt)(w h:Rat)(l:List Pnt):0≤c7o P w h l∧(∀ z∈l,inR w h z=true→a6P P z≤c7o P w h l)∧(c7o P w h l=0∨∃ z∈l,inR w h z=true∧c7o P w h l=a6P P z):=b4B l 0
def bA (p q:Pnt):Rat:=2*(q.1 - p.1)
def bB (p q:Pnt):Rat:=2*(q.2 - p.2)
def bC (p q:Pnt):Rat:=q.1*q.1+q.2*q.2 - (p.1*p.1+p.2*p.2)
def b1b (p q:Pnt)(x:Rat):List Pnt:=if bB p q=0 then [] else [(x,(bC p q - bA p q*x) / bB p q)]
def b1c (p q:Pnt)(y:Rat):List Pnt:=if bA p q=0 then [] else [((bC p q - bB p q*y) / bA p q,y)]
def a7b (p q s:Pnt):Rat:=bA p q*bB s q - bB p q*bA s q
def b6V (p q s:Pnt):List Pnt:=if a7b p q s=0 then [] else [((bC p q*bB s q - bB p q*bC s q) / a7b p q s,(bA p q*bC s q - bC p q*bA s q) / a7b p q s)]
def a7i (p q:Pnt)(w h:Rat):List Pnt:=b1b p q 0++b1b p q w++b1c p q 0++b1c p q h
def b3c (P:List Pnt)(i k:Nat):Nat→List Pnt
 | 0=>[]
 | j+1=>b3c P i k j++b6V (pt P k) (pt P i) (pt P j)
def c0v (P:List Pnt)(w h:Rat)(i:Nat):Nat→List Pnt
 | 0=>[]
 | k+1=>c0v P w h i k++(a7i (pt P k) (pt P i) w h++b3c P i k k)
def a7K (P:List Pnt)(w h:Rat):Nat→List Pnt
 | 0=>[(0,0),(0,h),(w,0),(w,h)]
 | i+1=>a7K P w h i++c0v P w h i i
def a2I (P:List Pnt)(w h:Rat):List Pnt:=a7K P w h P.length
def a3z (P:List Pnt)(w h:Rat):Rat:=c7o P w h (a2I P w h)
theorem a7R {P:List Pnt}{i k:Nat}{z:Pnt}:∀ n,z∈b3c P i k n↔∃ j,j<n∧z∈b6V (pt P k) (pt P i) (pt P j)
 | 0=>⟨fun h=>(by cases h),fun ⟨j,h,_⟩=>absurd h (Nat.not_lt_zero j)⟩
 | n+1=>by
  unfold b3c;rw [List.mem_append,a7R n];constructor
  ·rintro (⟨j,h1,h2⟩|h)
   ·exact ⟨j,by omega,h2⟩
   ·exact ⟨n,by omega,h⟩
  ·rintro ⟨j,h1,h2⟩
   rcases Nat.lt_or_ge j n with q|q
   ·exact .inl ⟨j,q,h2⟩
   ·have:j=n:=by omega
    subst this;exact .inr h2
theorem a5V {P:List Pnt}{w h:Rat}{i:Nat}{z:Pnt}:∀ n,z∈c0v P w h i n↔∃ k,k<n∧(z∈a7i (pt P k) (pt P i) w h∨z∈b3c P i k k)
 | 0=>⟨fun h=>(by cases h),fun ⟨j,h,_⟩=>absurd h (Nat.not_lt_zero j)⟩
 | n+1=>by
  unfold c0v;rw [List.mem_append,a5V n,List.mem_append];constructor
  ·rintro (⟨j,h1,h2⟩|h)
   ·exact ⟨j,by omega,h2⟩
   ·exact ⟨n,by omega,h⟩
  ·rintro ⟨j,h1,h2⟩
   rcases Nat.lt_or_ge j n with q|q
   ·exact .inl ⟨j,q,h2⟩
   ·have:j=n:=by omega
    subst this;exact .inr h2
theorem a3t {P:List Pnt}{w h:Rat}{z:Pnt}:∀ n,z∈a7K P w h n↔z∈[((0,0):Pnt),(0,h),(w,0),(w,h)]∨∃ i,i<n∧z∈c0v P w h i i
 | 0=>⟨fun h=>.inl h,fun q=>q.elim id fun ⟨j,h,_⟩=>absurd h (Nat.not_lt_zero j)⟩
 | n+1=>by
  unfold a7K;rw [List.mem_append,a3t n];constructor
  ·rintro ((h|⟨j,h1,h2⟩)|h)
   ·exact .inl h
   ·exact .inr ⟨j,by omega,h2⟩
   ·exact .inr ⟨n,by omega,h⟩
  ·rintro (h|⟨j,h1,h2⟩)
   ·exact .inl (.inl h)
   ·rcases Nat.lt_or_ge j n with q|q
    ·exact .inl (.inr ⟨j,q,h2⟩)
    ·have:j=n:=by omega
     subst this;exact .inr h2
theorem c6G {p q:Pnt}{t:Rat}:(p.2*p.2+(p.1 - t)*(p.1 - t) - q.2*q.2 - (q.1 - t)*(q.1 - t)) / ((p.2 - q.2)+(p.2 - q.2))=(bC q p - bA q p*t) / bB q p:=by
 have e1:p.2*p.2+(p.1 - t)*(p.1 - t) - q.2*q.2 - (q.1 - t)*(q.1 - t)=bC q p - bA q p*t:=by unfold bC bA;grind
 have e2:(p.2 - q.2)+(p.2 - q.2)=bB q p:=by unfold bB;grind
 rw [e1,e2]
theorem c2p {p q:Pnt}{t:Rat}:(p.1*p.1+(p.2 - t)*(p.2 - t) - q.1*q.1 - (q.2 - t)*(q.2 - t)) / ((p.1 - q.1)+(p.1 - q.1))=(bC q p - bB q p*t) / bA q p:=by
 have e1:p.1*p.1+(p.2 - t)*(p.2 - t) - q.1*q.1 - (q.2 - t)*(q.2 - t)=bC q p - bB q p*t:=by unfold bC bB;grind
 have e2:(p.1 - q.1)+(p.1 - q.1)=bA q p:=by unfold bA;grind
 rw [e1,e2]
def crs (p q s:Pnt):Rat:=(q.1 - p.1)*(s.2 - p.2) - (q.2 - p.2)*(s.1 - p.1)
theorem a6o (p q s:Pnt):a7b q p s=4*crs p q s:=by unfold a7b bA bB crs;grind
def c0I (p q s:Pnt):Rat:=((s.2 - p.2)*((q.1 - p.1)*(q.1 - p.1)+(q.2 - p.2)*(q.2 - p.2)) - (q.2 - p.2)*((s.1 - p.1)*(s.1 - p.1)+(s.2 - p.2)*(s.2 - p.2))) / (crs p q s+crs p q s)
def c0J (p q s:Pnt):Rat:=((q.1 - p.1)*((s.1 - p.1)*(s.1 - p.1)+(s.2 - p.2)*(s.2 - p.2)) - (s.1 - p.1)*((q.1 - p.1)*(q.1 - p.1)+(q.2 - p.2)*(q.2 - p.2))) / (crs p q s+crs p q s)
theorem b6X {p q s:Pnt}(h:crs p q s≠0):p.1+c0I p q s=(bC q p*bB s p - bB q p*bC s p) / a7b q p s∧p.2+c0J p q s=(bA q p*bC s p - bC q p*bA s p) / a7b q p s:=by
 have h2:crs p q s+crs p q s≠0:=by grind
 have h4:a7b q p s≠0:=by rw [a6o];grind
 have i1:=Rat.mul_inv_cancel _ h2;have key:∀ (a n m:Rat),n*a7b q p s+a*((crs p q s+crs p q s)*a7b q p s)=m*(crs p q s+crs p q s)→a+n / (crs p q s+crs p q s)=m / a7b q p s:=fun a n m e=>by
  have i2:=Rat.mul_inv_cancel _ h4;rw [Rat.div_def,Rat.div_def];generalize (crs p q s+crs p q s)⁻¹=u at *;generalize (a7b q p s)⁻¹=v at *;generalize crs p q s+crs p q s=c at *;generalize a7b q p s=d at *;have e2:(n*d+a*(c*d))*(u*v)=m*c*(u*v):=by rw [e]
  grind
 refine ⟨key _ _ _ ?_,key _ _ _ ?_⟩
 ·rw [a6o];unfold bB bC crs;grind
 ·rw [a6o];unfold bA bC crs;grind
theorem c6d:((1:Nat):Rat)=1:=by decide +kernel
theorem a4Q:((0:Nat):Rat)=0:=by decide +kernel
theorem b3E (r:Rat):r*(r.den:Rat)=(r.num:Rat):=by
 have h:r=(r.num:Rat) / ((r.den:Int):Rat):=by rw [← Rat.divInt_eq_div,Rat.num_divInt_den]
 have h0:((r.den:Int):Rat)≠0:=fun e=>r.den_nz (by
  have:=Rat.intCast_inj.1 (e.trans Rat.intCast_zero.symm)
  omega)
 have h2:(r.num:Rat) / ((r.den:Int):Rat)*((r.den:Int):Rat)=(r.num:Rat):=Rat.div_mul_cancel h0;rw [← h,Rat.intCast_natCast] at h2;exact h2
def dvi (M:Nat)(r:Rat):Prop:=∃ n:Int,r*(M:Rat)=(n:Rat)
theorem a2F (r:Rat):dvi r.den r:=⟨r.num,b3E r⟩
theorem b7r (n:Int):dvi 1 (n:Rat):=⟨n,by rw [c6d,Rat.mul_one]⟩
theorem a1W {M:Nat}{r:Rat}(K:Nat)(h:dvi M r):dvi (M*K) r:=by
 obtain ⟨n,hn⟩:=h;refine ⟨n*K,?_⟩;rw [Rat.natCast_mul,Rat.intCast_mul,Rat.intCast_natCast,← hn];grind
theorem a7X {M:Nat}{a b:Rat}(h:dvi M a)(k:dvi M b):dvi M (a+b):=by
 obtain ⟨n,hn⟩:=h;obtain ⟨m,hm⟩:=k;exact ⟨n+m,by rw [Rat.intCast_add,← hn,← hm];grind⟩
theorem a2g {M:Nat}{a b:Rat}(h:dvi M a)(k:dvi M b):dvi M (a - b):=by
 obtain ⟨n,hn⟩:=h;obtain ⟨m,hm⟩:=k;exact ⟨n - m,by rw [Rat.intCast_sub,← hn,← hm];grind⟩
theorem a1U {M N:Nat}{a b:Rat}(h:dvi M a)(k:dvi N b):dvi (M*N) (a*b):=by
 obtain ⟨n,hn⟩:=h;obtain ⟨m,hm⟩:=k;exact ⟨n*m,by rw [Rat.intCast_mul,Rat.natCast_mul,← hn,← hm];grind⟩
theorem a6r {M:Nat}{a:Rat}(h:dvi M a):dvi M (2*a):=by
 have:(2:Rat)*a=a+a:=by grind
 rw [this];exact a7X h h
theorem b0C {K B:Nat}{N b:Rat}{e:Int}(h:dvi (K*B) N)(he:b*(B:Rat)=(e:Rat))(h0:b≠0):dvi (K*e.natAbs) (N / b):=by
 obtain ⟨n,hn⟩:=h;have hc:N / b*b=N:=Rat.div_mul_cancel h0;have key:N / b*((K:Rat)*(e:Rat))=(n:Rat):=by
  rw [← he,← hn,Rat.natCast_mul];generalize N / b=q at *;rw [← hc];grind
 rcases Int.natAbs_eq e with h1|h1
 ·refine ⟨n,?_⟩
  rw [Rat.natCast_mul,← key]
  have:(e:Rat)=((e.natAbs:Nat):Rat):=by rw [← Rat.intCast_natCast,← h1]
  rw [this]
 ·refine ⟨-n,?_⟩
  rw [Rat.natCast_mul,Rat.intCast_neg,← key]
  have:(e:Rat) = -((e.natAbs:Nat):Rat):=by rw [← Rat.intCast_natCast,← Rat.intCast_neg,← h1]
  rw [this];grind
theorem b5G {M:Nat}{r:Rat}(h:dvi M r)(hM:0<M):r.den≤M:=by
 obtain ⟨n,hn⟩:=h;have e:r.num*(M:Int)=n*(r.den:Int):=by
  refine Rat.intCast_inj.1 ?_;rw [Rat.intCast_mul,Rat.intCast_mul,← b3E,← hn,Rat.intCast_natCast,Rat.intCast_natCast];grind
 have d:r.den ∣ r.num.natAbs*M:=by
  have:=congrArg Int.natAbs e
  rw [Int.natAbs_mul,Int.natAbs_mul,Int.natAbs_natCast,Int.natAbs_natCast] at this;exact ⟨n.natAbs,by rw [this,Nat.mul_comm]⟩
 exact Nat.le_of_dvd hM (Nat.Coprime.dvd_of_dvd_mul_left r.reduced.symm d)
theorem c8e {M B:Nat}{r:Rat}(h:dvi M r)(hM:0<M)(h0:0≤r)(h1:r≤(B:Rat)):nb r (B*M) M:=by
 have hd:=b5G h hM;refine ⟨?_,hd⟩;have hp:(0:Rat)≤(r.den:Rat):=by
  rw [← Rat.intCast_natCast];exact Rat.intCast_nonneg.2 (Int.natCast_nonneg _)
 have h2:=Rat.mul_le_mul_of_nonneg_right h1 hp;have h3:=Rat.mul_nonneg h0 hp;rw [b3E] at h2 h3;rw [← Rat.natCast_mul,← Rat.intCast_natCast] at h2;have h4:=Rat.intCast_le_intCast.1 h2;have h5:=Rat.intCast_nonneg.1 h3;have h6:B*r.den≤B*M:=Nat.mul_le_mul_left _ hd;omega
theorem b4M {S u v:Rat}(h1 : -S≤u)(h2:u≤S)(h3 : -S≤v)(h4:v≤S) : -(S*S)≤u*v∧u*v≤S*S:=by
 have a:=Rat.mul_nonneg (show 0≤S - u by grind) (show 0≤S+v by grind);have b:=Rat.mul_nonneg (show 0≤S+u by grind) (show 0≤S - v by grind);have c:=Rat.mul_nonneg (show 0≤S - u by grind) (show 0≤S - v by grind);have d:=Rat.mul_nonneg (show 0≤S+u by grind) (show 0≤S+v by grind);constructor<;>grind
theorem c2F {e:Int}{B:Nat}{b S:Rat}(he:b*(B:Rat)=(e:Rat))(h1 : -S≤b)(h2:b≤S){T:Nat}(hS:S=(T:Rat)):e.natAbs≤T*B:=by
 have hp:(0:Rat)≤(B:Rat):=by
  rw [← Rat.intCast_natCast];exact Rat.intCast_nonneg.2 (Int.natCast_nonneg _)
 have k1:=Rat.mul_le_mul_of_nonneg_right h1 hp;have k2:=Rat.mul_le_mul_of_nonneg_right h2 hp;rw [he,hS] at k1 k2;have e1 : -(T:Rat)*(B:Rat)=((-((T*B:Nat):Int):Int):Rat):=by rw [Rat.intCast_neg,Rat.intCast_natCast,Rat.natCast_mul];grind
 have e2:(T:Rat)*(B:Rat)=(((T*B:Nat):Int):Rat):=by rw [Rat.intCast_natCast,Rat.natCast_mul]
 rw [e1] at k1;rw [e2] at k2;have k1:=Rat.intCast_le_intCast.1 k1;have k2:=Rat.intCast_le_intCast.1 k2;omega
def E12:Nat:=10^12
structure Okp (p:Pnt):Prop where
 l1:0≤p.1
 l2:0≤p.2
 h1:p.1≤100000
 h2:p.2≤100000
 d1:p.1.den≤E12
 d2:p.2.den≤E12
def d2I (M:Nat)(z:Pnt):Prop:=dvi M z.1∧dvi M z.2
theorem d2S {z p:Pnt}{M N:Nat}(h:d2I M z)(hM:0<M)(hN:M≤N)(z1:0≤z.1)(z2:0≤z.2)(z3:z.1≤100000)(z4:z.2≤100000)(hp:Okp p):nb (d2 z p) (20000000000*(N*(E12*E12)*(N*(E12*E12)))) (N*(E12*E12)*(N*(E12*E12))):=by
 have b1:dvi (M*(p.1.den*p.2.den)) (z.1 - p.1):=by
  refine a2g (a1W _ h.1) ?_
  have:=a1W (M*p.2.den) (a2F p.1)
  rwa [show p.1.den*(M*p.2.den)=M*(p.1.den*p.2.den) from by ac_rfl] at this
 have b2:dvi (M*(p.1.den*p.2.den)) (z.2 - p.2):=by
  refine a2g (a1W _ h.2) ?_
  have:=a1W (M*p.1.den) (a2F p.2)
  rwa [show p.2.den*(M*p.1.den)=M*(p.1.den*p.2.den) from by ac_rfl] at this
 have b3:=a7X (a1U b1 b1) (a1U b2 b2);have hpos:0<M*(p.1.den*p.2.den):=Nat.mul_pos hM (Nat.mul_pos p.1.den_pos p.2.den_pos);have hle:M*(p.1.den*p.2.den)≤N*(E12*E12):=Nat.mul_le_mul hN (Nat.mul_le_mul hp.d1 hp.d2);have c1:=(b4M (S:=100000) (u:=z.1 - p.1) (v:=z.1 - p.1) (by have:=hp.h1;grind) (by have:=hp.l1;grind) (by have:=hp.h1;grind) (by have:=hp.l1;grind)).2;have c2:=(b4M (S:=100000) (u:=z.2 - p.2) (v:=z.2 - p.2) (by have:=hp.h2;grind) (by have:=hp.l2;grind) (by have:=hp.h2;grind) (by have:=hp.l2;grind)).2;have hB:d2 z p≤((20000000000:Nat):Rat):=by
  have:((20000000000:Nat):Rat)=100000*100000+100000*100000:=by decide +kernel
  rw [this];unfold d2;grind
 have:=c8e (r:=d2 z p) b3 (Nat.mul_pos hpos hpos) (c7W z p) hB
 exact this.mono (Nat.mul_le_mul_left _ (Nat.mul_le_mul hle hle)) (Nat.mul_le_mul hle hle)
theorem b5m {p q:Pnt}(hp:Okp p)(hq:Okp q)(t:Nat)(h0:bB p q≠0):∃ M,0<M∧M≤200000*(E12*E12*E12*E12*(E12*E12*E12*E12)*(E12*E12*E12*E12))∧dvi M ((bC p q - bA p q*(t:Rat)) / bB p q):=by
 obtain ⟨D,hD⟩:∃ D,p.1.den*p.2.den*q.1.den*q.2.den=D:=⟨_,rfl⟩
 have hDp:0<D:=hD ▸ Nat.mul_pos (Nat.mul_pos (Nat.mul_pos p.1.den_pos p.2.den_pos) q.1.den_pos) q.2.den_pos;have hDl:D≤E12*E12*E12*E12:=hD ▸ Nat.mul_le_mul (Nat.mul_le_mul (Nat.mul_le_mul hp.d1 hp.d2) hq.d1) hq.d2;have e1:dvi D p.1:=by have:=a1W (p.2.den*q.1.den*q.2.den) (a2F p.1);rwa [show p.1.den*(p.2.den*q.1.den*q.2.den)=D from by rw [← hD];ac_rfl] at this
 have e2:dvi D p.2:=by have:=a1W (p.1.den*q.1.den*q.2.den) (a2F p.2);rwa [show p.2.den*(p.1.den*q.1.den*q.2.den)=D from by rw [← hD];ac_rfl] at this
 have e3:dvi D q.1:=by have:=a1W (p.1.den*p.2.den*q.2.den) (a2F q.1);rwa [show q.1.den*(p.1.den*p.2.den*q.2.den)=D from by rw [← hD];ac_rfl] at this
 have e4:dvi D q.2:=by have:=a1W (p.1.den*p.2.den*q.1.den) (a2F q.2);rwa [show q.2.den*(p.1.den*p.2.den*q.1.den)=D from by rw [← hD];ac_rfl] at this
 have b1:dvi D (bB p q):=a6r (a2g e4 e2);have b2:dvi (D*D) (bA p q*(t:Rat)):=by
  have:=a1W D (a1U (a6r (a2g e3 e1)) (b7r (t:Int)))
  rw [Rat.intCast_natCast,Nat.mul_one] at this;exact this
 have b3:dvi (D*D) (bC p q):=a2g (a7X (a1U e3 e3) (a1U e4 e4)) (a7X (a1U e1 e1) (a1U e2 e2));have b4:=a2g b3 b2;obtain ⟨e,he⟩:=b1;have hne:e≠0:=fun h=>by
  rw [h,Rat.intCast_zero] at he;rcases Rat.mul_eq_zero.1 he with k|k
  ·exact h0 k
  ·have:=Rat.natCast_inj.1 (k.trans a4Q.symm);omega
 have hb:e.natAbs≤200000*D:=c2F (S:=200000) he (by have:=hp.h2;have:=hq.l2;unfold bB;grind) (by have:=hp.l2;have:=hq.h2;unfold bB;grind) (by decide +kernel);refine ⟨D*e.natAbs,Nat.mul_pos hDp (by omega),?_,b0C b4 he h0⟩;refine Nat.le_trans (Nat.mul_le_mul_left D hb) ?_;rw [show D*(200000*D)=200000*(D*D) from by ac_rfl];refine Nat.mul_le_mul_left _ (Nat.le_trans (Nat.mul_le_mul hDl hDl) (Nat.le_mul_of_pos_right _ (by decide)))
theorem b9J {p q:Pnt}(hp:Okp p)(hq:Okp q)(t:Nat)(h0:bA p q≠0):∃ M,0<M∧M≤200000*(E12*E12*E12*E12*(E12*E12*E12*E12)*(E12*E12*E12*E12))∧dvi M ((bC p q - bB p q*(t:Rat)) / bA p q):=by
 have h:=b5m (p:=(p.2,p.1)) (q:=(q.2,q.1)) ⟨hp.l2,hp.l1,hp.h2,hp.h1,hp.d2,hp.d1⟩ ⟨hq.l2,hq.l1,hq.h2,hq.h1,hq.d2,hq.d1⟩ t h0;have e:bC (p.2,p.1) (q.2,q.1)=bC p q:=by unfold bC;grind
 rw [e] at h;exact h
theorem c5e {p q s:Pnt}(hp:Okp p)(hq:Okp q)(hs:Okp s)(h0:a7b p q s≠0):∃ M,0<M∧M≤80000000000*(E12*E12*E12*(E12*E12*E12)*(E12*E12*E12)*(E12*E12*E12)*(E12*E12*E12)*(E12*E12*E12))∧d2I M ((bC p q*bB s q - bB p q*bC s q) / a7b p q s,(bA p q*bC s q - bC p q*bA s q) / a7b p q s):=by
 obtain ⟨X,hX⟩:∃ D,p.1.den*q.1.den*s.1.den=D:=⟨_,rfl⟩
 obtain ⟨Y,hY⟩:∃ D,p.2.den*q.2.den*s.2.den=D:=⟨_,rfl⟩
 have hXp:0<X:=hX ▸ Nat.mul_pos (Nat.mul_pos p.1.den_pos q.1.den_pos) s.1.den_pos;have hYp:0<Y:=hY ▸ Nat.mul_pos (Nat.mul_pos p.2.den_pos q.2.den_pos) s.2.den_pos;have hXl:X≤E12*E12*E12:=hX ▸ Nat.mul_le_mul (Nat.mul_le_mul hp.d1 hq.d1) hs.d1;have hYl:Y≤E12*E12*E12:=hY ▸ Nat.mul_le_mul (Nat.mul_le_mul hp.d2 hq.d2) hs.d2;have x1:dvi X p.1:=by have:=a1W (q.1.den*s.1.den) (a2F p.1);rwa [show p.1.den*(q.1.den*s.1.den)=X from by rw [← hX];ac_rfl] at this
 have x2:dvi X q.1:=by have:=a1W (p.1.den*s.1.den) (a2F q.1);rwa [show q.1.den*(p.1.den*s.1.den)=X from by rw [← hX];ac_rfl] at this
 have x3:dvi X s.1:=by have:=a1W (p.1.den*q.1.den) (a2F s.1);rwa [show s.1.den*(p.1.den*q.1.den)=X from by rw [← hX];ac_rfl] at this
 have y1:dvi Y p.2:=by have:=a1W (q.2.den*s.2.den) (a2F p.2);rwa [show p.2.den*(q.2.den*s.2.den)=Y from by rw [← hY];ac_rfl] at this
 have y2:dvi Y q.2:=by have:=a1W (p.2.den*s.2.den) (a2F q.2);rwa [show q.2.den*(p.2.den*s.2.den)=Y from by rw [← hY];ac_rfl] at this
 have y3:dvi Y s.2:=by have:=a1W (p.2.den*q.2.den) (a2F s.2);rwa [show s.2.den*(p.2.den*q.2.den)=Y from by rw [← hY];ac_rfl] at this
 have a1:dvi X (bA p q):=a6r (a2g x2 x1);have a2:dvi X (bA s q):=a6r (a2g x2 x3);have b1:dvi Y (bB p q):=a6r (a2g y2 y1);have b2:dvi Y (bB s q):=a6r (a2g y2 y3);have sq:∀ u v:Pnt,dvi X u.1→dvi Y u.2→dvi X v.1→dvi Y v.2→dvi (X*X*(Y*Y)) (bC u v):=fun u v u1 u2 v1 v2=>by
  have k:∀ a b:Rat,dvi X a→dvi Y b→dvi (X*X*(Y*Y)) (a*a+b*b):=fun a b ha hb=>by
   refine a7X (a1W _ (a1U ha ha)) ?_
   have:=a1W (X*X) (a1U hb hb)
   rwa [Nat.mul_comm (Y*Y)] at this
  exact a2g (k _ _ v1 v2) (k _ _ u1 u2)
 have c1:=sq p q x1 y1 x2 y2;have c2:=sq s q x3 y3 x2 y2;have dt:dvi (X*Y) (a7b p q s):=by
  refine a2g (a1U a1 b2) ?_
  have:=a1U b1 a2
  rwa [Nat.mul_comm Y X] at this
 have n1:dvi (X*(Y*Y)*(X*Y)) (bC p q*bB s q - bB p q*bC s q):=by
  have k1:=a1U c1 b2;have k2:=a1U b1 c2;rw [show X*X*(Y*Y)*Y=X*(Y*Y)*(X*Y) from by ac_rfl] at k1;rw [show Y*(X*X*(Y*Y))=X*(Y*Y)*(X*Y) from by ac_rfl] at k2;exact a2g k1 k2
 have n2:dvi (X*X*Y*(X*Y)) (bA p q*bC s q - bC p q*bA s q):=by
  have k1:=a1U a1 c2;have k2:=a1U c1 a2;rw [show X*(X*X*(Y*Y))=X*X*Y*(X*Y) from by ac_rfl] at k1;rw [show X*X*(Y*Y)*X=X*X*Y*(X*Y) from by ac_rfl] at k2;exact a2g k1 k2
 obtain ⟨e,he⟩:=dt;have hne:e≠0:=fun h=>by
  rw [h,Rat.intCast_zero] at he;rcases Rat.mul_eq_zero.1 he with k|k
  ·exact h0 k
  ·have:=Rat.natCast_inj.1 (k.trans a4Q.symm)
   have:=Nat.mul_pos hXp hYp
   omega
 have hb:e.natAbs≤80000000000*(X*Y):=by
  have bd:∀ u v:Rat,0≤u→u≤100000→0≤v→v≤100000→-200000≤2*(u - v)∧2*(u - v)≤200000:=fun u v _ _ _ _=>by constructor<;>grind
  have m1:=bd q.1 p.1 hq.l1 hq.h1 hp.l1 hp.h1;have m2:=bd q.2 s.2 hq.l2 hq.h2 hs.l2 hs.h2;have m3:=bd q.2 p.2 hq.l2 hq.h2 hp.l2 hp.h2;have m4:=bd q.1 s.1 hq.l1 hq.h1 hs.l1 hs.h1;have k1:=b4M m1.1 m1.2 m2.1 m2.2;have k2:=b4M m3.1 m3.2 m4.1 m4.2;have e8:(200000:Rat)*200000=40000000000:=by decide +kernel
  rw [e8] at k1 k2;refine c2F (S:=80000000000) he ?_ ?_ (by decide +kernel)
  ·unfold a7b bA bB;grind
  ·unfold a7b bA bB;grind
 have q1:=a1W X (b0C n1 he h0);have q2:=a1W Y (b0C n2 he h0);rw [show X*(Y*Y)*e.natAbs*X=X*X*Y*Y*e.natAbs from by ac_rfl] at q1;rw [show X*X*Y*e.natAbs*Y=X*X*Y*Y*e.natAbs from by ac_rfl] at q2;refine ⟨X*X*Y*Y*e.natAbs,Nat.mul_pos (Nat.mul_pos (Nat.mul_pos (Nat.mul_pos hXp hXp) hYp) hYp) (by omega),?_,q1,q2⟩;refine Nat.le_trans (Nat.mul_le_mul_left _ hb) ?_;rw [show X*X*Y*Y*(80000000000*(X*Y))=80000000000*(X*X*X*Y*Y*Y) from by ac_rfl];exact Nat.mul_le_mul_left _ (Nat.mul_le_mul (Nat.mul_le_mul (Nat.mul_le_mul (Nat.mul_le_mul (Nat.mul_le_mul hXl hXl) hXl) hYl) hYl) hYl)
def d4Q:Nat:=80000000000*(E12*E12*E12*(E12*E12*E12)*(E12*E12*E12)*(E12*E12*E12)*(E12*E12*E12)*(E12*E12*E12))
theorem b2m:200000*(E12*E12*E12*E12*(E12*E12*E12*E12)*(E12*E12*E12*E12))≤d4Q:=by decide +kernel
theorem b0O (M n:Nat):dvi M ((n:Nat):Rat):=by
 have:=a1W M (b7r (n:Int))
 rwa [Rat.intCast_natCast,Nat.one_mul] at this
theorem b5n {p q z:Pnt}{w h:Nat}(hz:z∈a7i p q (w:Rat) (h:Rat)):(∃ t:Nat,bB p q≠0∧(t=0∨t=w)∧z=((t:Rat),(bC p q - bA p q*(t:Rat)) / bB p q))∨(∃ t:Nat,bA p q≠0∧(t=0∨t=h)∧z=((bC p q - bB p q*(t:Rat)) / bA p q,(t:Rat))):=by
 have sx:∀ t:Nat,z∈b1b p q (t:Rat)→bB p q≠0∧z=((t:Rat),(bC p q - bA p q*(t:Rat)) / bB p q):=fun t ht=>by
  unfold b1b at ht;split at ht
  ·cases ht
  ·rename_i g;exact ⟨g,List.mem_singleton.1 ht⟩
 have sy:∀ t:Nat,z∈b1c p q (t:Rat)→bA p q≠0∧z=((bC p q - bB p q*(t:Rat)) / bA p q,(t:Rat)):=fun t ht=>by
  unfold b1c at ht;split at ht
  ·cases ht
  ·rename_i g;exact ⟨g,List.mem_singleton.1 ht⟩
 unfold a7i at hz;rw [← a4Q] at hz;rcases List.mem_append.1 hz with hz|hz
 ·rcases List.mem_append.1 hz with hz|hz
  ·rcases List.mem_append.1 hz with hz|hz
   ·obtain ⟨a,b⟩:=sx 0 hz;exact .inl ⟨0,a,.inl rfl,b⟩
   ·obtain ⟨a,b⟩:=sx w hz;exact .inl ⟨w,a,.inr rfl,b⟩
  ·obtain ⟨a,b⟩:=sy 0 hz;exact .inr ⟨0,a,.inl rfl,b⟩
 ·obtain ⟨a,b⟩:=sy h hz;exact .inr ⟨h,a,.inr rfl,b⟩
theorem b6W {p q s z:Pnt}(hz:z∈b6V p q s):a7b p q s≠0∧z=((bC p q*bB s q - bB p q*bC s q) / a7b p q s,(bA p q*bC s q - bC p q*bA s q) / a7b p q s):=by
 unfold b6V at hz;split at hz
 ·cases hz
 ·rename_i g;exact ⟨g,List.mem_singleton.1 hz⟩
theorem b5s {P:List Pnt}{w h:Nat}{z:Pnt}(hz:z∈a2I P (w:Rat) (h:Rat)):(∃ x y:Nat,(x=0∨x=w)∧(y=0∨y=h)∧z=((x:Rat),(y:Rat)))∨∃ i k,i<P.length∧k<i∧(z∈a7i (pt P k) (pt P i) (w:Rat) (h:Rat)∨∃ j,j<k∧z∈b6V (pt P k) (pt P i) (pt P j)):=by
 rcases (a3t _).1 hz with h1|⟨i,hi,h1⟩
 ·left
  rw [← a4Q] at h1;simp only [List.mem_cons,List.not_mem_nil,or_false] at h1;rcases h1 with rfl|rfl|rfl|rfl
  ·exact ⟨0,0,.inl rfl,.inl rfl,rfl⟩
  ·exact ⟨0,h,.inl rfl,.inr rfl,rfl⟩
  ·exact ⟨w,0,.inr rfl,.inl rfl,rfl⟩
  ·exact ⟨w,h,.inr rfl,.inr rfl,rfl⟩
 ·right
  obtain ⟨k,hk,h2⟩:=(a5V _).1 h1;exact ⟨i,k,hi,hk,h2.imp id fun h3=>(a7R _).1 h3⟩
theorem c2t {P:List Pnt}{w h:Nat}(hP:∀ p∈P,Okp p){z:Pnt}(hz:z∈a2I P (w:Rat) (h:Rat)):∃ M,0<M∧M≤d4Q∧d2I M z:=by
 rcases b5s hz with ⟨x,y,-,-,rfl⟩|⟨i,k,hi,hk,h1⟩
 ·exact ⟨1,by decide,by decide +kernel,b0O 1 x,b0O 1 y⟩
 ·have pi:=hP _ (a9Y (P:=P) (i:=i) hi)
  have pk:=hP _ (a9Y (P:=P) (i:=k) (by omega));rcases h1 with h1|⟨j,hj,h1⟩
  ·rcases b5n h1 with ⟨t,h0,-,rfl⟩|⟨t,h0,-,rfl⟩
   ·obtain ⟨M,m1,m2,m3⟩:=b5m pk pi t h0
    exact ⟨M,m1,Nat.le_trans m2 b2m,b0O M t,m3⟩
   ·obtain ⟨M,m1,m2,m3⟩:=b9J pk pi t h0
    exact ⟨M,m1,Nat.le_trans m2 b2m,m3,b0O M t⟩
  ·have pj:=hP _ (a9Y (P:=P) (i:=j) (by omega))
   obtain ⟨h0,rfl⟩:=b6W h1;exact c5e pk pi pj h0
theorem a8h {P:List Pnt}{w h:Nat}(hl:0<P.length)(hP:∀ p∈P,Okp p)(hw:w≤100000)(hh:h≤100000):b1p (a3z P (w:Rat) (h:Rat))=false:=by
 rcases (a6v P (w:Rat) (h:Rat) (a2I P (w:Rat) (h:Rat))).2.2 with e|⟨z,hz,hi,e⟩
 ·unfold a3z;rw [e];exact b8H c6f (by decide +kernel) (by decide +kernel)
 ·unfold a3z;rw [e]
  obtain ⟨⟨p,hp,e2⟩,-⟩:=a3S hl z;obtain ⟨M,m1,m2,m3⟩:=c2t hP hz;obtain ⟨i1,i2,i3,i4⟩:=a3Q.1 hi;have c:∀ n:Nat,n≤100000→(n:Rat)≤100000:=fun n hn=>by
   have:=Rat.intCast_le_intCast.2 (show (n:Int)≤((100000:Nat):Int) by omega)
   rw [Rat.intCast_natCast,Rat.intCast_natCast] at this;exact this
  rw [e2];exact b8H (d2S m3 m1 m2 i1 i2 (Rat.le_trans i3 (c w hw)) (Rat.le_trans i4 (c h hh)) (hP p hp)) (by decide +kernel) (by decide +kernel)
def two (a b:Nat):Nat:=if a≠0 then a else b
theorem c1t (r:Rat):(a8i r).length≤100000:=by
 unfold a8i b1p;split
 ·exact Nat.zero_le _
 ·rename_i h
  simp only [Bool.or_eq_true,decide_eq_true_eq,not_or] at h;have h1:(Lib.itoa r.num).length≤601:=by
   unfold Lib.itoa;split
   ·rw [List.length_cons];omega
   ·rw [show r.num.toNat=r.num.natAbs by omega];omega
  unfold txt;split
  ·omega
  ·rw [List.length_append,List.length_cons];omega
theorem c0Q (a b:Rat):a3x a b<0↔a<b:=by
 unfold a3x;split
 ·rename_i h;exact ⟨fun _=>h,fun _=>by decide⟩
 ·rename_i h
  split
  ·exact ⟨fun q=>absurd q (by decide),fun q=>absurd q h⟩
  ·exact ⟨fun q=>absurd q (by decide),fun q=>absurd q h⟩
def a4u (x y:GF):D:=.agg [i64 x.n.s,x.n.w,i64 (mkG (x.d:Int)).s,(mkG (x.d:Int)).w,i64 y.n.s,y.n.w,i64 (mkG (y.d:Int)).s,(mkG (y.d:Int)).w]
instance  (x y:GF):CellsPure (a4u x y):=by unfold a4u;exact inferInstance
instance  (x y:GF):IsPure (a4u x y):=by unfold a4u;exact inferInstance
theorem d2v (z:Int)(h:Sm z):a0b C0 77 [i64 z] (⟨mkG z,1⟩:GF).D:=by
 have e:(⟨mkG z,1⟩:GF).D=smF z 1:=by
  unfold GF.D;rw [b8D,a5U h];rfl
 rw [e];exact d3b z
noncomputable def X5:EV:=⟨tbt.get,xbt.get,fbt.get,fun _=>false,fun _ _=>none,mtA,b6x⟩
theorem d5i:a9k C0 X5:=⟨tab,b3Q,ftab,fun _ _ _ h=>by simp [X5] at h,by kernel_rfl,b2l,a5w⟩
theorem c7S (a b:Rat) : -1≤a3x a b∧a3x a b≤1:=by
 unfold a3x;split
 ·decide
 ·split<;>decide
namespace PickW
theorem w1:WOk C0 X5:=d5i.w
theorem pick_ok {a b:Rat}{x y:GF}{i j:Nat}(hx:FR a x i)(hy:FR b y j)(hk:i+j<300000)(sg:Int)(hs:sg=1∨sg = -1):a0b C0 157 [x.D,y.D,i64 sg] (if a3x a b*sg≥0 then x.D else y.D):=by
 refine a0c.walk w1 c3m rfl fun F=>?_
 have cc:=a7Y hx hy hk;have hb:=c7S a b;have hw:IntKind.i64.wrap (a3x a b*sg)=a3x a b*sg:=by
  rcases hs with rfl|rfl
  ·exact wI (by omega) (by omega)
  ·exact wI (by omega) (by omega)
 generalize a3x a b=K at *;unfold GF.D at *;have p1:IsPure x.n.w:=inferInstance;have p2:IsPure y.n.w:=inferInstance;generalize mkG (x.d:Int)=X2 at *;generalize mkG (y.d:Int)=Y2 at *;obtain ⟨p,hp⟩:∃ p,decide (K*sg≥0)=p:=⟨_,rfl⟩
 refine sR 0 ?_;refine OkS.seq ?_;refine sZ 100 ?_;refine gwI kN ?_;refine a0l.same _ cc inferInstance ?_;cases p
 ·rw [if_neg (of_decide_eq_false hp)]
  refine gwI (ff2 hw hp) ?_;refine ifI ?_;refine skI ?_;refine sR 300 ?_;refine rtI ?_;exact a0a rfl IsPure.out
 ·rw [if_pos (of_decide_eq_true hp)]
  refine gwI (ff2 hw hp) ?_;refine ifI ?_;refine sR 200 ?_;refine rtI ?_;exact a0a rfl IsPure.out
end PickW
abbrev a7n:Dr:=[(1,[0,1,2,3,4],[5,6,7,8]),(4,[0,1,2,3,4,5,6,7],[8]),(5,[0,1,2,3,4,5,6,7,8,9,10,11,12,13,14,15,16,17,18,19,20,21,22],[23,24,25,26]),(6,[0,1,2,3,4,5,6,7,8,9,10,11,12,13],[14,15])]
abbrev b7q:Dr:=[(1,[0,1,2,3,4,5,6,7,8,9,10,11],[12,13]),(2,[0,1,2,3,4],[5,6,7])]
open Go.Proofs Go.RowKit
set_option maxRecDepth 20000
set_option maxHeartbeats 4000000
structure a0F where
 x:List UInt8
 y:List UInt8
 wt:Int
def a0F.D (p:a0F):D:=.agg [str (sb p.x),str (sb p.y),i64 p.wt]
instance  (p:a0F):CellsPure p.D:=by unfold a0F.D;exact inferInstance
instance  (p:a0F):IsPure p.D:=by unfold a0F.D;exact inferInstance
def a0F.few (p:a0F):Prop:=p.x.length≤100000∧p.y.length≤100000
def a0F.pt (p:a0F):Pnt:=(a1x p.x,a1x p.y)
def wtB (w:Int):Bool:=decide (1≤w)&&decide (w≤999999999)
def a0F.bad (p:a0F)(l w:Nat):Nat:=if two (chk p.x) (chk p.y)≠0 then two (chk p.x) (chk p.y) else if inR (l:Rat) (w:Rat) p.pt&&wtB p.wt then 0 else 3
def c0t:D:=.agg [i64 0,a2d,i64 0,a2d,i64 0,a2d,i64 0,a2d]
instance:IsPure c0t:=by unfold c0t;exact inferInstance
def a0F.at (p:a0F):Ide.D:=if two (chk p.x) (chk p.y)≠0 then c0t else a4u (a5N p.x) (a5N p.y)
theorem a8u (n:Nat)(hn:n≤100000):FR (n:Rat) ⟨mkG (n:Int),1⟩ 1:=by
 have h:=d1n (n:=mkG (n:Int)) (k:=1) (a0H _) (Nat.le_refl _) (by rw [a2B,Int.natAbs_natCast];exact a0G (k:=1) (Nat.lt_of_le_of_lt hn (by decide +kernel)));rw [a2B,Rat.intCast_natCast] at h;exact h
theorem b4O {n:Nat}(hn:n≤100000):Sm (n:Int):=⟨by omega,by omega⟩
theorem a8P {r:Rat}:decide (a7g r≥0)=decide (0≤r):=by
 rw [decide_eq_decide];constructor
 ·exact fun h=>d2a h
 ·intro h
  have:0≤r.num:=Rat.num_nonneg.2 h
  unfold a7g;omega
theorem a5r {a b:Rat}:decide (a3x a b≤0)=decide (a≤b):=by
 rw [decide_eq_decide,← c5g];omega
theorem c2y (a b:List UInt8):a3f [(chk a:Int),(chk b:Int)]=((two (chk a) (chk b):Nat):Int):=by
 show (if (chk a:Int)≠0 then (chk a:Int) else if (chk b:Int)≠0 then (chk b:Int) else 0)=_;unfold two
 by_cases h:chk a=0
 ·rw [if_neg (by omega),show (if chk a≠0 then chk a else chk b)=chk b from if_neg (by omega)]
  by_cases h2:chk b=0
  ·rw [if_neg (by omega),h2];rfl
  ·rw [if_pos (by omega)]
 ·rw [if_pos (by omega),show (if chk a≠0 then chk a else chk b)=chk a from if_pos h]
theorem c1V (p:a0F)(hf:p.few)(l w:Nat)(hl:l≤100000)(hw:w≤100000):a0b C0 153 [p.D,i64 (l:Int),i64 (w:Int)] (.tup [p.at,i64 (p.bad l w:Nat)]):=by
 refine a0c.walk w1 c3i rfl fun F=>?_
 have c1:=b4f p.x hf.1;have c2:=b4f p.y hf.2;have c3:=b3q [(chk p.x:Int),(chk p.y:Int)] (by simp);rw [c2y] at c3;have hab:two (chk p.x) (chk p.y)=0→chk p.x=0∧chk p.y=0:=by unfold two;split<;>omega
 have hB:p.bad l w=if two (chk p.x) (chk p.y)≠0 then two (chk p.x) (chk p.y) else if inR (l:Rat) (w:Rat) p.pt&&wtB p.wt then 0 else 3:=rfl
 have hA:p.at=if two (chk p.x) (chk p.y)≠0 then c0t else a4u (a5N p.x) (a5N p.y):=rfl
 rw [hB,hA];unfold a0F.D;obtain ⟨K,hK⟩:∃ K,two (chk p.x) (chk p.y)=K:=⟨_,rfl⟩
 rw [hK] at c3 hab ⊢;rcases Nat.decEq K 0 with h0|h0
 ·have e0:=c5c h0
  rw [if_pos h0,if_pos h0];unfold c0t;refine goI a7n e0 c1 c2 c3 trivial trivial trivial ?_;exact a0a rfl IsPure.out
 have e0:=c7k h0;rw [if_neg (fun h=>h h0),if_neg (fun h=>h h0)];obtain ⟨g1,g2⟩:=hab h0;have d1:=c4a hf.1 g1;have d2:=c4a hf.2 g2;have s1:=a6t (a7S g1).is;have s2:=a6t (a7S g2).is;have fl:=d2v (l:Int) (b4O hl);have fw:=d2v (w:Int) (b4O hw);have m1:=a7Y (a7S g1) (a8u l hl) (by decide);have m2:=a7Y (a7S g2) (a8u w hw) (by decide);have hI:inR (l:Rat) (w:Rat) p.pt=(decide (a7g (a1x p.x)≥0)&&(decide (a7g (a1x p.y)≥0)&&(decide (a3x (a1x p.x) (l:Rat)≤0)&&decide (a3x (a1x p.y) (w:Rat)≤0)))):=by
  rw [a8P,a8P,a5r,a5r];rfl
 rw [hI];have hW:wtB p.wt=(!decide (p.wt<1) && !decide (p.wt>999999999)):=by
  unfold wtB;rw [← decide_not,← decide_not]
  congr 1
  ·rw [decide_eq_decide];omega
  ·rw [decide_eq_decide];omega
 rw [hW];unfold a4u;unfold GF.D at d1 d2 s1 s2 fl fw m1 m2;generalize a7g (a1x p.x)=S1 at *;generalize a7g (a1x p.y)=S2 at *;generalize a3x (a1x p.x) (l:Rat)=M1 at *;generalize a3x (a1x p.y) (w:Rat)=M2 at *;generalize a5N p.x=A at *;generalize a5N p.y=B at *;have p1:IsPure A.n.w:=inferInstance;have p2:IsPure B.n.w:=inferInstance;generalize mkG (A.d:Int)=A2 at *;generalize mkG (B.d:Int)=B2 at *;have p3:IsPure (mkG (l:Int)).w:=inferInstance;have p4:IsPure (mkG (w:Int)).w:=inferInstance;generalize mkG (l:Int)=G1 at *;generalize mkG (w:Int)=G2 at *;have p5:IsPure (mkG ((1:Nat):Int)).w:=inferInstance;generalize mkG ((1:Nat):Int)=G3 at *;obtain ⟨b1,k1⟩:∃ b,decide (S1≥0)=b:=⟨_,rfl⟩
 obtain ⟨b2,k2⟩:∃ b,decide (S2≥0)=b:=⟨_,rfl⟩
 obtain ⟨b3,k3⟩:∃ b,decide (M1≤0)=b:=⟨_,rfl⟩
 obtain ⟨b4,k4⟩:∃ b,decide (M2≤0)=b:=⟨_,rfl⟩
 obtain ⟨b5,k5⟩:∃ b,decide (p.wt<1)=b:=⟨_,rfl⟩
 obtain ⟨b6,k6⟩:∃ b,decide (p.wt>999999999)=b:=⟨_,rfl⟩
 rw [k1,k2,k3,k4,k5,k6];have w3:=a2s true 3;have w0:=a2s false 3;rw [if_pos rfl] at w3;rw [if_neg (by decide)] at w0;have hcase:(b1=false)∨(b1=true∧b2=false)∨(b1=true∧b2=true∧b3=false)∨(b1=true∧b2=true∧b3=true∧b4=false)∨(b1=true∧b2=true∧b3=true∧b4=true∧b5=true)∨(b1=true∧b2=true∧b3=true∧b4=true∧b5=false∧b6=true)∨(b1=true∧b2=true∧b3=true∧b4=true∧b5=false∧b6=false):=by
  cases b1<;>cases b2<;>cases b3<;>cases b4<;>cases b5<;>cases b6<;>decide
 rcases hcase with rfl|⟨rfl,rfl⟩|⟨rfl,rfl,rfl⟩|⟨rfl,rfl,rfl,rfl⟩|⟨rfl,rfl,rfl,rfl,rfl⟩|⟨rfl,rfl,rfl,rfl,rfl,rfl⟩|⟨rfl,rfl,rfl,rfl,rfl,rfl⟩
 all_goals
  refine goI a7n (ff7 e0 k1 k2 k3 k4 k5 k6) c1 c2 c3 d1 d2 trivial ?_;refine goI a7n (ff7 e0 k1 k2 k3 k4 k5 k6) s1 s2 fl fw m1 m2 ?_;refine goI a7n (ff6 k1 k2 k3 k4 k5 k6) w3 w0 trivial trivial trivial trivial ?_;exact a0a rfl IsPure.out
structure FP (z:Pnt)(a:GF × GF)(k:Nat):Prop where
 fx:FR z.1 a.1 k
 fy:FR z.2 a.2 k
def a5m (a:GF × GF):D:=a4u a.1 a.2
instance  (a:GF × GF):IsPure (a5m a):=by unfold a5m;exact inferInstance
instance  (a:GF × GF):CellsPure (a5m a):=by unfold a5m;exact inferInstance
def b3j (a b:GF × GF):GF:=a9y (a4s (a3q a.1 b.1) (a3q a.1 b.1)) (a4s (a3q a.2 b.2) (a3q a.2 b.2))
theorem b3k {z p:Pnt}{a b:GF × GF}{i j:Nat}(ha:FP z a i)(hb:FP p b j):FR (d2 z p) (b3j a b) (4*(i+j+1)+1):=by
 have h1:=a1O ha.fx hb.fx;have h2:=a1O ha.fy hb.fy;exact (a3j (a0x h1 h1) (a0x h2 h2)).mono (by omega)
theorem a5s {z p:Pnt}{a b:GF × GF}{i j:Nat}(ha:FP z a i)(hb:FP p b j)(hk:i+j<50000):a0b C0 79 [a5m a,a5m b] (b3j a b).D:=by
 refine a0c.walk w1 c5F rfl fun F=>?_
 have r1:=a1O ha.fx hb.fx;have r2:=a1O ha.fy hb.fy;have c1:=a3g ha.fx hb.fx (by omega);have c2:=a3g ha.fy hb.fy (by omega);have c3:=a2h r1 r1 (by omega);have c4:=a2h r2 r2 (by omega);have c5:=a5j (a0x r1 r1) (a0x r2 r2) (by omega);unfold b3j a5m a4u;clear r1 r2;generalize a9y (a4s (a3q a.1 b.1) (a3q a.1 b.1)) (a4s (a3q a.2 b.2) (a3q a.2 b.2))=R at *;generalize a4s (a3q a.1 b.1) (a3q a.1 b.1)=M1 at *;generalize a4s (a3q a.2 b.2) (a3q a.2 b.2)=M2 at *;generalize a3q a.1 b.1=S1 at *;generalize a3q a.2 b.2=S2 at *;unfold GF.D at *;obtain ⟨a1,a2⟩:=a;obtain ⟨b1,b2⟩:=b;dsimp only at *;clear ha hb;have p_a1:IsPure a1.n.w:=inferInstance;generalize mkG (a1.d:Int)=a1_d at *;have p_a2:IsPure a2.n.w:=inferInstance;generalize mkG (a2.d:Int)=a2_d at *;have p_b1:IsPure b1.n.w:=inferInstance;generalize mkG (b1.d:Int)=b1_d at *;have p_b2:IsPure b2.n.w:=inferInstance;generalize mkG (b2.d:Int)=b2_d at *;have p_S1:IsPure S1.n.w:=inferInstance;generalize mkG (S1.d:Int)=S1_d at *;have p_S2:IsPure S2.n.w:=inferInstance;generalize mkG (S2.d:Int)=S2_d at *;have p_M1:IsPure M1.n.w:=inferInstance;generalize mkG (M1.d:Int)=M1_d at *;have p_M2:IsPure M2.n.w:=inferInstance;generalize mkG (M2.d:Int)=M2_d at *;have p_R:IsPure R.n.w:=inferInstance;generalize mkG (R.d:Int)=R_d at *;refine goI b7q kB c1 c2 trivial trivial trivial trivial ?_;refine goI b7q kB c3 c4 c5 trivial trivial trivial ?_;exact a0a rfl IsPure.out
section
variable {H:Type} {enc:TypeId × Value→H} {W:World} {fuel:Nat} {cs:List Value} {x:DataW H × List MemPlace} {t:TypeId}
theorem c2b (h:DataW.trod enc Tryz.prog W 0 (fun _=>true) true fuel 77 cs=some x):∃ p:a0F,a9i W cs p.D.cells∧True:=by
 obtain ⟨h1,n,h2⟩:=d4B (l:=[(44,0,1),(44,1,1),(3,2,1)]) (m:=3) (by kernel_rfl) (by kernel_rfl) h;obtain ⟨y0,k0⟩:=h2 0 _ _ _ rfl;obtain ⟨y1,k1⟩:=h2 1 _ _ _ rfl;obtain ⟨y2,k2⟩:=h2 2 _ _ _ rfl;obtain ⟨a0,r0,_⟩:=c4u k0;obtain ⟨a1,r1,_⟩:=c4u k1;obtain ⟨a2,r2⟩:=d1V k2;exact ⟨⟨a0,a1,a2⟩,d1U h1 (c4t (b:=1) (c:=2) r0 (c4t (b:=1) (c:=1) r1 r2)),trivial⟩
theorem b9o (h:DataW.trod enc Tryz.prog W 0 (fun _=>true) true fuel 29 cs=some x):∃ l:List a0F,a9i W cs [.sl false 3 (l.map a0F.D)]∧(∀ a∈l,True)∧l.length≤maxLen :=
 d4A (g:=a0F.D) (ok:=fun _=>True) (e:=77) (sz:=3) (by kernel_rfl) (by kernel_rfl) (by decide) (fun _ _ _ h=>c2b h) h
theorem b6J {P:Program}{e base:Nat}{kk:IntKind}{v:Value}{d:DataW H}{p:List MemPlace}(hu:P.underlying t=some (.array 2 e))(he:P.underlying e=some (.int kk))(hce:P.cellsOf e=1)(hct:P.cellsOf t=2)(hv:Value.okWide P W .any base t v)
  (h:DataW.Trod enc P W 0 (fun _=>true) true t v d p):∃ n0 n1:Int,v=.agg #[.int kk n0,.int kk n1]∧(Lit.int kk n0).wf=true∧(Lit.int kk n1).wf=true:=by
 obtain ⟨cs,rfl,hcs⟩:∃ cs,v=.agg cs∧cs.size=2:=by
  simp only [Value.okWide,hu] at hv;obtain ⟨cs,h1,h2,_⟩:=hv;exact ⟨cs,h1,h2.trans hct⟩
 obtain ⟨fuel,hf⟩:=h;obtain ⟨c0,c1,rfl⟩:∃ c0 c1,cs = #[c0,c1]:=by
  obtain ⟨l⟩:=cs
  match l,hcs with
  | [a,b],_=>exact ⟨a,b,rfl⟩
 obtain ⟨xs,m,_,_,_,hl,hx⟩:=DataW.trod_array hu (show DataW.trod enc P W 0 (fun _=>true) true fuel t [c0,c1]=_ from hf);have h0:=hx 0 (by decide);have h1:=hx 1 (by decide);rw [List.getElem?_eq_getElem (by omega)] at h0 h1;simp only [hce,Nat.zero_mul,Nat.one_mul,List.drop_zero,List.drop_succ_cons,List.take_succ_cons,List.take_zero] at h0 h1;obtain ⟨n0,e0,_,w0⟩:=DataW.trod_int he h0;obtain ⟨n1,e1,_,w1⟩:=DataW.trod_int he h1;simp only [List.cons.injEq,and_true] at e0 e1;subst e0 e1;exact ⟨n0,n1,rfl,w0,w1⟩
theorem b5f {ρ:Lk}{O:Nat→Prop}{kk:IntKind}{a b:Int}:Rep ρ O W (.agg [.prim (.int kk a),.prim (.int kk b)]) (.agg #[.int kk a,.int kk b]):=by
 refine .agg rfl (fun i v hv=>?_) fun i d hd=>?_
 ·match i with
  | 0=>simp at hv;subst hv;rfl
  | 1=>simp at hv;subst hv;rfl
  | n+2=>simp at hv
 ·match i with
  | 0=>simp at hd;subst hd;exact .prim _
  | 1=>simp at hd;subst hd;exact .prim _
  | n+2=>simp at hd
end
structure Con where
 a:Rat
 b:Rat
 c:Rat
def Con.val (k:Con)(z:Pnt):Rat:=k.c - k.a*z.1 - k.b*z.2
def Con.slope (k:Con)(u:Pnt):Rat:=k.a*u.1+k.b*u.2
def c1u (z u:Pnt)(t:Rat):Pnt:=(z.1+t*u.1,z.2+t*u.2)
theorem c0k (k:Con)(z u:Pnt)(t:Rat):k.val (c1u z u t)=k.val z - t*k.slope u:=by
 unfold Con.val Con.slope c1u;grind
theorem b3m {v s:Rat}(hs:0<s):v - v / s*s=0:=by
 rw [Rat.div_mul_cancel (by grind)];grind
theorem div_pos {v s:Rat}(hv:0≤v)(hs:0<s):0≤v / s:=by
 have h:=Rat.mul_nonneg hv (Rat.le_of_lt (Rat.inv_pos.2 hs))
 rwa [← Rat.div_def] at h
theorem ray (z u:Pnt):∀ L:List Con,(∀ k∈L,0≤k.val z)→(∀ k∈L,k.slope u≤0)∨∃ t:Rat,0≤t∧(∀ k∈L,0≤k.val z - t*k.slope u)∧∃ k∈L,0<k.slope u∧k.val z - t*k.slope u=0
 | [],_=>.inl fun k hk=>by cases hk
 | c::L,h=>by
  have hc:=h c List.mem_cons_self;have hL:=fun k hk=>h k (List.mem_cons_of_mem _ hk)
  rcases ray z u L hL with g|⟨t,t0,t1,k,hk,k1,k2⟩
  ·rcases Rat.le_total (a:=c.slope u) (b:=0) with s|s
   ·left
    intro k hk;rcases List.mem_cons.1 hk with rfl|hk
    ·exact s
    ·exact g k hk
   ·rcases Decidable.em (c.slope u=0) with e|e
    ·left
     intro k hk;rcases List.mem_cons.1 hk with rfl|hk
     ·rw [e];exact Rat.le_refl
     ·exact g k hk
    ·right
     have hp:0<c.slope u:=by grind
     have ht:=div_pos hc hp;refine ⟨c.val z / c.slope u,ht,fun k hk=>?_,c,List.mem_cons_self,hp,b3m hp⟩;rcases List.mem_cons.1 hk with rfl|hk
     ·rw [b3m hp];exact Rat.le_refl
     ·have h1:=hL k hk
      have h2:=Rat.mul_nonneg ht (show 0≤-k.slope u by have:=g k hk;grind)
      grind
  ·right
   rcases Decidable.em (c.slope u≤0) with s|s
   ·refine ⟨t,t0,fun k' hk'=>?_,k,List.mem_cons_of_mem _ hk,k1,k2⟩
    rcases List.mem_cons.1 hk' with rfl|hk'
    ·have h2:=Rat.mul_nonneg t0 (show 0≤-k'.slope u by grind)
     grind
    ·exact t1 k' hk'
   ·have hp:0<c.slope u:=Rat.not_le.1 s
    have ht:=div_pos hc hp;have hz:=b3m (v:=c.val z) hp;rcases Rat.le_total (a:=t) (b:=c.val z / c.slope u) with q|q
    ·refine ⟨t,t0,fun k' hk'=>?_,k,List.mem_cons_of_mem _ hk,k1,k2⟩
     rcases List.mem_cons.1 hk' with rfl|hk'
     ·have h2:=Rat.mul_le_mul_of_nonneg_right q (Rat.le_of_lt hp)
      grind
     ·exact t1 k' hk'
    ·refine ⟨c.val z / c.slope u,ht,fun k' hk'=>?_,c,List.mem_cons_self,hp,hz⟩
     rcases List.mem_cons.1 hk' with rfl|hk'
     ·rw [hz];exact Rat.le_refl
     ·have h1:=hL k' hk'
      have h3:=t1 k' hk';rcases Rat.le_total (a:=k'.slope u) (b:=0) with r|r
      ·have h2:=Rat.mul_nonneg ht (show 0≤-k'.slope u by grind)
       grind
      ·have h2:=Rat.mul_le_mul_of_nonneg_right q r
       grind
theorem d2R {z u p:Pnt}{t:Rat}(ht:0≤t)(hu:0≤u.1*(z.1 - p.1)+u.2*(z.2 - p.2)):d2 z p≤d2 (c1u z u t) p:=by
 have h1:=Rat.mul_nonneg ht hu;have h2:=Rat.mul_nonneg (a8T t) (show 0≤u.1*u.1+u.2*u.2 by have:=a8T u.1;have:=a8T u.2;grind);have e:d2 (c1u z u t) p=d2 z p+2*(t*(u.1*(z.1 - p.1)+u.2*(z.2 - p.2)))+t*t*(u.1*u.1+u.2*u.2):=by unfold d2 c1u;grind
 rw [e];grind
def bis (p q:Pnt):Con:=⟨bA p q,bB p q,bC p q⟩
theorem b2Y (p q z:Pnt):(bis p q).val z=d2 z q - d2 z p:=by unfold Con.val bis bA bB bC d2;grind
def a8S (w h:Rat):List Con:=[⟨-1,0,0⟩,⟨1,0,w⟩,⟨0,-1,0⟩,⟨0,1,h⟩]
def a3a (P:List Pnt)(p:Pnt)(w h:Rat):List Con:=a8S w h++P.map (bis p)
theorem b4i {P:List Pnt}{p z:Pnt}{w h:Rat}:(∀ k∈a3a P p w h,0≤k.val z)↔inR w h z=true∧∀ q∈P,d2 z p≤d2 z q:=by
 unfold a3a a8S;rw [a3Q];constructor
 ·intro g
  have g1:=g ⟨-1,0,0⟩ (by simp);have g2:=g ⟨1,0,w⟩ (by simp);have g3:=g ⟨0,-1,0⟩ (by simp);have g4:=g ⟨0,1,h⟩ (by simp);unfold Con.val at g1 g2 g3 g4;dsimp only at g1 g2 g3 g4;refine ⟨⟨by grind,by grind,by grind,by grind⟩,fun q hq=>?_⟩
  have:=g (bis p q) (List.mem_append_right _ (List.mem_map.2 ⟨q,hq,rfl⟩))
  rw [b2Y] at this
  grind
 ·rintro ⟨⟨r1,r2,r3,r4⟩,hq⟩ k hk
  rcases List.mem_append.1 hk with hk|hk
  ·simp only [List.mem_cons,List.not_mem_nil,or_false] at hk
   rcases hk with rfl|rfl|rfl|rfl<;>unfold Con.val<;>dsimp only<;>grind
  ·obtain ⟨q,hq',rfl⟩:=List.mem_map.1 hk
   rw [b2Y]
   have:=hq q hq'
   grind
theorem d2m {P:List Pnt}{p z:Pnt}{w h:Rat}(hz:∀ k∈a3a P p w h,0≤k.val z):∃ z2:Pnt,(∀ k∈a3a P p w h,0≤k.val z2)∧d2 z p≤d2 z2 p∧∃ k1∈a3a P p w h,∃ k2∈a3a P p w h,k1.val z2=0∧k2.val z2=0∧k1.a*k2.b - k1.b*k2.a≠0:=by
 have m1:(⟨-1,0,0⟩:Con)∈a3a P p w h:=by unfold a3a a8S;simp
 have m2:(⟨1,0,w⟩:Con)∈a3a P p w h:=by unfold a3a a8S;simp
 have m3:(⟨0,-1,0⟩:Con)∈a3a P p w h:=by unfold a3a a8S;simp
 have m4:(⟨0,1,h⟩:Con)∈a3a P p w h:=by unfold a3a a8S;simp
 have step:∀ (z u:Pnt),(∀ k∈a3a P p w h,0≤k.val z)→0≤u.1*(z.1 - p.1)+u.2*(z.2 - p.2)→(u.1≠0∨u.2≠0)→∃ t:Rat,(∀ k∈a3a P p w h,0≤k.val (c1u z u t))∧d2 z p≤d2 (c1u z u t) p∧∃ k∈a3a P p w h,k.val (c1u z u t)=0∧0<k.slope u:=fun z u hz hu h0=>by
  have hs:∃ k∈a3a P p w h,0<k.slope u:=by
   rcases Decidable.em (u.1=0) with e|e
   ·rcases Decidable.em (0<u.2) with q|q
    ·exact ⟨_,m4,by unfold Con.slope;dsimp only;grind⟩
    ·exact ⟨_,m3,by unfold Con.slope;dsimp only;grind⟩
   ·rcases Decidable.em (0<u.1) with q|q
    ·exact ⟨_,m2,by unfold Con.slope;dsimp only;grind⟩
    ·exact ⟨_,m1,by unfold Con.slope;dsimp only;grind⟩
  rcases ray z u _ hz with g|⟨t,t0,t1,k,hk,k1,k2⟩
  ·obtain ⟨k,hk,hp⟩:=hs
   exact absurd (g k hk) (Rat.not_le.2 hp)
  ·refine ⟨t,fun k' hk'=>by rw [c0k];exact t1 k' hk',d2R t0 hu,k,hk,by rw [c0k];exact k2,k1⟩
 have dir:∀ (z u:Pnt),∃ e:Rat,(e=1∨e = -1)∧0≤(e*u.1)*(z.1 - p.1)+(e*u.2)*(z.2 - p.2):=fun z u=>by
  rcases Rat.le_total (a:=0) (b:=u.1*(z.1 - p.1)+u.2*(z.2 - p.2)) with q|q
  ·exact ⟨1,.inl rfl,by grind⟩
  ·exact ⟨-1,.inr rfl,by grind⟩
 obtain ⟨e,he,hu⟩:=dir z (1,0);obtain ⟨t,z1,z2,k1,hk1,z3,z4⟩:=step z (e*1,e*0) hz hu (.inl (by rcases he with rfl|rfl<;>decide +kernel));have ha:k1.a≠0:=fun q=>by
  unfold Con.slope at z4;dsimp only at z4;rw [q] at z4
  grind
 generalize c1u z (e*1,e*0) t=y at *;obtain ⟨f,hf,hv⟩:=dir y (-k1.b,k1.a);obtain ⟨t',y1,y2,k2,hk2,y3,y4⟩:=step y (f * -k1.b,f*k1.a) z1 hv (.inr (by rcases hf with rfl|rfl<;>grind));refine ⟨_,y1,Rat.le_trans z2 y2,k1,hk1,k2,hk2,?_,y3,fun q=>?_⟩
 ·rw [c0k,z3]
  unfold Con.slope;dsimp only
  grind
 ·unfold Con.slope at y4
  dsimp only at y4
  have:k2.a*(f * -k1.b)+k2.b*(f*k1.a)=f*(k1.a*k2.b - k1.b*k2.a):=by grind
  rw [this,q] at y4
  grind
theorem b0S (p q z:Pnt):d2 z p=d2 z q↔bA p q*z.1+bB p q*z.2=bC p q:=by
 unfold bA bB bC d2;constructor<;>intro _<;>grind
theorem c4h {a b c x y:Rat}(hb:b≠0)(h:a*x+b*y=c):y=(c - a*x) / b:=by
 rw [← h]
 have:a*x+b*y - a*x=y*b:=by grind
 rw [this,Rat.div_def,Rat.mul_assoc,Rat.mul_inv_cancel b hb,Rat.mul_one]
theorem c2n {p q z:Pnt}(hb:bB p q≠0)(h:d2 z p=d2 z q):z∈b1b p q z.1:=by
 unfold b1b;rw [if_neg hb,List.mem_singleton]
 have:=c4h hb ((b0S p q z).1 h)
 rw [← this]
theorem c2o {p q z:Pnt}(hb:bA p q≠0)(h:d2 z p=d2 z q):z∈b1c p q z.2:=by
 unfold b1c;rw [if_neg hb,List.mem_singleton];have h1:=(b0S p q z).1 h
 have:=c4h (a:=bB p q) (b:=bA p q) (c:=bC p q) (x:=z.2) (y:=z.1) hb (by rw [← h1];grind)
 rw [← this]
theorem b9H {p q z:Pnt}{w h:Rat}(hb:bB p q≠0)(e:d2 z p=d2 z q)(hx:z.1=0∨z.1=w):z∈a7i p q w h:=by
 have:=c2n hb e
 unfold a7i;rcases hx with g|g<;>rw [g] at this
 ·exact List.mem_append_left _ (List.mem_append_left _ (List.mem_append_left _ this))
 ·exact List.mem_append_left _ (List.mem_append_left _ (List.mem_append_right _ this))
theorem b9I {p q z:Pnt}{w h:Rat}(hb:bA p q≠0)(e:d2 z p=d2 z q)(hy:z.2=0∨z.2=h):z∈a7i p q w h:=by
 have:=c2o hb e
 unfold a7i;rcases hy with g|g<;>rw [g] at this
 ·exact List.mem_append_left _ (List.mem_append_right _ this)
 ·exact List.mem_append_right _ this
theorem c0g {a b c d e f x y:Rat}(h:a*e - b*d≠0)(h1:a*x+b*y=c)(h2:d*x+e*y=f):x=(c*e - b*f) / (a*e - b*d)∧y=(a*f - c*d) / (a*e - b*d):=by
 constructor
 ·have:c*e - b*f=x*(a*e - b*d):=by rw [← h1,← h2];grind
  rw [this,Rat.div_def,Rat.mul_assoc,Rat.mul_inv_cancel _ h,Rat.mul_one]
 ·have:a*f - c*d=y*(a*e - b*d):=by rw [← h1,← h2];grind
  rw [this,Rat.div_def,Rat.mul_assoc,Rat.mul_inv_cancel _ h,Rat.mul_one]
theorem c7P {p q s z:Pnt}(h:crs q p s≠0)(h1:d2 z p=d2 z q)(h2:d2 z s=d2 z q):z∈b6V p q s:=by
 have hd:a7b p q s≠0:=by rw [a6o];grind
 unfold b6V;rw [if_neg hd,List.mem_singleton]
 have:=c0g (a:=bA p q) (b:=bB p q) (d:=bA s q) (e:=bB s q) hd ((b0S p q z).1 h1) ((b0S s q z).1 h2)
 exact Prod.ext this.1 this.2
theorem b5r {P:List Pnt}{w h:Rat}{z:Pnt}(hx:z.1=0∨z.1=w)(hy:z.2=0∨z.2=h):z∈a2I P w h:=by
 refine (a3t _).2 (.inl ?_);obtain ⟨x,y⟩:=z;dsimp only at hx hy;rcases hx with rfl|rfl<;>rcases hy with rfl|rfl<;>simp
theorem b2F {P:List Pnt}{w h:Rat}{z:Pnt}{i k:Nat}(hi:i<P.length)(hk:k<P.length)(hne:i≠k)(g:∀ p q:Pnt,(p=pt P i∧q=pt P k)∨(p=pt P k∧q=pt P i)→z∈a7i p q w h):z∈a2I P w h:=by
 rcases Nat.lt_or_ge i k with q|q
 ·exact (a3t _).2 (.inr ⟨k,hk,(a5V _).2 ⟨i,q,.inl (g _ _ (.inl ⟨rfl,rfl⟩))⟩⟩)
 ·exact (a3t _).2 (.inr ⟨i,hi,(a5V _).2 ⟨k,by omega,.inl (g _ _ (.inr ⟨rfl,rfl⟩))⟩⟩)
theorem a3H {P:List Pnt}{w h:Rat}{z:Pnt}{i k j:Nat}(hi:i<P.length)(hk:k<i)(hj:j<k)(hc:crs (pt P i) (pt P k) (pt P j)≠0)(h1:d2 z (pt P k)=d2 z (pt P i))(h2:d2 z (pt P j)=d2 z (pt P i)):z∈a2I P w h :=
 (a3t _).2 (.inr ⟨i,hi,(a5V _).2 ⟨k,hk,.inr ((a7R _).2 ⟨j,hj,c7P hc h1 h2⟩)⟩⟩)
theorem c2s {P:List Pnt}{w h:Rat}{z:Pnt}{i k j:Nat}(hi:i<P.length)(hk:k<P.length)(hj:j<P.length)(hc:crs (pt P i) (pt P k) (pt P j)≠0)(h1:d2 z (pt P k)=d2 z (pt P i))(h2:d2 z (pt P j)=d2 z (pt P i)):z∈a2I P w h:=by
 have a1:∀ p q s:Pnt,crs p q s=crs q s p:=fun p q s=>by unfold crs;grind
 have a2:∀ p q s:Pnt,crs p q s = -crs p s q:=fun p q s=>by unfold crs;grind
 have a0:∀ p q:Pnt,crs p p q=0∧crs p q p=0∧crs q p p=0:=fun p q=>by unfold crs;refine ⟨by grind,by grind,by grind⟩
 have n1:i≠k:=fun e=>hc (by rw [e];exact (a0 _ _).1)
 have n2:i≠j:=fun e=>hc (by rw [e];exact (a0 _ _).2.1)
 have n3:k≠j:=fun e=>hc (by rw [e];exact (a0 _ _).2.2)
 have hc2:crs (pt P k) (pt P j) (pt P i)≠0:=by rw [← a1];exact hc
 have hc3:crs (pt P j) (pt P i) (pt P k)≠0:=by rw [← a1];exact hc2
 have hd:crs (pt P i) (pt P j) (pt P k)≠0:=by rw [a2];grind
 have hd2:crs (pt P j) (pt P k) (pt P i)≠0:=by rw [← a1];exact hd
 have hd3:crs (pt P k) (pt P i) (pt P j)≠0:=by rw [← a1];exact hd2
 have hcase:(j<k∧k<i)∨(k<j∧j<i)∨(j<i∧i<k)∨(i<j∧j<k)∨(k<i∧i<j)∨(i<k∧k<j):=by omega
 rcases hcase with ⟨q1,q2⟩|⟨q1,q2⟩|⟨q1,q2⟩|⟨q1,q2⟩|⟨q1,q2⟩|⟨q1,q2⟩
 ·exact a3H hi q2 q1 hc h1 h2
 ·exact a3H hi q2 q1 hd h2 h1
 ·exact a3H hk q2 q1 hd3 h1.symm (h2.trans h1.symm)
 ·exact a3H hk q2 q1 hc2 (h2.trans h1.symm) h1.symm
 ·exact a3H hj q2 q1 hc3 h2.symm (h1.trans h2.symm)
 ·exact a3H hj q2 q1 hd2 (h1.trans h2.symm) h2.symm
theorem kind {P:List Pnt}{p z:Pnt}{w h:Rat}{k:Con}(hk:k∈a3a P p w h)(e:k.val z=0):(k.b=0∧(z.1=0∨z.1=w))∨(k.a=0∧(z.2=0∨z.2=h))∨∃ i,i<P.length∧k=bis p (pt P i)∧d2 z p=d2 z (pt P i):=by
 unfold a3a a8S at hk;rcases List.mem_append.1 hk with hk|hk
 ·simp only [List.mem_cons,List.not_mem_nil,or_false] at hk
  rcases hk with rfl|rfl|rfl|rfl<;>unfold Con.val at e<;>dsimp only at e ⊢
  ·exact .inl ⟨rfl,.inl (by grind)⟩
  ·exact .inl ⟨rfl,.inr (by grind)⟩
  ·exact .inr (.inl ⟨rfl,.inl (by grind)⟩)
  ·exact .inr (.inl ⟨rfl,.inr (by grind)⟩)
 ·obtain ⟨q,hq,rfl⟩:=List.mem_map.1 hk
  obtain ⟨i,hi,rfl⟩:=c4k hq;rw [b2Y] at e;exact .inr (.inr ⟨i,hi,rfl,by grind⟩)
theorem b3V {P:List Pnt}{ip:Nat}(hip:ip<P.length){z:Pnt}{w h:Rat}{k1 k2:Con}(h1:k1∈a3a P (pt P ip) w h)(h2:k2∈a3a P (pt P ip) w h)(t1:k1.val z=0)(t2:k2.val z=0)(hd:k1.a*k2.b - k1.b*k2.a≠0):z∈a2I P w h:=by
 have sdX:∀ i,i<P.length→bB (pt P ip) (pt P i)≠0→d2 z (pt P ip)=d2 z (pt P i)→(z.1=0∨z.1=w)→z∈a2I P w h:=fun i hi hb e hx=>by
  refine b2F hip hi (fun q=>hb (by rw [q];unfold bB;grind)) fun p q hpq=>?_
  rcases hpq with ⟨rfl,rfl⟩|⟨rfl,rfl⟩
  ·exact b9H hb e hx
  ·exact b9H (by unfold bB at hb ⊢;grind) e.symm hx
 have sdY:∀ i,i<P.length→bA (pt P ip) (pt P i)≠0→d2 z (pt P ip)=d2 z (pt P i)→(z.2=0∨z.2=h)→z∈a2I P w h:=fun i hi hb e hx=>by
  refine b2F hip hi (fun q=>hb (by rw [q];unfold bA;grind)) fun p q hpq=>?_
  rcases hpq with ⟨rfl,rfl⟩|⟨rfl,rfl⟩
  ·exact b9I hb e hx
  ·exact b9I (by unfold bA at hb ⊢;grind) e.symm hx
 rcases kind h1 t1 with ⟨a1,a2⟩|⟨a1,a2⟩|⟨i,hi,rfl,a2⟩<;>rcases kind h2 t2 with ⟨b1,b2⟩|⟨b1,b2⟩|⟨j,hj,rfl,b2⟩
 ·exact absurd (by rw [a1,b1];grind) hd
 ·exact b5r a2 b2
 ·refine sdX j hj (fun q=>hd ?_) b2 a2
  have:(bis (pt P ip) (pt P j)).b=0:=q
  rw [a1,this];grind
 ·exact b5r b2 a2
 ·exact absurd (by rw [a1,b1];grind) hd
 ·refine sdY j hj (fun q=>hd ?_) b2 a2
  have:(bis (pt P ip) (pt P j)).a=0:=q
  rw [a1,this];grind
 ·refine sdX i hi (fun q=>hd ?_) a2 b2
  have:(bis (pt P ip) (pt P i)).b=0:=q
  rw [b1,this];grind
 ·refine sdY i hi (fun q=>hd ?_) a2 b2
  have:(bis (pt P ip) (pt P i)).a=0:=q
  rw [b1,this];grind
 ·refine c2s hip hi hj (fun q=>hd ?_) a2.symm b2.symm
  have:(bis (pt P ip) (pt P i)).a*(bis (pt P ip) (pt P j)).b - (bis (pt P ip) (pt P i)).b*(bis (pt P ip) (pt P j)).a=4*crs (pt P ip) (pt P i) (pt P j):=by unfold bis bA bB crs;grind
  rw [this,q];decide +kernel
theorem b7F {P:List Pnt}(hl:0<P.length){w h:Rat}{z:Pnt}(hz:inR w h z=true):a6P P z≤a3z P w h:=by
 obtain ⟨⟨p,hp,e⟩,hmin⟩:=a3S hl z;obtain ⟨ip,hip,rfl⟩:=c4k hp;have hc:=(b4i (P:=P) (p:=pt P ip) (z:=z) (w:=w) (h:=h)).2 ⟨hz,fun q hq=>by rw [← e];exact hmin q hq⟩;obtain ⟨z2,y1,y2,k1,hk1,k2,hk2,t1,t2,hdet⟩:=d2m hc;obtain ⟨r2,q2⟩:=b4i.1 y1;have hn2:a6P P z2=d2 z2 (pt P ip):=by
  obtain ⟨⟨p',hp',e'⟩,hm'⟩:=a3S hl z2;exact Rat.le_antisymm (hm' _ hp) (by rw [e'];exact q2 p' hp')
 have hs:=b3V hip hk1 hk2 t1 t2 hdet;rw [e];refine Rat.le_trans y2 ?_;rw [← hn2];exact (a6v P w h (a2I P w h)).2.1 z2 hs r2
theorem c1s {P:List Pnt}(hl:0<P.length){w h:Rat}{z:Pnt}:a3z (P++[z]) w h≤a3z P w h:=by
 have h0:=(a6v P w h (a2I P w h)).1;rcases (a6v (P++[z]) w h (a2I (P++[z]) w h)).2.2 with e|⟨y,-,hi,e⟩
 ·unfold a3z;rw [e];exact h0
 ·have e2:a3z (P++[z]) w h=a6P (P++[z]) y:=e
  rw [e2];refine Rat.le_trans ?_ (b7F hl hi);obtain ⟨⟨p,hp,e3⟩,-⟩:=a3S hl y;rw [e3];exact (a3S (P:=P++[z]) (by rw [List.length_append];omega) y).2 p (List.mem_append_left _ hp)
theorem d2d {x a:Rat}(h1 : -a≤x)(h2:x≤a):x*x≤a*a:=by
 have:=Rat.mul_nonneg (show 0≤a - x by grind) (show 0≤a+x by grind)
 grind
theorem d2c {x a:Rat}(h0:0≤a)(h1:a≤x):a*a≤x*x:=by
 have:=Rat.mul_nonneg (show 0≤x - a by grind) (show 0≤x+a by grind)
 grind
theorem b4E {P:List Pnt}(hl:0<P.length){w h a b:Rat}(ha:0≤a)(hb:0≤b)(hw:0≤w)(hh:0≤h)(up:∀ z,inR w h z=true→∃ p∈P,(-a≤z.1 - p.1∧z.1 - p.1≤a)∧-b≤z.2 - p.2∧z.2 - p.2≤b)(lo:∀ p∈P,a≤p.1∧b≤p.2):a3z P w h=a*a+b*b:=by
 refine Rat.le_antisymm ?_ ?_
 ·rcases (a6v P w h (a2I P w h)).2.2 with e|⟨y,-,hi,e⟩
  ·have e2:a3z P w h=0:=e
   have:=a8T a
   have:=a8T b
   rw [e2];grind
  ·have e2:a3z P w h=a6P P y:=e
   obtain ⟨p,hp,⟨q1,q2⟩,q3,q4⟩:=up y hi;have h1:=d2d q1 q2;have h2:=d2d q3 q4;have h3:=(a3S hl y).2 p hp;rw [e2];refine Rat.le_trans h3 ?_;unfold d2;grind
 ·have hi:inR w h ((0,0):Pnt)=true:=a3Q.2 ⟨Rat.le_refl,Rat.le_refl,hw,hh⟩
  refine Rat.le_trans ?_ (b7F hl hi);obtain ⟨⟨p,hp,e3⟩,-⟩:=a3S hl ((0,0):Pnt);obtain ⟨l1,l2⟩:=lo p hp;have h1:=d2c ha l1;have h2:=d2c hb l2;rw [e3];unfold d2;grind
theorem c1v {w h a b:Rat}(ha:0≤a)(hb:0≤b)(hw:2*a=w)(hh:2*b=h):a3z [(a,b)] w h=a*a+b*b:=by
 refine b4E (by simp) ha hb (by grind) (by grind) (fun z hz=>?_) fun p hp=>?_
 ·obtain ⟨r1,r2,r3,r4⟩:=a3Q.1 hz
  exact ⟨_,List.mem_singleton.2 rfl,⟨by grind,by grind⟩,by grind,by grind⟩
 ·rw [List.mem_singleton.1 hp];exact ⟨Rat.le_refl,Rat.le_refl⟩
theorem b8j {w h a b:Rat}(ha:0≤a)(hb:0≤b)(hw:4*a=w)(hh:4*b=h):a3z [(a,b),(a,3*b),(3*a,b),(3*a,3*b)] w h=a*a+b*b:=by
 refine b4E (by simp) ha hb (by grind) (by grind) (fun z hz=>?_) fun p hp=>?_
 ·obtain ⟨r1,r2,r3,r4⟩:=a3Q.1 hz
  rcases Rat.le_total (a:=z.1) (b:=2*a) with q1|q1<;>rcases Rat.le_total (a:=z.2) (b:=2*b) with q2|q2
  ·exact ⟨(a,b),by simp,⟨by grind,by grind⟩,by grind,by grind⟩
  ·exact ⟨(a,3*b),by simp,⟨by grind,by grind⟩,by grind,by grind⟩
  ·exact ⟨(3*a,b),by simp,⟨by grind,by grind⟩,by grind,by grind⟩
  ·exact ⟨(3*a,3*b),by simp,⟨by grind,by grind⟩,by grind,by grind⟩
 ·simp only [List.mem_cons,List.not_mem_nil,or_false] at hp
  rcases hp with rfl|rfl|rfl|rfl
  ·exact ⟨Rat.le_refl,Rat.le_refl⟩
  ·exact ⟨Rat.le_refl,by grind⟩
  ·exact ⟨by grind,Rat.le_refl⟩
  ·exact ⟨by grind,by grind⟩
abbrev a3M:Dr:=[(1,[0,1,2,3,4,5,6,7,8,9,10,11,12,13,14,15,16,17,18,19,20,21,22,23,24,25,26,27,28,29,30,31,32,33,34,35],[36,37,38]),(5,[0,1,2,3],[4,5]),(6,[0,1,2,3,4],[5,6])]
open Go.Proofs Go.RowKit
set_option maxRecDepth 20000
set_option maxHeartbeats 4000000
theorem a0m.drop {C:Ctx}{f:Nat}{args:List D}{H:Hp}{n:Nat}{Φ:D→Hp→Nat→Prop}(h:a0m C f args H n fun d H' n'=>∃ H2:Hp,H2.Sublist H'∧Φ d H2 n'):a0m C f args H n Φ :=
 ⟨h.1,fun F ρ w vs a b c e g=>(h.2 F ρ w vs a b c e g).mono fun _ _ ⟨v,d,H',n',ρ',h1,⟨H2,hs,h2⟩,m,x,fr,gn,rp⟩=>by
  obtain ⟨m2,hO⟩:=m.sub hs;exact ⟨v,d,H2,n',ρ',h1,h2,m2,⟨x.size,x.link,fun b hb hn=>⟨fun h=>(x.pure b hb hn).1 (hO b h),(x.pure b hb hn).2⟩,x.shape⟩,fr,fun e he=>gn e (hs.subset he),rp.anti hO⟩⟩
theorem b8J (a:Pnt)(l:List Pnt)(p:Pnt):∀ m,a0U a (l++[p]) m=if d2 a p<a0U a l m then d2 a p else a0U a l m:=by
 induction l with
 | nil=>intro m;rfl
 | cons q l ih=>intro m;exact ih _
theorem a8x {a:Pnt}{P:List Pnt}{i:Nat}(h:i<P.length)(m:Rat):a0U a (P.take (i+1)) m=if d2 a (pt P i)<a0U a (P.take i) m then d2 a (pt P i) else a0U a (P.take i) m:=by
 have e:P[i]? = some (pt P i):=by unfold pt;rw [List.getD_eq_getElem?_getD,List.getElem?_eq_getElem h];rfl
 rw [List.take_add_one,e];exact b8J ..
theorem b8I (a:Pnt)(P:List Pnt)(i:Nat)(m:Rat):a0U a P m≤a0U a (P.take i) m:=by
 have e:a0U a P m=a0U a (P.drop i) (a0U a (P.take i) m):=by
  have:∀ (l k:List Pnt) (m:Rat),a0U a (l++k) m=a0U a k (a0U a l m):=by
   intro l
   induction l with
   | nil=>intro k m;rfl
   | cons q l ih=>intro k m;exact ih _ _
  rw [← this,List.take_append_drop]
 rw [e];exact (a8w a _ _).1
abbrev a0V (Q:List (GF × GF)):List D:=Q.map a5m
structure FPs (P:List Pnt)(Q:List (GF × GF))(k:Nat):Prop where
 len:Q.length=P.length
 at_:∀ i a,Q[i]? = some a→FP (pt P i) a k
abbrev rmE (g:Nat)(W H:GI)(O:GI)(PD:List D)(r:GF):Ent:=⟨507,g,149,13,[.agg [i64 W.s,W.w,i64 O.s,O.w,i64 H.s,H.w,i64 O.s,O.w,.sl false 8 PD,i64 r.n.s,r.n.w,i64 (mkG (r.d:Int)).s,(mkG (r.d:Int)).w]]⟩
def a1y:GI:=mkG ((1:Nat):Int)
def pkF (a b:Rat)(x y:GF):GF:=if b<a then y else x
theorem d4r {a b:Rat}{x y:GF}{k:Nat}(hx:FR a x k)(hy:FR b y k):FR (if b<a then b else a) (pkF a b x y) k:=by
 unfold pkF;split
 ·exact hy
 ·exact hx
theorem d4s {a b:Rat}{x y:GF}{k:Nat}(hx:FR a x k)(hy:FR b y k)(hk:k<100000):a0b C0 157 [x.D,y.D,i64 (-1)] (pkF a b x y).D:=by
 have h:=PickW.pick_ok hx hy (by omega) (-1) (.inr rfl);have e:(if a3x a b * -1≥0 then x.D else y.D)=(pkF a b x y).D:=by
  unfold pkF
  by_cases g:b<a
  ·rw [if_pos g,if_neg]
   have:=b3d.2 g
   omega
  ·rw [if_neg g,if_pos]
   have:=mt b3d.1 g
   omega
 rw [e] at h;exact h
theorem c6V {P:List Pnt}{Q:List (GF × GF)}(hPQ:FPs P Q 3)(hPl:P.length≤100)(w h:Nat)(hw:w≤100000)(hh:h≤100000){r far:Rat}{rg fg:GF}(hr:FR r rg 600)(hf:FR far fg 600){a:Pnt}{ag:GF × GF}(ha:FP a ag 140)(hn:a0U a P far=a6P P a)
  (g n:Nat) (R:Hp):a0m C0 78 [.optr 507 g 13 0 0,a5m ag,fg.D] (rmE g (mkG (w:Int)) (mkG (h:Int)) a1y (a0V Q) rg::R) n (fun _ H' _=>∃ rg',FR (a4r P (w:Rat) (h:Rat) r a) rg' 600∧H'=rmE g (mkG (w:Int)) (mkG (h:Int)) a1y (a0V Q) rg'::R):=by
 refine a0m.drop ?_;refine a0m.walk w1 d0W rfl fun F=>?_
 have el:(((a0V Q).length:Nat):Int)=(P.length:Int):=by rw [List.length_map,hPQ.len]
 have c1:=a7Y hf hr (by decide);have s1:=a6t ha.fx.is;have s2:=a6t ha.fy.is;have c2:=a7Y ha.fx (a8u w hw) (by decide);have c3:=a7Y ha.fy (a8u h hh) (by decide);have hI:inR (w:Rat) (h:Rat) a=(!decide (a7g a.1<0)&&(!decide (a7g a.2<0)&&(!decide (a3x a.1 (w:Rat)>0) && !decide (a3x a.2 (h:Rat)>0)))):=by
  unfold inR;rw [← a8P,← a8P,← a5r,← a5r];have e1:∀ z:Int,decide (z≥0) = !decide (z<0):=fun z=>by rw [← decide_not,decide_eq_decide];omega
  have e2:∀ z:Int,decide (z≤0) = !decide (z>0):=fun z=>by rw [← decide_not,decide_eq_decide];omega
  rw [e1,e1,e2,e2]
 have hL:decide (a3x far r≤0) = !decide (r<far):=by rw [a5r,← decide_not,decide_eq_decide];exact Rat.not_lt.symm
 have hkeep:inR (w:Rat) (h:Rat) a=false∨a6P P a≤r→a4r P (w:Rat) (h:Rat) r a=r:=fun q=>by
  unfold a4r;rw [if_neg];rintro ⟨q1,q2⟩;rcases q with q|q
  ·rw [q] at q1;cases q1
  ·exact absurd q2 (Rat.not_lt.2 q)
 have hset:inR (w:Rat) (h:Rat) a=true→r<a6P P a→a4r P (w:Rat) (h:Rat) r a=a6P P a:=fun q1 q2=>if_pos ⟨q1,q2⟩
 have hnf:a6P P a≤far:=by rw [← hn];exact (a8w a P far).1
 unfold rmE a5m a4u;unfold GF.D at c1 s1 s2 c2 c3 ⊢;rw [hI] at hkeep hset;obtain ⟨b0,k0⟩:∃ b,decide (r<far)=b:=⟨_,rfl⟩
 obtain ⟨b1,k1⟩:∃ b,decide (a7g a.1<0)=b:=⟨_,rfl⟩
 obtain ⟨b2,k2⟩:∃ b,decide (a7g a.2<0)=b:=⟨_,rfl⟩
 obtain ⟨b3,k3⟩:∃ b,decide (a3x a.1 (w:Rat)>0)=b:=⟨_,rfl⟩
 obtain ⟨b4,k4⟩:∃ b,decide (a3x a.2 (h:Rat)>0)=b:=⟨_,rfl⟩
 rw [k0] at hL;rw [k1,k2,k3,k4] at hkeep hset;obtain ⟨a1,a2⟩:=ag;dsimp only at *;have ha2:FP a (a1,a2) 140:=ha;have hr2:FR r rg 600:=hr;have hf2:FR far fg 600:=hf;rw [show mkG ((1:Nat):Int)=a1y from rfl] at c2 c3;have pO:IsPure a1y.w:=inferInstance;have pW:IsPure (mkG (w:Int)).w:=inferInstance;have pH:IsPure (mkG (h:Int)).w:=inferInstance;generalize a1y=OG at *;generalize mkG (w:Int)=WG at *;generalize mkG (h:Int)=HG at *;have pQ:IsPure (.sl false 8 (a0V Q)):=inferInstance;have hcase:b0=false∨(b0=true∧b1=true)∨(b0=true∧b1=false∧b2=true)∨(b0=true∧b1=false∧b2=false∧b3=true)∨(b0=true∧b1=false∧b2=false∧b3=false∧b4=true)∨(b0=true∧b1=false∧b2=false∧b3=false∧b4=false):=by
  cases b0<;>cases b1<;>cases b2<;>cases b3<;>cases b4<;>decide
 rcases hcase with rfl|⟨rfl,rfl⟩|⟨rfl,rfl,rfl⟩|⟨rfl,rfl,rfl,rfl⟩|⟨rfl,rfl,rfl,rfl,rfl⟩|⟨rfl,rfl,rfl,rfl,rfl⟩
 ·have hk:=hkeep (.inr (Rat.le_trans hnf (Rat.not_lt.1 (of_decide_eq_false k0))))
  rw [← hk] at hr;refine goI a3M (ff2 hL kF) c1 trivial trivial trivial trivial trivial ?_;exact ⟨_,.cons _ (.cons _ (.refl _)),rg,hr,rfl⟩
 ·have hk:=hkeep (.inl rfl)
  rw [← hk] at hr;refine goI a3M (ff3 hL k1 kT) c1 s1 trivial trivial trivial trivial ?_;exact ⟨_,.cons _ (.cons _ (.refl _)),rg,hr,rfl⟩
 ·have hk:=hkeep (.inl rfl)
  rw [← hk] at hr;refine goI a3M (ff4 hL k1 k2 kT) c1 s1 s2 trivial trivial trivial ?_;exact ⟨_,.cons _ (.cons _ (.refl _)),rg,hr,rfl⟩
 ·have hk:=hkeep (.inl rfl)
  rw [← hk] at hr;refine goI a3M (ff5 hL k1 k2 k3 kT) c1 s1 s2 c2 trivial trivial ?_;exact ⟨_,.cons _ (.cons _ (.refl _)),rg,hr,rfl⟩
 ·have hk:=hkeep (.inl rfl)
  rw [← hk] at hr;refine goI a3M (ff6 hL k1 k2 k3 k4 kT) c1 s1 s2 c2 c3 trivial ?_;exact ⟨_,.cons _ (.cons _ (.refl _)),rg,hr,rfl⟩
 have hset:=hset rfl;have hkeep:=fun q=>hkeep (.inr q)
 refine goI a3M (ff7 hL k1 k2 k3 k4 el kT) c1 s1 s2 c2 c3 trivial ?_;refine OkS.loop (α:=Nat × GF × Nat) (fun p=>⟨[(0,.optr 507 g 13 0 0),(4,.optr 0 n 8 0 0),(5,.optr 1 (n+1) 4 0 0),(50,.sl false 8 (a0V Q)),(51,i64 (P.length:Int)),(52,i64 (p.1:Int))],
   ⟨1,n+1,114,4,[.agg [i64 p.2.1.n.s,p.2.1.n.w,i64 (mkG (p.2.1.d:Int)).s,(mkG (p.2.1.d:Int)).w]]⟩::⟨0,n,116,8,[.agg [i64 a1.n.s,a1.n.w,i64 (mkG (a1.d:Int)).s,(mkG (a1.d:Int)).w,i64 a2.n.s,a2.n.w,i64 (mkG (a2.d:Int)).s,(mkG (a2.d:Int)).w]]⟩::rmE g WG HG OG (a0V Q) rg::R,p.2.2⟩) (fun p=>P.length - p.1)
  (fun p=>p.1≤P.length∧FR (a0U a (P.take p.1) far) p.2.1 600∧r<a0U a (P.take p.1) far) (0,fg,_) ⟨Nat.zero_le _,hf,of_decide_eq_true k0⟩ wkI ?_
 rintro ⟨i,fi,m⟩ F ⟨hi,hfi,hri⟩;dsimp only at hi hfi hri ⊢;rcases Nat.lt_or_ge i P.length with h2|h2
 ·have e1:=ltT h2
  have wi:=wiI (i:=i) (by omega);obtain ⟨q,hq⟩:=a1T (l:=Q) (i:=i) (by rw [hPQ.len];exact h2);have hfq:=hPQ.at_ i q hq;have cd:=a5s ha hfq (by decide);have fd:=(b3k ha hfq).mono (show 4*(140+3+1)+1≤600 by decide);have cp:=d4s hfi fd (by decide);have fp:=d4r hfi fd;rw [← a8x h2] at fp;have cc:=a7Y fp hr (by decide);have hle:decide (a3x (a0U a (P.take (i+1)) far) r≤0) = !decide (r<a0U a (P.take (i+1)) far):=by rw [a5r,← decide_not,decide_eq_decide];exact Rat.not_lt.symm
  have hmore:=b8I a P (i+1) far;rw [hn] at hmore;obtain ⟨q1,q2⟩:=q;have hm:(a0V Q)[i]? = some (.agg [i64 q1.n.s,q1.n.w,i64 (mkG (q1.d:Int)).s,(mkG (q1.d:Int)).w,i64 q2.n.s,q2.n.w,i64 (mkG (q2.d:Int)).s,(mkG (q2.d:Int)).w]):=by rw [List.getElem?_map,hq];rfl
  unfold a5m a4u at cd;unfold GF.D at cd cp cc;generalize pkF (a0U a (P.take i) far) (d2 a (pt P i)) fi (b3j (a1,a2) (q1,q2))=f2 at *;generalize b3j (a1,a2) (q1,q2)=dd at *
  by_cases hc:r<a0U a (P.take (i+1)) far
  ·rw [decide_eq_true hc] at hle
   refine goI a3M (ff5 e1 wi hle kN kT) hm cd cp cc trivial trivial ?_;exact ⟨(i+1,f2,_),⟨h2,fp,hc⟩,by dsimp only;omega,wkI⟩
  ·rw [decide_eq_false hc] at hle
   have hk:=hkeep (Rat.le_trans hmore (Rat.not_lt.1 hc));rw [← hk] at hr2;refine goI a3M (ff5 e1 wi hle kN kF) hm cd cp cc trivial trivial ?_;exact ⟨rmE g WG HG OG (a0V Q) rg::R,by repeat (first|exact List.Sublist.refl _|refine List.Sublist.cons _ ?_),rg,hr2,rfl⟩
 ·have e1:=ltF h2
  have:i=P.length:=by omega
  subst this;rw [List.take_length,hn] at hfi hri;rw [← hset hri] at hfi;refine goI a3M e1 trivial trivial trivial trivial trivial trivial ?_;exact And.intro (by trivial) ⟨_,List.Sublist.cons _ (List.Sublist.cons _ (List.Sublist.refl _)),fi,hfi,rfl⟩
end Go.Ide
