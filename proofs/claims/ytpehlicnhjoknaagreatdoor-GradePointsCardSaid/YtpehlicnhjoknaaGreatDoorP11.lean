/- The layer of own lemmas and contracts, part 11. -/
import Derived.Test.YtpehlicnhjoknaaGreatDoorP10
import Derived.Lib.Bytealg
import Derived.Test.YtpehlicnhjoknaaGreatDoorP6
set_option linter.unusedVariables false
set_option linter.unusedSimpArgs false
namespace Go.Ide
open Go.Proofs Go.RowKit
set_option maxRecDepth 20000
set_option maxHeartbeats 2000000
theorem b4n (x y:GI)(hx:x.wf)(hy:y.wf)(h0:0<y.z)(fx:x.few)(fy:y.few):a0b C0 197 [x.D,y.D] (.tup [(a7c x y).1.D,(a7c x y).2.D]):=by
 by_cases h:x.sm=true∧y.sm=true∧x.z ≠ -9223372036854775808
 ·unfold a7c
  rw [if_pos h];obtain ⟨a,sa⟩:=x;obtain ⟨b,sb⟩:=y;obtain ⟨h1,h2,h3⟩:=h;dsimp only at h1 h2 h3 h0;subst h1;subst h2;have ra:=hx.1 rfl;have rb:=hy.1 rfl;dsimp only at ra rb;exact b1F a b h0 ⟨by omega,by omega⟩ ⟨by omega,by omega⟩
 ·exact b5E x y hx hy h0 fx fy h
theorem d1R (x y:GI)(hx:x.wf)(hy:y.wf)(h0:0<y.z)(fx:x.few)(fy:y.few):a0b C0 226 [x.D,y.D] (a7c x y).1.D:=by
 refine a0c.walk w1 b4A rfl fun F=>?_
 have cg:=b0j y hy;have cd:=b4n x y hx hy h0 fx fy;have e1:decide (max (-1) (min 1 y.z)<0)=false:=decide_eq_false (by omega);have hpx:IsPure x.w:=inferInstance;have hpy:IsPure y.w:=inferInstance;have hpq:IsPure (a7c x y).1.w:=inferInstance;have hpr:IsPure (a7c x y).2.w:=inferInstance;dsimp only [GI.D] at *;generalize (a7c x y).1.s=qs at *;generalize (a7c x y).1.w=qw at *;generalize (a7c x y).2.s=rs at *;generalize (a7c x y).2.w=rw at *;refine fR 0 ?_;refine OkS.seq ?_;refine fR 100 ?_;refine dI cg ?_;rw [e1];refine ifI ?_;refine skI ?_;refine fR 300 ?_;refine dI cd ?_;refine fR 400 ?_;refine rtI ?_;exact a0a rfl IsPure.out
theorem b6D (x:GI)(h:x.wf):c4T x=mkG (x.z.natAbs:Nat):=by
 have h1:=c4U x h;have h2:=c7G x;rw [b6T h1 (by omega),h2]
theorem a2S {n:Nat}(h:(a0e n).length<1000000):(mkG (n:Int)).few:=by
 show (a0e (n:Int).natAbs).length<1000000;rw [Int.natAbs_natCast];exact h
theorem b4m {a b:Nat}(hb:0<b):a7c (mkG a) (mkG b)=(mkG ((a / b:Nat):Int),mkG ((a%b:Nat):Int)):=by
 have hb':(0:Int)<(mkG (b:Int)).z:=by show (0:Int)<(b:Int);omega
 obtain ⟨h1,h2⟩:=b7j (a0H a) (a0H b) hb';obtain ⟨h3,h4⟩:=c2O (x:=mkG a) hb';have e3:(a7c (mkG a) (mkG b)).1.z=((a / b:Nat):Int):=by rw [h3];exact (Int.natCast_ediv a b).symm
 have e4:(a7c (mkG a) (mkG b)).2.z=((a%b:Nat):Int):=by rw [h4];exact (Int.natCast_emod a b).symm
 have c3:=b6T h1 (by rw [e3];generalize a / b=q;omega);have c4:=b6T h2 (by rw [e4];generalize a%b=q;omega);rw [e3] at c3;rw [e4] at c4;generalize a7c (mkG a) (mkG b)=p at *;obtain ⟨p1,p2⟩:=p;dsimp only at c3 c4;rw [c3,c4]
theorem d1i (x y:GI)(hx:x.wf)(hy:y.wf)(fx:x.few)(fy:y.few):a0b C0 127 [x.D,y.D] (mkG (Nat.gcd x.z.natAbs y.z.natAbs:Nat)).D:=by
 refine a0c.walk w1 b4u rfl fun F=>?_
 have c1:=c7H x hx fx;have c2:=c7H y hy fy;rw [b6D x hx] at c1;rw [b6D y hy] at c2;have hpx:IsPure x.w:=inferInstance;have hpy:IsPure y.w:=inferInstance;have hpm:∀ n:Nat,IsPure (mkG (n:Int)).w:=fun n=>inferInstance
 unfold GI.few at fx fy;generalize x.z.natAbs=a at *;generalize y.z.natAbs=b at *;dsimp only [GI.D] at *;refine fR 0 ?_;refine OkS.seq ?_;refine OkS.regD w1 100 [0,1,2] [3,4,5] (by kernel_rfl) ?_;refine nxI ?_;refine a0n.same _ (c1) inferInstance ?_;refine nxI ?_;refine dI c2 ?_;refine OkS.seq ?_;refine OkS.block ?_;refine OkS.loop (α:=Nat × Nat × Nat) (fun p=>⟨[(2,.optr 0 0 2 0 0),(3,.optr 1 1 2 0 0),(4,.optr 2 2 2 0 0)],[⟨2,2,112,2,[smI 0]⟩,⟨1,1,112,2,[.agg [i64 (mkG (p.2.1:Int)).s,(mkG (p.2.1:Int)).w]]⟩,⟨0,0,112,2,[.agg [i64 (mkG (p.1:Int)).s,(mkG (p.1:Int)).w]]⟩],p.2.2⟩) (fun p=>p.2.1)
  (fun p=>Nat.gcd p.1 p.2.1=Nat.gcd a b∧(a0e p.1).length<1000000∧(a0e p.2.1).length<1000000) (a,b,_) ⟨rfl,fx,fy⟩ wkI ?_
 rintro ⟨u,v,n⟩ F ⟨g1,g2,g3⟩;dsimp only at g1 g2 g3 ⊢;have cg:=b0j (mkG (v:Int)) (a0H _);rw [a2B] at cg;dsimp only [GI.D] at cg;refine OkS.seq ?_;refine fR 200 ?_;refine dI cg ?_;rcases Nat.eq_zero_or_pos v with hv|hv
 ·subst hv
  have e2:(max (-1) (min 1 ((0:Nat):Int)) != 0)=false:=by decide
  rw [e2];refine ifI ?_;refine exI ?_;refine fR 500 ?_;refine rtI ?_;refine a0a ?_ IsPure.out;rw [← g1,Nat.gcd_zero_right]
 ·have e2:(max (-1) (min 1 (v:Int)) != 0)=true:=by
   have:max (-1) (min 1 (v:Int))=1:=by omega
   rw [this];rfl
  have cd:=b4n (mkG (u:Int)) (mkG (v:Int)) (a0H _) (a0H _) (by show (0:Int)<(v:Int);omega) (a2S g2) (a2S g3);rw [b4m hv] at cd;dsimp only [GI.D] at cd;rw [e2];refine ifI ?_;refine skI ?_;refine OkS.block ?_;refine fR 300 ?_;refine dI cd ?_;refine OkS.regW w1 400 [0,1,2] [3] 2 [0] (0) (by kernel_rfl) (by kernel_rfl) ?_;refine nxI ?_;refine nxI ?_;have hm:u%v<v:=Nat.mod_lt u hv;refine ⟨(v,u%v,_),⟨?_,g3,Nat.lt_of_le_of_lt (a0A _ _ (Nat.mod_le _ _)) g2⟩,hm,wkI⟩;rw [← g1,Nat.gcd_comm u v,Nat.gcd_rec v u,Nat.gcd_comm]
structure GF where
 n:GI
 d:Nat
abbrev GF.D (x:GF):D:=.agg [i64 x.n.s,x.n.w,i64 (mkG (x.d:Int)).s,(mkG (x.d:Int)).w]
def isF (r:Rat)(x:GF):Prop:=x.n.wf∧x.n.z=r.num∧x.d=r.den
theorem c5w {a b:Nat}(hb:0<b)(h:(a0e b).length<1000000):(a0e (Nat.gcd a b)).length<1000000:=Nat.lt_of_le_of_lt (a0A _ _ (Nat.gcd_le_right _ hb)) h
def a8r (x:GI)(d:Nat):GF:=if d=1 then ⟨x,1⟩ else ⟨(a7c x (mkG (Nat.gcd x.z.natAbs d:Nat))).1,d / Nat.gcd x.z.natAbs d⟩
theorem a7t (x:GI)(d:Nat)(hx:x.wf)(hd:0<d):isF (mkRat x.z d) (a8r x d):=by
 have hg:0<Nat.gcd x.z.natAbs d:=Nat.gcd_pos_of_pos_right _ hd;have e:mkRat x.z d=Rat.normalize x.z d (by omega):=(Rat.normalize_eq_mkRat _).symm;rw [e,Rat.normalize_eq];unfold a8r;split
 ·rename_i h
  subst h;refine ⟨hx,?_,?_⟩
  ·dsimp only;rw [Nat.gcd_one_right];simp
  ·dsimp only;rw [Nat.gcd_one_right]
 ·have hg':(0:Int)<(mkG (Nat.gcd x.z.natAbs d:Nat)).z:=by show (0:Int)<(Nat.gcd x.z.natAbs d:Nat);omega
  exact ⟨(b7j hx (a0H _) hg').1,(c2O hg').1,rfl⟩
theorem b8D:mkG ((1:Nat):Int)=⟨1,true⟩:=a5U ⟨by decide,by decide⟩
theorem d2y {d:Nat}(h:Sm (d:Int)):(mkG (d:Int)).s=(d:Int)∧(mkG (d:Int)).w=a2d:=by rw [a5U h];exact ⟨rfl,rfl⟩
theorem d4g {d:Nat}(h:¬ Sm (d:Int)):(mkG (d:Int)).s=1∧(mkG (d:Int)).w=.sl false 1 ((a0e d).map a0h)∧(a0e d).map a0h≠[]:=by
 rw [b8B h];refine ⟨?_,rfl,a1S ?_⟩
 ·show (if (d:Int)<0 then (-1:Int) else 1)=1
  rw [if_neg (by omega)]
 ·intro h0
  subst h0;exact h ⟨by decide,by decide⟩
def b2j (x y:GI):GF:=a8r (if y.z<0 then mkG (-x.z) else x) y.z.natAbs
theorem c1G (x y:GI)(hx:x.wf)(h0:y.z≠0):isF (Rat.divInt x.z y.z) (b2j x y):=by
 unfold b2j
 by_cases h:y.z<0
 ·rw [if_pos h]
  have:=a7t (mkG (-x.z)) y.z.natAbs (a0H _) (by omega)
  rw [a2B] at this;have e:mkRat (-x.z) y.z.natAbs=Rat.divInt x.z y.z:=by
   obtain ⟨k,hk⟩:∃ k,y.z=Int.negSucc k:=by
    cases hy:y.z with
    | ofNat n=>rw [hy] at h;simp at h;omega
    | negSucc k=>exact ⟨k,rfl⟩
   rw [hk];show mkRat (-x.z) (k+1)=_;exact (Rat.normalize_eq_mkRat (by omega)).symm
  rw [e] at this;exact this
 ·rw [if_neg h]
  have:=a7t x y.z.natAbs hx (by omega)
  have e:mkRat x.z y.z.natAbs=Rat.divInt x.z y.z:=by
   rw [← Rat.divInt_ofNat];congr 1;omega
  rw [e] at this;exact this
theorem c4j (x y:GI)(hx:x.wf)(hy:y.wf)(h0:y.z≠0)(fx:x.few)(fy:y.few):a0b C0 179 [x.D,y.D] (b2j x y).D:=by
 refine a0c.walk w1 b1P rfl fun F=>?_
 have cg:=b0j y hy;have cn1:=b5S x hx fx;have cn2:=b5S y hy fy;obtain ⟨x',hx'⟩:∃ x',x'=if y.z<0 then mkG (-x.z) else x:=⟨_,rfl⟩
 have wx':x'.wf:=by rw [hx'];split;exact a0H _;exact hx
 have fx':x'.few:=by rw [hx'];split;exact b7I fx;exact fx
 have hd:0<y.z.natAbs:=by omega
 have fd:(a0e y.z.natAbs).length<1000000:=fy;have fdg:=a2S fd;have ey:y.z<0→mkG (-y.z)=mkG (y.z.natAbs:Int):=fun h=>by congr 1;omega
 have ey':¬ y.z<0→y=mkG (y.z.natAbs:Int):=fun h=>by
  rw [b6T hy (by omega)];show mkG y.z=mkG (y.z.natAbs:Int)
  congr 1;omega
 unfold b2j;rw [← hx'];generalize hdd:y.z.natAbs=d at *;have hpx:IsPure x.w:=inferInstance;have hpy:IsPure y.w:=inferInstance;have hpx':IsPure x'.w:=inferInstance;have hpd:IsPure (mkG (d:Int)).w:=inferInstance;have hg:0<Nat.gcd x'.z.natAbs d:=Nat.gcd_pos_of_pos_right _ hd;have cc:=d1i x' (mkG (d:Int)) wx' (a0H _) fx' fdg;rw [a2B,Int.natAbs_natCast] at cc;have fgg:(mkG (Nat.gcd x'.z.natAbs d:Nat)).few:=a2S (c5w hd fd);have cq1:=d1R x' (mkG (Nat.gcd x'.z.natAbs d:Nat)) wx' (a0H _) (by show (0:Int)<(Nat.gcd x'.z.natAbs d:Nat);omega) fx' fgg;have cq2:=d1R (mkG (d:Int)) (mkG (Nat.gcd x'.z.natAbs d:Nat)) (a0H _) (a0H _) (by show (0:Int)<(Nat.gcd x'.z.natAbs d:Nat);omega) fdg fgg;rw [b4m hg] at cq2;have hpg:IsPure (mkG ((Nat.gcd x'.z.natAbs d:Nat):Int)).w:=inferInstance;have hpq1:IsPure (a7c x' (mkG (Nat.gcd x'.z.natAbs d:Nat))).1.w:=inferInstance;have hpq2:IsPure (mkG ((d / Nat.gcd x'.z.natAbs d:Nat):Int)).w:=inferInstance;unfold a8r GF.D;dsimp only [GI.D] at *;refine fR 0 ?_;refine OkS.seqW ⟨[(2,.optr 0 0 2 0 0),(3,.optr 1 1 2 0 0),(4,.optr 2 2 4 0 0)],[⟨2,2,114,4,[.agg [i64 0,a2d,i64 0,a2d]]⟩,⟨1,1,112,2,[.agg [i64 (mkG (d:Int)).s,(mkG (d:Int)).w]]⟩,⟨0,0,112,2,[.agg [i64 x'.s,x'.w]]⟩],90⟩ ?_ ?_
 ·by_cases h:y.z<0
  ·have e1:decide (max (-1) (min 1 y.z)<0)=true:=decide_eq_true (by omega)
   rw [if_pos h] at hx';subst hx';rw [← ey h];refine fR 100 ?_;refine dI cg ?_;rw [e1];refine ifI ?_;refine OkS.regD w1 200 [0,1,2] [3,4,5] (by kernel_rfl) ?_;refine nxI ?_;refine a0n.same _ (cn1) inferInstance ?_;refine nxI ?_;refine dI cn2 ?_;exact ⟨rfl,wkI⟩
  ·have e1:decide (max (-1) (min 1 y.z)<0)=false:=decide_eq_false (by omega)
   rw [if_neg h] at hx';subst hx';have ey:=ey' h;refine fR 100 ?_;refine dI cg ?_;rw [e1];refine ifI ?_;refine skI ?_;rw [← ey];exact ⟨rfl,wkI⟩
 by_cases h1:d=1
 ·subst h1
  rw [if_pos rfl,b8D];refine OkS.seq ?_;refine sZ 300 ?_
  repeat' (first|(refine And.intro (by exact sdI) ?_;refine dsI ?_)|((refine brI (fun hb=>?_) (fun hb=>?_))<;>(try simp only [Bool.not_eq_true',Bool.not_eq_false'] at hb)<;>(try simp only [hb])<;>(refine dsI ?_)))
  refine ifI ?_;refine fR 400 ?_;refine rtI ?_;exact a0a rfl IsPure.out
 ·rw [if_neg h1]
  refine OkS.seqW ⟨[(2,.optr 0 0 2 0 0),(3,.optr 1 1 2 0 0),(4,.optr 2 2 4 0 0)],[⟨2,2,114,4,[.agg [i64 0,a2d,i64 0,a2d]]⟩,⟨1,1,112,2,[.agg [i64 (mkG (d:Int)).s,(mkG (d:Int)).w]]⟩,⟨0,0,112,2,[.agg [i64 x'.s,x'.w]]⟩],98⟩ ?_ ?_
  ·by_cases hs:Sm (d:Int)
   ·obtain ⟨a1,a2⟩:=d2y hs
    rw [a1,a2];have e2:((d:Int)==1)=false:=beq_eq_false_iff_ne.2 (by omega);refine sZ 300 ?_
    repeat' (first|(refine And.intro (by exact sdI) ?_;refine dsI ?_)|((refine brI (fun hb=>?_) (fun hb=>?_))<;>(try simp only [Bool.not_eq_true',Bool.not_eq_false'] at hb)<;>(try simp only [hb])<;>(refine dsI ?_)))
    try simp only [e2]
    refine ifI ?_;refine skI ?_;exact ⟨rfl,⟨a5P _,⟨.refl _,.refl _,.refl _,trivial⟩,Nat.le_refl _⟩⟩
   ·obtain ⟨a1,a2,a3⟩:=d4g hs
    rw [a1,a2];generalize (a0e d).map a0h=l at *;refine OkS.seq ?_;refine OkS.reg w1 300 (by kernel_rfl) ?_;refine nwI (ff3 (@ne_eq (List D)) a3 not_false_eq_true) ?_;refine gwI kT ?_;refine ifI ?_;refine skI ?_;exact ⟨rfl,⟨a5P _,⟨.refl _,.refl _,.refl _,trivial⟩,Nat.le_refl _⟩⟩
  ·refine fR 500 ?_
   refine dI cc ?_;refine OkS.seq ?_;refine OkS.regD w1 600 [0,1,2,3,4] [5,6,7] (by kernel_rfl) ?_;refine nxI ?_;refine a0n.same _ (cq1) inferInstance ?_;refine nxI ?_;refine dI cq2 ?_;refine rtI ?_;exact a0a rfl IsPure.out
def rk (r:Rat)(k:Nat):Prop:=(a0e r.num.natAbs).length≤k∧(a0e r.den).length≤k
theorem rk.mono {r:Rat}{k l:Nat}(h:rk r k)(hl:k≤l):rk r l:=⟨Nat.le_trans h.1 hl,Nat.le_trans h.2 hl⟩
theorem b0Y {n:Int}{d k:Nat}(hd:d≠0)(h1:(a0e n.natAbs).length≤k)(h2:(a0e d).length≤k):rk (Rat.normalize n d hd) k:=by
 rw [Rat.normalize_eq];exact ⟨Nat.le_trans (a0A _ _ (Int.natAbs_ediv_le_natAbs _ _)) h1,Nat.le_trans (a0A _ _ (Nat.div_le_self _ _)) h2⟩
theorem a1Y (a b:Int):(a0e (a*b).natAbs).length≤(a0e a.natAbs).length+(a0e b.natAbs).length:=by
 rw [Int.natAbs_mul];exact a2V _ _
theorem a9T (a b:Int):(a0e (a+b).natAbs).length≤max (a0e a.natAbs).length (a0e b.natAbs).length+1 :=
 Nat.le_trans (a0A _ _ (Int.natAbs_add_le a b)) (b2f _ _)
theorem b2z {a b:Rat}{i j:Nat}(ha:rk a i)(hb:rk b j):rk (a+b) (i+j+1):=by
 rw [Rat.add_def];have h1:=a1Y a.num b.den;have h2:=a1Y b.num a.den;have h3:=a9T (a.num*b.den) (b.num*a.den);have h4:=a2V a.den b.den;rw [Int.natAbs_natCast] at h1 h2;obtain ⟨a1,a2⟩:=ha;obtain ⟨b1,b2⟩:=hb;exact b0Y _ (by omega) (by omega)
theorem a1L {a b:Rat}{i j:Nat}(ha:rk a i)(hb:rk b j):rk (a*b) (i+j):=by
 rw [Rat.mul_def];have h1:=a1Y a.num b.num;have h4:=a2V a.den b.den;obtain ⟨a1,a2⟩:=ha;obtain ⟨b1,b2⟩:=hb;exact b0Y _ (by omega) (by omega)
theorem b9x {a:Rat}{i:Nat}(ha:rk a i):rk (-a) i:=by
 unfold rk;rw [Rat.neg_num,Rat.neg_den,Int.natAbs_neg];exact ha
theorem a3G {a b:Rat}{i j:Nat}(ha:rk a i)(hb:rk b j):rk (a - b) (i+j+1):=by
 rw [Rat.sub_eq_add_neg];exact b2z ha (b9x hb)
structure FR (r:Rat)(x:GF)(k:Nat):Prop where
 is:isF r x
 rk:rk r k
theorem FR.fn {r:Rat}{x:GF}{k:Nat}(h:FR r x k)(hk:k<1000000):x.n.few:=by
 show (a0e x.n.z.natAbs).length<1000000;rw [h.is.2.1];have:=h.rk.1;omega
theorem FR.ln {r:Rat}{x:GF}{k:Nat}(h:FR r x k):(a0e x.n.z.natAbs).length≤k:=by rw [h.is.2.1];exact h.rk.1
theorem FR.ld {r:Rat}{x:GF}{k:Nat}(h:FR r x k):(a0e x.d).length≤k:=by rw [h.is.2.2];exact h.rk.2
theorem FR.dpos {r:Rat}{x:GF}{k:Nat}(h:FR r x k):0<x.d:=by rw [h.is.2.2];exact r.den_pos
theorem FR.mono {r:Rat}{x:GF}{k l:Nat}(h:FR r x k)(hl:k≤l):FR r x l:=⟨h.is,h.rk.mono hl⟩
theorem d1r (x:GI)(d:Nat)(hx:x.wf)(fx:(a0e x.z.natAbs).length<400000)(fd:(a0e d).length<400000):a0b C0 180 [x.D,(mkG (d:Int)).D] (mkG (x.z*d)).D:=by
 have:=d1s x (mkG (d:Int)) hx (a0H _) fx (by rw [a2B,Int.natAbs_natCast];exact fd)
 rwa [a2B] at this
theorem d4h (c d:Nat)(fc:(a0e c).length<400000)(fd:(a0e d).length<400000):a0b C0 180 [(mkG (c:Int)).D,(mkG (d:Int)).D] (mkG ((c*d:Nat):Int)).D:=by
 have:=d1r (mkG (c:Int)) d (a0H _) (by rw [a2B,Int.natAbs_natCast];exact fc) fd
 rw [a2B,← Int.natCast_mul] at this;exact this
theorem b4K (x:GI)(d:Nat)(hx:x.wf)(hd:0<d)(fx:x.few)(fd:(a0e d).length<1000000):a0b C0 179 [x.D,(mkG (d:Int)).D] (a8r x d).D:=by
 have:=c4j x (mkG (d:Int)) hx (a0H _) (by rw [a2B];omega) fx (a2S fd)
 unfold b2j at this;rw [a2B,if_neg (by omega),Int.natAbs_natCast] at this;exact this
theorem a8n (x:GF)(hd:0<x.d):a0b C0 114 [x.D] (boo (decide (x.d=1))):=by
 refine a0c.walk w1 b7R rfl fun F=>?_
 obtain ⟨y,d⟩:=x;dsimp only [GF.D] at hd ⊢;have hpy:IsPure y.w:=inferInstance;generalize y.s=ys at *;generalize y.w=yw at *
 by_cases hs:Sm (d:Int)
 ·obtain ⟨a1,a2⟩:=d2y hs
  rw [a1,a2];have e2:((d:Int)==1)=decide (d=1):=by
   rw [Bool.eq_iff_iff,beq_iff_eq,decide_eq_true_iff];omega
  refine fR 0 ?_;refine sZ 100 ?_
  repeat' (first|(refine And.intro (by exact sdI) ?_;refine dsI ?_)|((refine brI (fun hb=>?_) (fun hb=>?_))<;>(try simp only [Bool.not_eq_true',Bool.not_eq_false'] at hb)<;>(try simp only [hb])<;>(refine dsI ?_)))
  try simp only [e2]
  refine rtI ?_;exact a0a rfl IsPure.out
 ·obtain ⟨a1,a2,a3⟩:=d4g hs
  rw [a1,a2];have e2:decide (d=1)=false:=decide_eq_false fun h=>hs (by rw [h];exact ⟨by decide,by decide⟩)
  rw [e2];generalize (a0e d).map a0h=l at *;refine fR 0 ?_;refine OkS.seq ?_;refine OkS.reg w1 100 (by kernel_rfl) ?_;refine nwI (ff3 (@ne_eq (List D)) a3 not_false_eq_true) ?_;refine gwI kT ?_;refine rtI ?_;exact a0a rfl IsPure.out
def a9y (x y:GF):GF:=if x.d=1∧y.d=1 then ⟨a7k x.n y.n,1⟩ else a8r (a7k (mkG (x.n.z*y.d)) (mkG (y.n.z*x.d))) (x.d*y.d)
theorem c4V {a b:Rat}{x y:GF}(hx:isF a x)(hy:isF b y):isF (a+b) (a9y x y):=by
 obtain ⟨x1,x2,x3⟩:=hx;obtain ⟨y1,y2,y3⟩:=hy;rw [Rat.add_def,Rat.normalize_eq_mkRat,← x2,← x3,← y2,← y3];unfold a9y;split
 ·rename_i h
  rw [h.1,h.2];refine ⟨a6h _ _,?_,?_⟩
  ·dsimp only
   rw [a9z];show _=(mkRat (x.n.z*1+y.n.z*1) 1).num;rw [Int.mul_one,Int.mul_one,Rat.mkRat_one,Rat.num_intCast]
  ·dsimp only
   show _=(mkRat (x.n.z*1+y.n.z*1) 1).den;rw [Rat.mkRat_one,Rat.den_intCast]
 ·have:=a7t (a7k (mkG (x.n.z*y.d)) (mkG (y.n.z*x.d))) (x.d*y.d) (a6h _ _) (Nat.mul_pos (by rw [x3];exact a.den_pos) (by rw [y3];exact b.den_pos))
  rw [a9z,a2B,a2B] at this;exact this
theorem c0l (x:GI):a0b C0 105 [x.D] (⟨x,1⟩:GF).D:=by
 refine a0c.walk w1 b7P rfl fun F=>?_
 have hpx:IsPure x.w:=inferInstance;unfold GF.D;rw [b8D];dsimp only [GI.D] at *;refine fR 0 ?_;refine OkS.seq ?_;refine OkS.regD w1 100 [0,1] [2,3] (by kernel_rfl) ?_;refine nxI ?_;refine a0n.same _ (b3F 1) inferInstance ?_;refine nxI ?_;refine rtI ?_;exact a0a rfl IsPure.out
theorem a5j {a b:Rat}{x y:GF}{i j:Nat}(hx:FR a x i)(hy:FR b y j)(hk:i+j<300000):a0b C0 104 [x.D,y.D] (a9y x y).D:=by
 refine a0c.walk w1 b7O rfl fun F=>?_
 have v1:=a8n x hx.dpos;have v2:=a8n y hy.dpos;have l1:=hx.ln;have l2:=hy.ln;have l3:=hx.ld;have l4:=hy.ld;have dp:=Nat.mul_pos hx.dpos hy.dpos;have m1:=d1r x.n y.d hx.is.1 (by omega) (by omega);have m2:=d1r y.n x.d hy.is.1 (by omega) (by omega);have m3:=d4h x.d y.d (by omega) (by omega);have z1:=a1Y x.n.z y.d;have z2:=a1Y y.n.z x.d;rw [Int.natAbs_natCast] at z1 z2;have z3:=a9T (x.n.z*y.d) (y.n.z*x.d);have z4:=a2V x.d y.d;have s1:=b6F (mkG (x.n.z*y.d)) (mkG (y.n.z*x.d)) (a0H _) (a0H _) (by show (a0e (x.n.z*y.d).natAbs).length<1000000;omega) (by show (a0e (y.n.z*x.d).natAbs).length<1000000;omega);have s0:=b6F x.n y.n hx.is.1 hy.is.1 (hx.fn (by omega)) (hy.fn (by omega));have mk:=b4K (a7k (mkG (x.n.z*y.d)) (mkG (y.n.z*x.d))) (x.d*y.d) (a6h _ _) dp (by
  show (a0e (a7k (mkG (x.n.z*y.d)) (mkG (y.n.z*x.d))).z.natAbs).length<1000000;rw [a9z,a2B,a2B];omega) (by omega)
 have wg:=c0l (a7k x.n y.n);have hp1:IsPure x.n.w:=inferInstance;have hp2:IsPure y.n.w:=inferInstance;have hp3:IsPure (mkG (x.d:Int)).w:=inferInstance;have hp4:IsPure (mkG (y.d:Int)).w:=inferInstance;have hp5:IsPure (a7k x.n y.n).w:=inferInstance;have hp6:IsPure (a7k (mkG (x.n.z*y.d)) (mkG (y.n.z*x.d))).w:=inferInstance;have hp7:IsPure (mkG (x.n.z*y.d)).w:=inferInstance;have hp8:IsPure (mkG (y.n.z*x.d)).w:=inferInstance;have hp9:IsPure (mkG ((x.d*y.d:Nat):Int)).w:=inferInstance;have hq1:IsPure (a8r (a7k (mkG (x.n.z*y.d)) (mkG (y.n.z*x.d))) (x.d*y.d)).n.w:=inferInstance;have hq2:IsPure (mkG ((a8r (a7k (mkG (x.n.z*y.d)) (mkG (y.n.z*x.d))) (x.d*y.d)).d:Int)).w:=inferInstance;have hq3:IsPure (mkG ((1:Nat):Int)).w:=inferInstance;unfold a9y;clear z1 z2 z3 z4 l1 l2 l3 l4 dp hk hx hy;dsimp only [GI.D,GF.D] at *
 by_cases e1:x.d=1
 ·have fb:decide (x.d=1)=true:=decide_eq_true e1
  rw [fb] at v1
  by_cases e2:y.d=1
  ·have fd:decide (y.d=1)=true:=decide_eq_true e2
   rw [fd] at v2;rw [if_pos ⟨e1,e2⟩];refine fR 0 ?_;refine OkS.seq ?_;refine fR 100 ?_;refine dI v1 ?_;dsimp only [a6k];refine nxI ?_;dsimp only [a6k];refine nxI ?_;refine dI v2 ?_;refine ifI ?_;refine fR 200 ?_;refine dI s0 ?_;refine dI wg ?_;refine rtI ?_;exact a0a rfl IsPure.out
  ·have fd:decide (y.d=1)=false:=decide_eq_false e2
   rw [fd] at v2;rw [if_neg fun h=>e2 h.2];refine fR 0 ?_;refine OkS.seq ?_;refine fR 100 ?_;refine dI v1 ?_;dsimp only [a6k];refine nxI ?_;dsimp only [a6k];refine nxI ?_;refine dI v2 ?_;refine ifI ?_;refine skI ?_;refine OkS.seq ?_;refine OkS.regD w1 300 [0,1,2,3,4,5,6,7,8,9,10,11,12,13,14] [15,16,17] (by kernel_rfl) ?_;refine nxI ?_;refine a0n.same _ (m1) inferInstance ?_;refine nxI ?_;refine a0n.same _ (m2) inferInstance ?_;refine nxI ?_;refine a0n.same _ (s1) inferInstance ?_;refine nxI ?_;refine dI m3 ?_;refine dI mk ?_;refine rtI ?_;exact a0a rfl IsPure.out
 ·have fb:decide (x.d=1)=false:=decide_eq_false e1
  rw [fb] at v1;rw [if_neg fun h=>e1 h.1];refine fR 0 ?_;refine OkS.seq ?_;refine fR 100 ?_;refine dI v1 ?_;dsimp only [b0w];refine nxI ?_;dsimp only [b0w];refine nxI ?_;refine ifI ?_;refine skI ?_;refine OkS.seq ?_;refine OkS.regD w1 300 [0,1,2,3,4,5,6,7,8,9,10,11,12,13,14] [15,16,17] (by kernel_rfl) ?_;refine nxI ?_;refine a0n.same _ (m1) inferInstance ?_;refine nxI ?_;refine a0n.same _ (m2) inferInstance ?_;refine nxI ?_;refine a0n.same _ (s1) inferInstance ?_;refine nxI ?_;refine dI m3 ?_;refine dI mk ?_;refine rtI ?_;exact a0a rfl IsPure.out
def c1N (x:GF):GF:=⟨mkG (-x.n.z),x.d⟩
theorem c6h {a:Rat}{x:GF}(h:isF a x):isF (-a) (c1N x):=⟨a0H _,by rw [Rat.neg_num,← h.2.1];rfl,by rw [Rat.neg_den,← h.2.2];rfl⟩
theorem b8K {a:Rat}{x:GF}{k:Nat}(h:FR a x k):FR (-a) (c1N x) k:=⟨c6h h.is,b9x h.rk⟩
theorem c8l {a:Rat}{x:GF}{k:Nat}(h:FR a x k)(hk:k<1000000):a0b C0 140 [x.D] (c1N x).D:=by
 refine a0c.walk w1 b7U rfl fun F=>?_
 have cn:=b5S x.n h.is.1 (h.fn hk);have hp1:IsPure x.n.w:=inferInstance;have hp3:IsPure (mkG (x.d:Int)).w:=inferInstance;have hp5:IsPure (mkG (-x.n.z)).w:=inferInstance;unfold c1N;dsimp only [GI.D,GF.D] at *;refine fR 0 ?_;refine OkS.seq ?_;refine OkS.regD w1 100 [0,1,2,3,4] [5,6] (by kernel_rfl) ?_;refine nxI ?_;refine a0n.same _ (cn) inferInstance ?_;refine nxI ?_;refine rtI ?_;exact a0a rfl IsPure.out
def a3q (x y:GF):GF:=a9y x (c1N y)
theorem a3j {a b:Rat}{x y:GF}{i j:Nat}(hx:FR a x i)(hy:FR b y j):FR (a+b) (a9y x y) (i+j+1):=⟨c4V hx.is hy.is,b2z hx.rk hy.rk⟩
theorem a1O {a b:Rat}{x y:GF}{i j:Nat}(hx:FR a x i)(hy:FR b y j):FR (a - b) (a3q x y) (i+j+1):=by
 rw [Rat.sub_eq_add_neg];exact a3j hx (b8K hy)
theorem a3g {a b:Rat}{x y:GF}{i j:Nat}(hx:FR a x i)(hy:FR b y j)(hk:i+j<300000):a0b C0 133 [x.D,y.D] (a3q x y).D:=by
 refine a0c.walk w1 b7T rfl fun F=>?_
 have c1:=c8l hy (by omega);have c2:=a5j hx (b8K hy) hk;have p1:IsPure x.n.w:=inferInstance;have p2:IsPure y.n.w:=inferInstance;have p3:IsPure (mkG (x.d:Int)).w:=inferInstance;have p4:IsPure (mkG (y.d:Int)).w:=inferInstance;have p5:IsPure (c1N y).n.w:=inferInstance;have p6:IsPure (mkG ((c1N y).d:Int)).w:=inferInstance;have p7:IsPure (a9y x (c1N y)).n.w:=inferInstance;have p8:IsPure (mkG ((a9y x (c1N y)).d:Int)).w:=inferInstance;unfold a3q;dsimp only [GI.D,GF.D] at *;refine fR 0 ?_;refine OkS.seq ?_;refine OkS.regD w1 100 [0,1,2] [3,4] (by kernel_rfl) ?_;refine nxI ?_;refine a0n.same _ (c1) inferInstance ?_;refine nxI ?_;refine dI c2 ?_;refine rtI ?_;exact a0a rfl IsPure.out
def a4s (x y:GF):GF:=a8r (mkG (x.n.z*y.n.z)) (x.d*y.d)
theorem c5Z {a b:Rat}{x y:GF}(hx:isF a x)(hy:isF b y):isF (a*b) (a4s x y):=by
 obtain ⟨x1,x2,x3⟩:=hx;obtain ⟨y1,y2,y3⟩:=hy;rw [Rat.mul_def,Rat.normalize_eq_mkRat,← x2,← x3,← y2,← y3]
 have:=a7t (mkG (x.n.z*y.n.z)) (x.d*y.d) (a0H _) (Nat.mul_pos (by rw [x3];exact a.den_pos) (by rw [y3];exact b.den_pos))
 rw [a2B] at this;exact this
theorem a0x {a b:Rat}{x y:GF}{i j:Nat}(hx:FR a x i)(hy:FR b y j):FR (a*b) (a4s x y) (i+j):=⟨c5Z hx.is hy.is,a1L hx.rk hy.rk⟩
theorem a2h {a b:Rat}{x y:GF}{i j:Nat}(hx:FR a x i)(hy:FR b y j)(hk:i+j<300000):a0b C0 106 [x.D,y.D] (a4s x y).D:=by
 refine a0c.walk w1 b7Q rfl fun F=>?_
 have l1:=hx.ln;have l2:=hy.ln;have l3:=hx.ld;have l4:=hy.ld;have dp:=Nat.mul_pos hx.dpos hy.dpos;have z1:=a1Y x.n.z y.n.z;have z4:=a2V x.d y.d;have m1:=d1s x.n y.n hx.is.1 hy.is.1 (by omega) (by omega);have m3:=d4h x.d y.d (by omega) (by omega);have mk:=b4K (mkG (x.n.z*y.n.z)) (x.d*y.d) (a0H _) dp (by show (a0e (x.n.z*y.n.z).natAbs).length<1000000;omega) (by omega);have p1:IsPure x.n.w:=inferInstance;have p2:IsPure y.n.w:=inferInstance;have p3:IsPure (mkG (x.d:Int)).w:=inferInstance;have p4:IsPure (mkG (y.d:Int)).w:=inferInstance;have p5:IsPure (mkG (x.n.z*y.n.z)).w:=inferInstance;have p6:IsPure (mkG ((x.d*y.d:Nat):Int)).w:=inferInstance;have p7:IsPure (a8r (mkG (x.n.z*y.n.z)) (x.d*y.d)).n.w:=inferInstance;have p8:IsPure (mkG ((a8r (mkG (x.n.z*y.n.z)) (x.d*y.d)).d:Int)).w:=inferInstance;unfold a4s;clear l1 l2 l3 l4 dp z1 z4 hx hy;dsimp only [GI.D,GF.D] at *;refine fR 0 ?_;refine OkS.seq ?_;refine OkS.regD w1 100 [0,1,2,3,4,5,6,7,8] [9,10,11] (by kernel_rfl) ?_;refine nxI ?_;refine a0n.same _ (m1) inferInstance ?_;refine nxI ?_;refine dI m3 ?_;refine dI mk ?_;refine rtI ?_;exact a0a rfl IsPure.out
def c1y (x:GF):GF:=b2j (mkG (x.d:Int)) x.n
theorem c5S {a:Rat}{x:GF}(hx:isF a x)(h0:a≠0):isF a⁻¹ (c1y x):=by
 obtain ⟨x1,x2,x3⟩:=hx;have hn:x.n.z≠0:=by
  rw [x2];intro h;exact h0 (Rat.num_eq_zero.1 h)
 rw [Rat.inv_def,← x2,← x3];exact c1G (mkG (x.d:Int)) x.n (a0H _) hn
theorem c4w {a:Rat}{k:Nat}(h:rk a k)(h0:a≠0):rk a⁻¹ k:=by
 rw [Rat.inv_def];obtain ⟨h1,h2⟩:=h;have hn:a.num≠0:=fun h=>h0 (Rat.num_eq_zero.1 h)
 rcases Int.lt_or_gt_of_ne hn with h|h
 ·obtain ⟨m,hm⟩:∃ m,a.num=Int.negSucc m:=by
   cases hy:a.num with
   | ofNat n=>rw [hy] at h;simp at h;omega
   | negSucc k=>exact ⟨k,rfl⟩
  rw [hm] at h1 ⊢;exact b0Y (n:=-(a.den:Int)) (d:=m+1) (by omega) (by rw [Int.natAbs_neg,Int.natAbs_natCast];exact h2) h1
 ·obtain ⟨m,hm⟩:∃ m:Nat,a.num=(m:Int):=⟨a.num.natAbs,by omega⟩
  rw [hm] at h1 h ⊢;rw [Rat.divInt_ofNat,← Rat.normalize_eq_mkRat (by omega)];exact b0Y _ (by rw [Int.natAbs_natCast];exact h2) (by rw [Int.natAbs_natCast] at h1;exact h1)
theorem b8o {a:Rat}{x:GF}{k:Nat}(h:FR a x k)(h0:a≠0):FR a⁻¹ (c1y x) k:=⟨c5S h.is h0,c4w h.rk h0⟩
theorem c8j {a:Rat}{x:GF}{k:Nat}(h:FR a x k)(h0:a≠0)(hk:k<1000000):a0b C0 175 [x.D] (c1y x).D:=by
 refine a0c.walk w1 b7Y rfl fun F=>?_
 have l3:=h.ld;have hn:x.n.z≠0:=by
  rw [h.is.2.1];intro h;exact h0 (Rat.num_eq_zero.1 h)
 have mk:=c4j (mkG (x.d:Int)) x.n (a0H _) h.is.1 hn (a2S (by omega)) (h.fn hk);have p1:IsPure x.n.w:=inferInstance;have p3:IsPure (mkG (x.d:Int)).w:=inferInstance;have p7:IsPure (b2j (mkG (x.d:Int)) x.n).n.w:=inferInstance;have p8:IsPure (mkG ((b2j (mkG (x.d:Int)) x.n).d:Int)).w:=inferInstance;unfold c1y;dsimp only [GI.D,GF.D] at *;refine fR 0 ?_;refine fR 100 ?_;refine dI mk ?_;refine rtI ?_;exact a0a rfl IsPure.out
def c5o (x y:GF):GF:=a4s x (c1y y)
theorem b3l {a b:Rat}{x y:GF}{i j:Nat}(hx:FR a x i)(hy:FR b y j)(h0:b≠0):FR (a / b) (c5o x y) (i+j):=by
 rw [Rat.div_def];exact a0x hx (b8o hy h0)
theorem b7H {a b:Rat}{x y:GF}{i j:Nat}(hx:FR a x i)(hy:FR b y j)(h0:b≠0)(hk:i+j<300000):a0b C0 102 [x.D,y.D] (c5o x y).D:=by
 refine a0c.walk w1 b7N rfl fun F=>?_
 have c1:=c8j hy h0 (by omega);have c2:=a2h hx (b8o hy h0) hk;have p1:IsPure x.n.w:=inferInstance;have p2:IsPure y.n.w:=inferInstance;have p3:IsPure (mkG (x.d:Int)).w:=inferInstance;have p4:IsPure (mkG (y.d:Int)).w:=inferInstance;have p5:IsPure (c1y y).n.w:=inferInstance;have p6:IsPure (mkG ((c1y y).d:Int)).w:=inferInstance;have p7:IsPure (a4s x (c1y y)).n.w:=inferInstance;have p8:IsPure (mkG ((a4s x (c1y y)).d:Int)).w:=inferInstance;unfold c5o;dsimp only [GI.D,GF.D] at *;refine fR 0 ?_;refine OkS.seq ?_;refine OkS.regD w1 100 [0,1,2] [3,4] (by kernel_rfl) ?_;refine nxI ?_;refine a0n.same _ (c1) inferInstance ?_;refine nxI ?_;refine dI c2 ?_;refine rtI ?_;exact a0a rfl IsPure.out
def a3x (a b:Rat):Int:=if a<b then -1 else if b<a then 1 else 0
theorem c7R (a b:Rat):a6e (a.num*b.den) (b.num*a.den)=a3x a b:=by
 unfold a6e a3x;simp only [Rat.lt_iff]
theorem a7Y {a b:Rat}{x y:GF}{i j:Nat}(hx:FR a x i)(hy:FR b y j)(hk:i+j<300000):a0b C0 141 [x.D,y.D] (i64 (a3x a b)):=by
 refine a0c.walk w1 b7V rfl fun F=>?_
 have l1:=hx.ln;have l2:=hy.ln;have l3:=hx.ld;have l4:=hy.ld;have m1:=d1r x.n y.d hx.is.1 (by omega) (by omega);have m2:=d1r y.n x.d hy.is.1 (by omega) (by omega);have z1:=a1Y x.n.z y.d;have z2:=a1Y y.n.z x.d;rw [Int.natAbs_natCast] at z1 z2;have cm:=d2P (mkG (x.n.z*y.d)) (mkG (y.n.z*x.d)) (a0H _) (a0H _) (by show (a0e (x.n.z*y.d).natAbs).length<1000000;omega) (by show (a0e (y.n.z*x.d).natAbs).length<1000000;omega);have e:a6e (mkG (x.n.z*y.d)).z (mkG (y.n.z*x.d)).z=a3x a b:=by
  rw [a2B,a2B,← c7R,hx.is.2.1,hx.is.2.2,hy.is.2.1,hy.is.2.2]
 rw [e] at cm;have p1:IsPure x.n.w:=inferInstance;have p2:IsPure y.n.w:=inferInstance;have p3:IsPure (mkG (x.d:Int)).w:=inferInstance;have p4:IsPure (mkG (y.d:Int)).w:=inferInstance;have p5:IsPure (mkG (x.n.z*y.d)).w:=inferInstance;have p6:IsPure (mkG (y.n.z*x.d)).w:=inferInstance;clear l1 l2 l3 l4 z1 z2 e hx hy;dsimp only [GI.D,GF.D] at *;refine fR 0 ?_;refine OkS.seq ?_;refine OkS.regD w1 100 [0,1,2,3,4,5,6,7,8] [9,10,11] (by kernel_rfl) ?_;refine nxI ?_;refine a0n.same _ (m1) inferInstance ?_;refine nxI ?_;refine dI m2 ?_;refine dI cm ?_;refine rtI ?_;exact a0a rfl IsPure.out
def a7g (a:Rat):Int:=max (-1) (min 1 a.num)
theorem a6t {a:Rat}{x:GF}(hx:isF a x):a0b C0 68 [x.D] (i64 (a7g a)):=by
 refine a0c.walk w1 c5E rfl fun F=>?_
 have cg:=b0j x.n hx.1;rw [hx.2.1] at cg;have p1:IsPure x.n.w:=inferInstance;have p3:IsPure (mkG (x.d:Int)).w:=inferInstance;unfold a7g;dsimp only [GI.D,GF.D] at *;refine fR 0 ?_;refine fR 100 ?_;refine dI cg ?_;refine rtI ?_;exact a0a rfl IsPure.out
abbrev sb (l:List UInt8):ByteArray:=⟨l.toArray⟩
theorem a0u (l:List UInt8):(sb l).size=l.length:=by simp [ByteArray.size]
theorem a1Z (l:List UInt8)(i j:Nat):(sb l).extract i j=sb ((l.take j).drop i):=by
 apply ByteArray.ext;rw [ByteArray.data_extract];simp [List.drop_take]
theorem b9C (l:List UInt8):(sb l).toList=l:=by
 rw [ByteArray.toList_eq]
theorem a5f (l m:List UInt8):a1Q (sb l) (sb m)=decide (l=m):=by
 unfold a1Q;rw [b9C,b9C,Bool.eq_iff_iff,beq_iff_eq,decide_eq_true_iff]
def a1P (l:List UInt8):Bool:=match l with
 | []=>false
 | c::_=>c==45
def a0j (l:List UInt8):List UInt8:=if a1P l then l.drop 1 else l
def a0d (l:List UInt8):Nat:=(l.takeWhile (· != 47)).length
theorem a2r (l:List UInt8):a0d l≤l.length:=by
 unfold a0d;exact (List.takeWhile_sublist _).length_le
theorem b2a (l:List UInt8):Lib.indexByte l 47=if a0d l<l.length then (a0d l:Int) else -1:=by
 induction l with
 | nil=>rfl
 | cons c l ih =>
  unfold Lib.indexByte
  by_cases h:c=47
  ·subst h
   simp [a0d]
  ·have e1:a0d (c::l)=a0d l+1:=by
    unfold a0d;rw [List.takeWhile_cons,if_pos (by simpa using h),List.length_cons]
   have hb:(c==47)=false:=by simpa using h
   rw [hb,ih,e1,List.length_cons]
   by_cases h2:a0d l<l.length
   ·have h3:a0d l+1<l.length+1:=by omega
    have h4:(((a0d l:Nat):Int) == -1)=false:=beq_eq_false_iff_ne.2 (by omega);simp only [h2,h3,h4,if_true,Bool.false_eq_true,if_false];omega
   ·have h3:¬ a0d l+1<l.length+1:=by omega
    simp only [h2,h3,Bool.false_eq_true,if_false];rfl
theorem a9P (l:List UInt8)(hl:l.length≤1000000000):a0b C0 244 [str (sb l),str (sb [45])] (boo (a1P l)):=by
 refine a0c.walk w1 c3O rfl fun F=>?_
 have hsz:=a0u l;have hs1:=a0u [45];refine sR 0 ?_;refine OkS.seq ?_;cases l with
 | nil =>
  have e1:decide (((sb []).size:Int)≥((sb [45]).size:Int))=false:=rfl;refine OkS.reg w1 100 (by kernel_rfl) ?_;refine nwI e1 ?_;refine gwI e1 ?_;refine gwI e1 ?_;refine rtI ?_;exact a0a rfl IsPure.out
 | cons c l =>
  have e1:decide (((sb (c::l)).size:Int)≥((sb [45]).size:Int))=true:=decide_eq_true (by rw [hsz,hs1];simp only [List.length_cons,List.length_nil];omega);have e2:(sb (c::l)).extract 0 ((((sb [45]).size:Nat):Int)).toNat=sb [c]:=by rw [a1Z];rfl
  have e3:a1Q (sb [c]) (sb [45])=a1P (c::l):=by
   rw [a5f,a1P,Bool.eq_iff_iff,decide_eq_true_iff,beq_iff_eq];simp
  have h0:(0:Int)≤((sb [45]).size:Int):=by omega
  have h1:((sb [45]).size:Int)≤((sb (c::l)).size:Int):=by rw [hsz,hs1];simp only [List.length_cons,List.length_nil];omega
  refine OkS.reg w1 100 (by kernel_rfl) ?_;refine nwI e1 ?_;refine gwI (ff3 e1 e2 e3) ?_;refine gwI (ff3 e1 e2 e3) ?_;refine rtI ?_;exact a0a rfl IsPure.out
theorem b1Y (l:List UInt8)(hl:l.length≤1000000000):a0b C0 198 [str (sb l),str (sb [45])] (boo (a1P l)):=by
 refine a0c.walk w1 c3v rfl fun F=>?_
 have c1:=a9P l hl;generalize sb l=s at *;generalize a1P l=b at *;refine fR 0 ?_;refine fR 100 ?_;refine dI c1 ?_;refine rtI ?_;exact a0a rfl IsPure.out
theorem b3U (l:List UInt8)(hl:l.length≤1000000000):a0b C0 194 [str (sb l),str (sb [45])] (str (sb (a0j l))):=by
 refine a0c.walk w1 c3t rfl fun F=>?_
 have c1:=a9P l hl;have hsz:=a0u l;unfold a0j;refine sR 0 ?_;refine OkS.seq ?_;refine sR 100 ?_;refine cI c1 ?_;rcases hb:a1P l with _|_
 ·rw [if_neg (by simp)]
  refine ifI ?_;refine skI ?_;refine sR 300 ?_;refine rtI ?_;exact a0a rfl IsPure.out
 ·rw [if_pos rfl]
  have h1:(0:Int)≤((sb [45]).size:Int):=by omega
  have h2:((sb [45]).size:Int)≤((sb l).size:Int):=by
   rw [hsz];show (1:Int)≤_;cases l with
   | nil=>cases hb
   | cons c l=>simp only [List.length_cons];omega
  have e2:(sb l).extract (((sb [45]).size:Nat):Int).toNat (sb l).size=sb (l.drop 1):=by
   rw [a1Z,hsz,List.take_of_length_le (Nat.le_refl _)];rfl
  refine ifI ?_;refine sZ 200 ?_;refine nwI e2 ?_;refine rtI ?_;exact a0a rfl IsPure.out
theorem a4a (l:List UInt8)(hl:l.length≤1000000000):a0b C0 125 [str (sb l),str (sb [45])] (str (sb (a0j l))):=by
 refine a0c.walk w1 c3b rfl fun F=>?_
 have c1:=b3U l hl;generalize sb l=s at *;generalize sb (a0j l)=t at *;refine fR 0 ?_;refine fR 100 ?_;refine dI c1 ?_;refine rtI ?_;exact a0a rfl IsPure.out
theorem b5O (l:List UInt8):a0b C0 266 [str (sb l),.prim (.int .u8 47)] (i64 (if a0d l<l.length then (a0d l:Int) else -1)):=by
 refine a0c.walk w1 c3U rfl fun F=>?_
 have e1:firstIdx (sb l) (((47:Int)).toNat.toUInt8)=(if a0d l<l.length then (a0d l:Int) else -1):=by
  rw [Lib.firstIdx_eq];exact b2a l
 generalize (if a0d l<l.length then (a0d l:Int) else -1)=r at *;refine fR 0 ?_;refine OkS.seq ?_;refine OkS.reg w1 100 (by kernel_rfl) ?_;refine nwI e1 ?_;refine rtI ?_;exact a0a rfl IsPure.out
theorem c1x (l:List UInt8)(hl:l.length≤1000000000):a0b C0 243 [str (sb l),str (sb [47])] (i64 (if a0d l<l.length then (a0d l:Int) else -1)):=by
 refine a0c.walk w1 c3N rfl fun F=>?_
 have c1:=b5O l;have eS:=a5f [47] l;have hr:[47]=l→(if a0d l<l.length then (a0d l:Int) else -1)=0:=fun h=>by subst h;rfl
 generalize (if a0d l<l.length then (a0d l:Int) else -1)=r at *;have e0:(((sb [47]).size:Int)==0)=false:=rfl;have e1:(((sb [47]).size:Int)==1)=true:=rfl;have hx:(((sb [47]).data.toList.getD ((0:Int)).toNat 0).toNat:Int)=47:=rfl;refine sR 0 ?_;refine sR 100 ?_;refine OkS.seq ?_;refine OkS.block ?_
 by_cases h:[47]=l
 ·rw [decide_eq_true h] at eS
  have hr:=hr h;subst hr;refine sZ 200 ?_;refine nwI e0 ?_;refine gwI (ff3 e0 kF eS) ?_;refine gwI (ff3 e0 kF eS) ?_;refine ifI ?_;refine sR 300 ?_;refine rtI ?_;exact a0a rfl IsPure.out
 ·rw [decide_eq_false h] at eS
  refine sZ 200 ?_;refine nwI e0 ?_;refine gwI (ff3 e0 kF eS) ?_;refine gwI (ff3 e0 kF eS) ?_;refine ifI ?_;refine sZ 400 ?_;refine nwI e1 ?_;refine ifI ?_;refine sZ 500 ?_;refine nwI hx ?_;refine cI c1 ?_;refine rtI ?_;exact a0a rfl IsPure.out
theorem d5z (l:List UInt8)(hl:l.length≤1000000000):a0b C0 193 [str (sb l),str (sb [47])] (.tup [str (sb (l.take (a0d l))),str (sb (l.drop (a0d l+1))),boo (decide (a0d l<l.length))]):=by
 refine a0c.walk w1 c3s rfl fun F=>?_
 have c1:=c1x l hl;have hsz:=a0u l;have hle:=a2r l;refine sR 0 ?_
 by_cases h:a0d l<l.length
 ·rw [if_pos h] at c1
  have e1:decide (((a0d l:Nat):Int)≥0)=true:=decide_eq_true (by omega);have e2:(sb l).extract 0 (((a0d l:Nat):Int)).toNat=sb (l.take (a0d l)):=by rw [a1Z];rfl
  have w3:IntKind.i64.wrap (((a0d l:Nat):Int)+((sb [47]).size:Int))=((a0d l+1:Nat):Int):=by
   show IntKind.i64.wrap (((a0d l:Nat):Int)+1)=_;rw [wI (by omega) (by omega)];omega
  have e3:(sb l).extract (((a0d l+1:Nat):Int)).toNat (sb l).size=sb (l.drop (a0d l+1)):=by
   rw [a1Z,hsz,List.take_of_length_le (Nat.le_refl _)];rfl
  rw [decide_eq_true h];refine OkS.seq ?_;refine sR 100 ?_;refine cI c1 ?_;refine sZ 200 ?_;refine nwI e1 ?_;refine ifI ?_;refine OkS.seq ?_;refine OkS.regD w1 300 [0,1,2,3,4,5,6,7,8,9] [10,11] (by kernel_rfl) ?_;refine gwI (ff3 w3 e2 e3) ?_;refine rtI ?_;exact a0a rfl IsPure.out
 ·rw [if_neg h] at c1
  have hk:a0d l=l.length:=by omega
  have e1:decide (((-1:Int))≥0)=false:=rfl;rw [decide_eq_false h,hk,List.take_of_length_le (Nat.le_refl _),List.drop_of_length_le (by omega)];refine OkS.seq ?_;refine sR 100 ?_;refine cI c1 ?_;refine sZ 200 ?_;refine nwI e1 ?_;refine ifI ?_;refine skI ?_;refine sR 400 ?_;refine rtI ?_;exact a0a rfl IsPure.out
theorem c2L (l:List UInt8)(hl:l.length≤1000000000):a0b C0 124 [str (sb l),str (sb [47])] (.tup [str (sb (l.take (a0d l))),str (sb (l.drop (a0d l+1))),boo (decide (a0d l<l.length))]):=by
 refine a0c.walk w1 c3a rfl fun F=>?_
 have c1:=d5z l hl;generalize sb l=s at *;generalize sb (l.take (a0d l))=t at *;generalize sb (l.drop (a0d l+1))=u at *;generalize decide (a0d l<l.length)=b at *;refine fR 0 ?_;refine fR 100 ?_;refine dI c1 ?_;refine rtI ?_;exact a0a rfl IsPure.out
def a0y (c:UInt8):Bool:=Nat.ble 48 c.toNat&&Nat.ble c.toNat 57
def b6d:D:=.agg ((List.range 256).map fun i=>boo (Nat.ble 48 i&&Nat.ble i 57))
abbrev ten:List UInt8:=[48,49,50,51,52,53,54,55,56,57]
noncomputable def X4:EV:=⟨tt2,xbt.get,fbt.get,fun _=>false,fun _ _=>none,fun _ _=>none,b6x⟩
theorem d2L:a9k C0 X4:=⟨d2g,b3Q,ftab,fun _ _ _ h=>by simp [X4] at h,by kernel_rfl,fun _ _ _ h=>by simp [X4] at h,a5w⟩
theorem w4:WOk C0 X4:=d2L.w
theorem b5Q:a0b C0 272 [str (sb ten)] (.tup [b6d,boo true]):=a0b.ev d2L 1000 40 (by kernel_rfl)
def d4E (o:Option D)(b:Bool):Bool:=match o with
 | some (.prim (.bool c))=>c==b
 | _=>false
theorem b9s {o:Option D}{b:Bool}(h:d4E o b=true):o=some (boo b):=by
 unfold d4E at h;split at h
 ·rw [beq_iff_eq] at h;subst h;rfl
 ·cases h
theorem b1C:((List.range 256).all fun c=>d4E ((evF X4 1000 40).1 298 [.pptr b6d,.prim (.int .u8 (c:Nat))]) (Nat.ble 48 c&&Nat.ble c 57))=true:=by kernel_rfl
theorem a7T (c:UInt8):a0b C0 298 [.pptr b6d,.prim (.int .u8 (c.toNat:Nat))] (boo (a0y c)):=by
 refine a0b.ev d2L 1000 40 ?_;have h:=List.all_eq_true.1 b1C c.toNat (List.mem_range.2 c.toNat_lt);exact b9s h
instance:CellsPure b6d:=⟨fun c hc=>by
 change c∈(List.range 256).map (fun i=>boo (Nat.ble 48 i&&Nat.ble i 57)) at hc;obtain ⟨i,_,rfl⟩:=List.mem_map.1 hc;exact .prim _⟩
def a5B (l:List UInt8):List UInt8:=(l.reverse.dropWhile a0y).reverse
theorem b6i (m:List UInt8)(c:UInt8):a5B (m++[c])=if a0y c then a5B m else m++[c]:=by
 unfold a5B;rw [List.reverse_append,List.reverse_singleton,List.singleton_append,List.dropWhile_cons];split
 ·rfl
 ·rw [List.reverse_cons,List.reverse_reverse]
theorem c2x (l:List UInt8):((a5B l).dropWhile a0y=[])↔l.all a0y=true:=by
 constructor
 ·intro h
  have h1:∀ m:List UInt8,m.dropWhile a0y=[]→m.all a0y=true:=fun m=>by
   induction m with
   | nil=>intro _;rfl
   | cons c m ih =>
    intro hm;rw [List.dropWhile_cons] at hm;split at hm
    ·rename_i hc
     rw [List.all_cons,hc,ih hm];rfl
    ·cases hm
  have h2:(l.reverse.dropWhile a0y).all a0y=true:=by
   have:=h1 _ h
   unfold a5B at this
   rwa [List.all_reverse] at this
  have h3:∀ m:List UInt8,(m.dropWhile a0y).all a0y=true→m.all a0y=true:=fun m=>by
   induction m with
   | nil=>intro _;rfl
   | cons c m ih =>
    intro hm;rw [List.dropWhile_cons] at hm;split at hm
    ·rename_i hc
     rw [List.all_cons,hc,ih hm];rfl
    ·exact hm
  have:=h3 _ h2
  rwa [List.all_reverse] at this
 ·intro h
  have h1:∀ m:List UInt8,m.all a0y=true→m.dropWhile a0y=[]:=fun m=>by
   induction m with
   | nil=>intro _;rfl
   | cons c m ih =>
    intro hm;rw [List.all_cons,Bool.and_eq_true] at hm;rw [List.dropWhile_cons,if_pos hm.1];exact ih hm.2
  have hx:=h1 l.reverse (by rw [List.all_reverse];exact h);unfold a5B;rw [hx];rfl
theorem b3T (l:List UInt8)(hl:l.length≤1000000000):a0b C0 273 [str (sb l),.pptr b6d] (str (sb (l.dropWhile a0y))):=by
 refine a0c.walk w1 c3V rfl fun F=>?_
 have hps:CellsPure b6d:=inferInstance;have hcc:=a7T;generalize b6d=sd at *;refine sR 0 ?_;refine OkS.seq ?_;refine OkS.block ?_;refine OkS.loop (α:=List UInt8 × Nat) (fun p=>⟨[(0,str (sb p.1)),(1,.pptr sd)],[],p.2⟩) (fun p=>p.1.length) (fun p=>p.1.dropWhile a0y=l.dropWhile a0y∧p.1.length≤l.length) (l,_) ⟨rfl,Nat.le_refl _⟩ wkI ?_;rintro ⟨m,n⟩ F ⟨h1,h2⟩;dsimp only at h1 h2 ⊢;refine OkS.seq ?_;refine OkS.seq ?_;cases m with
 | nil =>
  have e1:decide (((sb []).size:Int)>0)=false:=rfl;refine OkS.reg w1 100 (by kernel_rfl) ?_;refine nwI e1 ?_;refine ifI ?_;refine exI ?_;refine sR 400 ?_;refine rtI ?_;exact a0a (by rw [← h1];rfl) IsPure.out
 | cons c m =>
  have hsz:=a0u (c::m);have e1:decide (((sb (c::m)).size:Int)>0)=true:=decide_eq_true (by rw [hsz,List.length_cons];omega);have hx:(((sb (c::m)).data.toList.getD ((0:Int)).toNat 0).toNat:Int)=(c.toNat:Int):=rfl;have b1:(0:Int)<((sb (c::m)).size:Int):=by rw [hsz,List.length_cons];omega
  have b2:(1:Int)≤((sb (c::m)).size:Int):=by omega
  have e3:(sb (c::m)).extract ((1:Int)).toNat (sb (c::m)).size=sb m:=by
   rw [a1Z,hsz,List.take_of_length_le (Nat.le_refl _)];rfl
  have cc:=hcc c;refine OkS.reg w1 100 (by kernel_rfl) ?_;refine nwI e1 ?_;refine ifI ?_;refine skI ?_;refine OkS.block ?_;refine OkS.seq ?_;refine sZ 200 ?_;refine nwI hx ?_;refine cI cc ?_;rcases hb:a0y c with _|_
  ·refine ifI ?_
   refine exI ?_;refine sR 400 ?_;refine rtI ?_;refine a0a ?_ IsPure.out;rw [← h1,List.dropWhile_cons,if_neg (by rw [hb];simp)]
  ·refine ifI ?_
   refine skI ?_;refine OkS.reg w1 300 (by kernel_rfl) ?_;refine nwI e3 ?_;refine ⟨(m,_),⟨?_,?_⟩,?_,wkI⟩
   ·rw [← h1,List.dropWhile_cons,if_pos hb]
   ·rw [List.length_cons] at h2;dsimp only;omega
   ·show m.length<m.length+1;omega
theorem b2M (l:List UInt8)(hl:l.length≤1000000000):a0b C0 274 [str (sb l),.pptr b6d] (str (sb (a5B l))):=by
 refine a0c.walk w1 c3W rfl fun F=>?_
 have hps:CellsPure b6d:=inferInstance;have hcc:=a7T;generalize b6d=sd at *;refine sR 0 ?_;refine OkS.seq ?_;refine OkS.block ?_;refine OkS.loop (α:=List UInt8 × Nat) (fun p=>⟨[(0,str (sb p.1)),(1,.pptr sd)],[],p.2⟩) (fun p=>p.1.length) (fun p=>a5B p.1=a5B l∧p.1.length≤l.length) (l,_) ⟨rfl,Nat.le_refl _⟩ wkI ?_;rintro ⟨m,n⟩ F ⟨h1,h2⟩;dsimp only at h1 h2 ⊢;refine OkS.seq ?_;refine OkS.seq ?_;rcases List.eq_nil_or_concat m with rfl|⟨m,c,rfl⟩
 ·have e1:decide (((sb []).size:Int)>0)=false:=rfl
  refine OkS.reg w1 100 (by kernel_rfl) ?_;refine nwI e1 ?_;refine ifI ?_;refine exI ?_;refine sR 400 ?_;refine rtI ?_;exact a0a (by rw [← h1];rfl) IsPure.out
 ·rw [List.concat_eq_append] at h1 h2 ⊢
  have hsz:=a0u (m++[c]);rw [List.length_append,List.length_singleton] at hsz h2;have e1:decide (((sb (m++[c])).size:Int)>0)=true:=decide_eq_true (by rw [hsz];omega);have wk1:IntKind.i64.wrap (((sb (m++[c])).size:Int) - 1)=(m.length:Int):=by rw [hsz,wI (by omega) (by omega)];omega
  have hx:(((sb (m++[c])).data.toList.getD (((m.length:Nat):Int)).toNat 0).toNat:Int)=(c.toNat:Int):=by
   show (((m++[c]).getD m.length 0).toNat:Int)=_;simp
  have b1:((m.length:Nat):Int)<((sb (m++[c])).size:Int):=by rw [hsz];omega
  have e3:(sb (m++[c])).extract 0 (((m.length:Nat):Int)).toNat=sb m:=by
   rw [a1Z];simp
  have cc:=hcc c;have ht:=b6i m c;refine OkS.reg w1 100 (by kernel_rfl) ?_;refine nwI e1 ?_;refine ifI ?_;refine skI ?_;refine OkS.block ?_;refine OkS.seq ?_;refine sZ 200 ?_;refine nwI (ff2 wk1 hx) ?_;refine cI cc ?_;rcases hb:a0y c with _|_
  ·rw [if_neg (by rw [hb];simp)] at ht
   refine ifI ?_;refine exI ?_;refine sR 400 ?_;refine rtI ?_;exact a0a (by rw [← h1,ht]) IsPure.out
  ·rw [if_pos hb] at ht
   refine ifI ?_;refine skI ?_;refine OkS.reg w1 300 (by kernel_rfl) ?_;refine nwI (ff2 wk1 e3) ?_;refine ⟨(m,_),⟨by rw [← h1,ht],by dsimp only;omega⟩,?_,wkI⟩;dsimp only;rw [List.length_append,List.length_singleton];omega
namespace TrimW
theorem w1:WOk C0 X4:=w4
theorem trim_ok (l:List UInt8)(hl:l.length≤1000000000):a0b C0 245 [str (sb l),str (sb ten)] (str (sb ((a5B l).dropWhile a0y))):=by
 refine a0c.walk w1 c3P rfl fun F=>?_
 have cm:=b5Q;have c1:=b2M l hl;have hlr:(a5B l).length≤1000000000:=by
  unfold a5B;rw [List.length_reverse];exact Nat.le_trans (List.dropWhile_sublist _).length_le (by rw [List.length_reverse];exact hl)
 have c2:=b3T (a5B l) hlr;have hps:CellsPure b6d:=inferInstance;have eS:=a5f l [];have e2:(((sb ten).size:Int)==1)=false:=rfl;have e4:a1Q (sb ten) (sb [])=false:=by rw [a5f];exact decide_eq_false (by simp)
 have hfit:a0Q true 256 b6d:=by
  have h:((List.range 256).map fun i=>boo (Nat.ble 48 i&&Nat.ble i 57)).length=256:=by rw [List.length_map,List.length_range]
  have:=a0Q.agg (ds:=(List.range 256).map fun i=>boo (Nat.ble 48 i&&Nat.ble i 57))
  rw [h] at this;exact this
 refine sR 0 ?_
 by_cases h0:l=[]
 ·subst h0
  have eS':a1Q (sb []) (sb [])=true:=by rw [a5f];exact decide_eq_true rfl
  refine OkS.seq ?_;refine sZ 100 ?_;refine nwI eS' ?_;refine gwI (ff2 eS' kT) ?_;refine ifI ?_;refine sR 200 ?_;refine rtI ?_;exact a0a rfl IsPure.out
 ·rw [decide_eq_false h0] at eS
  refine OkS.seq ?_;refine sZ 100 ?_;refine nwI eS ?_;refine gwI (ff3 eS e4 kF) ?_;refine gwI (ff3 eS e4 kF) ?_;refine ifI ?_;refine skI ?_;refine OkS.seq ?_;refine sZ 300 ?_;refine nwI e2 ?_;refine gwI e2 ?_;refine gwI e2 ?_;refine ifI ?_;refine skI ?_;refine OkS.seq ?_;refine sR 500 ?_;refine a0l.same _ cm inferInstance ?_;refine dsI ?_;generalize b6d=sd at *
  repeat (refine a0r rfl rfl ?_;refine a2u (fun _ _=>rfl) ?_)
  refine a4I (And.intro (by repeat' (first|exact hfit|refine And.intro ?_ ?_|exact sdI)) ?_);refine dsI ?_;refine sR 600 ?_;refine ifI ?_;refine sR 700 ?_;refine a0l.own _ (a0m.lendS c1 rfl ?_ inferInstance (a6Z.prim _)) ?_
  ·intro i x y hx hy
   match i with
   | 0=>simp at hx hy;subst hx;subst hy;exact FzS.refl _ _
   | 1=>simp at hx hy;subst hx;subst hy;exact FzS.ptr rfl rfl rfl rfl
   | i+2=>simp at hx
  rintro d H' n' ⟨rfl,rfl,rfl⟩;refine stI ?_;refine a0l.own _ (a0m.lendS c2 rfl ?_ inferInstance (a6Z.prim _)) ?_
  ·intro i x y hx hy
   match i with
   | 0=>simp at hx hy;subst hx;subst hy;exact FzS.refl _ _
   | 1=>simp at hx hy;subst hx;subst hy;exact FzS.ptr rfl rfl rfl rfl
   | i+2=>simp at hx
  rintro d H' n' ⟨rfl,rfl,rfl⟩;refine stI ?_;refine rtI ?_;exact a0a rfl IsPure.out
end TrimW
def dvF (a:Nat)(l:List UInt8):Nat:=l.foldl (fun a c=>a*10+(c.toNat - 48)) a
def dv (l:List UInt8):Nat:=dvF 0 l
theorem c2P (l:List UInt8):∀ a,dvF a l=a*10^l.length+dv l:=by
 induction l with
 | nil=>intro a;simp [dvF,dv]
 | cons c l ih =>
  intro a;have h1:∀ b,dvF b (c::l)=dvF (b*10+(c.toNat - 48)) l:=fun b=>rfl
  have h2:dv (c::l)=dvF (0*10+(c.toNat - 48)) l:=rfl;rw [h1,h2,ih,ih (0*10+(c.toNat - 48)),List.length_cons,Nat.pow_succ];rw [Nat.add_mul,Nat.zero_mul,Nat.zero_add,Nat.mul_assoc,Nat.mul_comm 10];omega
theorem a4o (l m:List UInt8):dv (l++m)=dv l*10^m.length+dv m:=by
 have:dv (l++m)=dvF (dv l) m:=by unfold dv dvF;rw [List.foldl_append]
 rw [this,c2P]
theorem b3g (l:List UInt8):∀ a,l.all a0y=true→Lib.decFrom a l=some (dvF a l):=by
 induction l with
 | nil=>intro a _;rfl
 | cons c l ih =>
  intro a h;rw [List.all_cons,Bool.and_eq_true] at h;have hd:Lib.digitVal c=some (c.toNat - 48):=by
   have h1:=h.1;unfold a0y at h1;rw [Bool.and_eq_true] at h1;unfold Lib.digitVal;rw [if_pos ⟨Nat.le_of_ble_eq_true h1.1,Nat.le_of_ble_eq_true h1.2⟩]
  rw [Lib.decFrom,hd];exact ih _ h.2
theorem a2n {c:UInt8}(h:a0y c=true):48≤c.toNat∧c.toNat≤57:=by
 unfold a0y at h;rw [Bool.and_eq_true] at h;exact ⟨Nat.le_of_ble_eq_true h.1,Nat.le_of_ble_eq_true h.2⟩
theorem c0F {l:List UInt8}(h0:l≠[])(h:l.all a0y=true):Lib.atoi l=some (dv l:Int):=by
 cases l with
 | nil=>exact absurd rfl h0
 | cons c l =>
  have hc:a0y c=true:=by rw [List.all_cons,Bool.and_eq_true] at h;exact h.1
  obtain ⟨c1,c2⟩:=a2n hc;have e1:(c==45)=false:=by
   rw [beq_eq_false_iff_ne];intro hh;subst hh;simp at c1
  have e2:(c==43)=false:=by
   rw [beq_eq_false_iff_ne];intro hh;subst hh;simp at c1
  unfold Lib.atoi;dsimp only;rw [e1,e2];simp only [Bool.false_eq_true,if_false];unfold Lib.decNat;simp only [List.isEmpty_cons,Bool.false_eq_true,if_false];rw [b3g _ _ h];rfl
theorem a5c (l:List UInt8)(h:l.all a0y=true):dv l<10^l.length:=by
 induction l with
 | nil=>decide
 | cons c l ih =>
  rw [List.all_cons,Bool.and_eq_true] at h;have h1:dv (c::l)=dvF (0*10+(c.toNat - 48)) l:=rfl;have h2:=ih h.2;obtain ⟨c1,c2⟩:=a2n h.1;rw [h1,c2P,Nat.zero_mul,Nat.zero_add,List.length_cons,Nat.pow_succ,Nat.mul_comm _ 10];have h3:(c.toNat - 48)*10^l.length≤9*10^l.length:=Nat.mul_le_mul_right _ (by omega);omega
def d4F (o:Option D)(z:Int):Bool:=match o with
 | some (.agg [.prim (.int .i64 a),.prim (.slice none 0 0)])=>a==z
 | _=>false
theorem b9u {o:Option D}{z:Int}(h:d4F o z=true):o=some (smI z):=by
 unfold d4F at h;split at h
 ·rw [beq_iff_eq] at h;subst h;rfl
 ·cases h
theorem c6p:((List.range 19).all fun k=>d4F ((evF X1 1000 60).1 200 [smI 10,i64 (k:Nat)]) ((10^k:Nat):Int))=true:=by kernel_rfl
theorem d1J (k:Nat)(h:k<19):a0b C0 200 [smI 10,i64 k] (smI ((10^k:Nat):Int)):=by
 refine a0b.ev a4c 1000 60 ?_;exact b9u (List.all_eq_true.1 c6p k (List.mem_range.2 h))
theorem c6H {n:Nat}(h:n<9223372036854775808):smI (n:Int)=(mkG (n:Int)).D:=by
 rw [a5U ⟨by omega,by omega⟩];rfl
theorem d5j (a b:Nat)(ha:(a0e a).length<1000000)(hb:(a0e b).length<1000000):a0b C0 178 [(mkG (a:Int)).D,(mkG (b:Int)).D] (mkG ((a+b:Nat):Int)).D:=by
 have:=b6F (mkG (a:Int)) (mkG (b:Int)) (a0H _) (a0H _) (a2S ha) (a2S hb)
 have e:a7k (mkG (a:Int)) (mkG (b:Int))=mkG ((a+b:Nat):Int):=by
  have h1:=a9z (mkG (a:Int)) (mkG (b:Int));rw [a2B,a2B] at h1;rw [b6T (a6h _ _) (by rw [h1];omega),h1]
  congr 1
 rw [e] at this;exact this
theorem a3D {n k:Nat}(h:n<10^k):(a0e n).length≤k:=a0G (Nat.lt_of_lt_of_le h (Nat.pow_le_pow_left (by decide) k))
def rv (l:List UInt8):Int:=if a1P l then -(dv (a0j l):Int) else dv (a0j l)
theorem c6q (k:Nat)(h:k<19):a0b C0 200 [smI 10,i64 k] (mkG ((10^k:Nat):Int)).D:=by
 have:=d1J k h
 have h2:10^k<9223372036854775808:=Nat.lt_of_le_of_lt (Nat.pow_le_pow_right (by decide) (show k≤18 by omega)) (by decide)
 rwa [c6H h2] at this
theorem d1z (n:Nat)(h:n<9223372036854775808):a0b C0 156 [i64 n] (mkG (n:Int)).D:=by
 have:=b3F (n:Int)
 rwa [c6H h] at this
theorem b0X (l:List UInt8)(hd:(a0j l).all a0y=true)(hl:l.length≤100000):a0b C0 128 [str (sb l)] (mkG (rv l)).D:=by
 refine a0c.walk w1 c3d rfl fun F=>?_
 have c1:=b1Y l (by omega);have c2:=a4a l (by omega);have hml:(a0j l).length≤100000:=by
  unfold a0j;split
  ·rw [List.length_drop];omega
  ·exact hl
 unfold rv;generalize hm0:a0j l=m0 at *;generalize a1P l=ng at *;generalize sb l=sl at *;have ez:smI 0=(mkG ((0:Nat):Int)).D:=c6H (by decide);have hpm:∀ n:Nat,IsPure (mkG (n:Int)).w:=fun n=>inferInstance
 refine sR 0 ?_;refine sR 100 ?_;refine cI c1 ?_;refine sR 200 ?_;refine cI c2 ?_;refine sR 300 ?_;refine OkS.seqX (α:=Nat) (fun n=>⟨[(2,.optr 0 0 2 0 0),(3,boo ng),(4,.optr 301 8 2 0 0)],[⟨301,8,112,2,[(mkG (dv m0:Int)).D]⟩,⟨0,0,112,2,[smI 0]⟩],n⟩) (fun _=>True) ?_ ?_
 ·refine OkS.block ?_
  refine OkS.loopF (α:=List UInt8 × Nat × Nat) (fun p=>⟨[(0,str (sb p.1)),(2,.optr 0 0 2 0 0),(3,boo ng),(4,.optr 301 8 2 0 0)],[⟨301,8,112,2,[(mkG (p.2.1:Int)).D]⟩,⟨0,0,112,2,[smI 0]⟩],p.2.2⟩) (fun p=>p.1.length)
   (fun p F'=>F'=F∧p.1.all a0y=true∧p.1.length≤m0.length∧p.2.1<10^(m0.length - p.1.length)∧dv m0=p.2.1*10^p.1.length+dv p.1) (m0,0,20) ⟨rfl,hd,Nat.le_refl _,by simp,by simp⟩ (by rw [← ez];exact wkI) ?_
  rintro ⟨m,A,n⟩ F' ⟨rfl,h1,h2,h3,h4⟩;dsimp only at h1 h2 h3 h4 ⊢;refine OkS.seq ?_;refine OkS.seq ?_
  by_cases hm:m=[]
  ·subst hm
   have e1:decide (((sb []).size:Int)>0)=false:=rfl;have hA:dv m0=A:=by simpa [dv,dvF] using h4
   rw [hA];refine OkS.reg w1 400 (by kernel_rfl) ?_;refine nwI e1 ?_;refine ifI ?_;refine exI ?_;exact ⟨rfl,_,trivial,wkI⟩
  ·have hm1:0<m.length:=List.length_pos_iff.2 hm
   have hsz:=a0u m;obtain ⟨k,hk⟩:∃ k,k=min 18 m.length:=⟨_,rfl⟩
   have e1:decide (((sb m).size:Int)>0)=true:=decide_eq_true (by rw [hsz];omega);have ek:min (18:Int) ((sb m).size:Int)=(k:Int):=by rw [hsz];omega
   have b1:(k:Int)≤((sb m).size:Int):=by rw [hsz];omega
   have e22:(sb m).extract 0 ((k:Int)).toNat=sb (m.take k):=by rw [a1Z];rfl
   have e36:(sb m).extract ((k:Int)).toNat (sb m).size=sb (m.drop k):=by
    rw [a1Z,hsz,List.take_of_length_le (Nat.le_refl _)];rfl
   have htk:(m.take k).all a0y=true:=List.all_eq_true.2 fun c hc=>List.all_eq_true.1 h1 c (List.mem_of_mem_take hc)
   have hdk:(m.drop k).all a0y=true:=List.all_eq_true.2 fun c hc=>List.all_eq_true.1 h1 c (List.mem_of_mem_drop hc)
   have hlk:(m.take k).length=k:=by rw [List.length_take];omega
   have hv:=a5c _ htk;rw [hlk] at hv;have h18:10^k≤10^18:=Nat.pow_le_pow_right (by decide) (by omega);have ca:=b2X (sb (m.take k)) (dv (m.take k):Int) (by rw [a0u,hlk];omega) (c0F (by intro h;change m.take k=[] at h;rw [h] at hlk;simp at hlk;omega) htk);have hval:dv m=dv (m.take k)*10^(m.drop k).length+dv (m.drop k):=by
    conv=>lhs;rw [← List.take_append_drop k m]
    exact a4o _ _
   generalize dv (m.take k)=v at *;have hAl:(a0e A).length≤100000:=Nat.le_trans (a3D h3) (by omega);have h10:(a0e (10^k)).length≤19:=a3D (k:=19) (Nat.pow_lt_pow_right (by decide) (by omega));have hmul:=a2V A (10^k);have cp:=c6q k (by omega);have c3:=d4h A (10^k) (by omega) (by omega);have cv:=d1z v (by omega);have hvl:(a0e v).length≤19:=a3D (k:=19) (Nat.lt_of_lt_of_le hv (Nat.pow_le_pow_right (by decide) (by omega)));have c4:=d5j (A*10^k) v (by omega) (by omega);refine OkS.reg w1 400 (by kernel_rfl) ?_;refine nwI e1 ?_;refine ifI ?_;refine skI ?_;refine OkS.block ?_;refine sZ 500 ?_;refine nwI ek ?_;refine sZ 600 ?_;refine nwI e22 ?_;refine cI ca ?_;refine OkS.seq ?_;refine OkS.regD w1 700 [0,1,2,3,4,5] [6,7,8] (by kernel_rfl) ?_;refine stI ?_;refine a0n.same _ (b3F 10) inferInstance ?_;refine stI ?_;refine a0n.same _ (cp) inferInstance ?_;refine stI ?_;refine a0n.same _ (c3) inferInstance ?_;refine stI ?_;refine cI cv ?_;refine cI c4 ?_;refine OkS.reg w1 800 (by kernel_rfl) ?_;refine nwI e36 ?_;refine ⟨(m.drop k,A*10^k+v,_),⟨trivial,hdk,?_,?_,?_⟩,?_,wkI⟩
   ·dsimp only;rw [List.length_drop];omega
   ·dsimp only
    rw [List.length_drop,show m0.length - (m.length - k)=(m0.length - m.length)+k by omega,Nat.pow_add];have h5:(A+1)*10^k≤10^(m0.length - m.length)*10^k:=Nat.mul_le_mul_right _ h3;rw [Nat.add_mul] at h5;omega
   ·dsimp only
    rw [h4,hval,List.length_drop];have h6:10^m.length=10^k*10^(m.length - k):=by rw [← Nat.pow_add];congr 1;omega
    rw [h6,Nat.add_mul,Nat.mul_assoc];omega
   ·dsimp only;rw [List.length_drop];omega
 rintro n -;have hAl:(a0e (dv m0)).length≤100000:=Nat.le_trans (a3D (a5c _ hd)) hml;have cn:=b5S (mkG (dv m0:Int)) (a0H _) (a2S (by omega));rw [a2B] at cn;have hpn:IsPure (mkG (-(dv m0:Int))).w:=inferInstance;refine OkS.seq ?_;refine sR 900 ?_;cases ng with
 | true =>
  rw [if_pos rfl];refine ifI ?_;refine sR 1000 ?_;refine cI cn ?_;refine rtI ?_;exact a0a rfl IsPure.out
 | false =>
  rw [if_neg (by simp)];refine ifI ?_;refine skI ?_;refine sR 1100 ?_;refine rtI ?_;exact a0a rfl IsPure.out
def c2N (l:List UInt8):Bool:=!decide (l=[])&&l.all a0y
def a0W (l:List UInt8):Bool:=c2N l&&(decide (l=[48]) || !decide (l.head? = some 48))
def a2i (l:List UInt8):List UInt8:=l.take (a0d l)
def a1v (l:List UInt8):List UInt8:=l.drop (a0d l+1)
def a4e (l:List UInt8):Bool:=decide (a0d l<l.length)
def a0L (l:List UInt8):List UInt8:=a0j (a2i l)
def a3K (l:List UInt8):Bool:=!a0W (a0L l)||decide (a2i l=[45,48])||(a4e l&&(!a0W (a1v l)||decide (a1v l=[48])||decide (a1v l=[49])))
def chk (l:List UInt8):Nat:=if a3K l then 1 else if 600<(a0L l).length∨600<(a1v l).length then 4
 else if a4e l=true∧Nat.gcd (dv (a0L l)) (dv (a1v l))≠1 then 1 else 0
theorem a2C {l:List UInt8}(h:a0W l=true):l≠[]∧l.all a0y=true:=by
 unfold a0W c2N at h;rw [Bool.and_eq_true,Bool.and_eq_true] at h;exact ⟨by have:=h.1.1;simpa using this,h.1.2⟩
theorem a6p {l:List UInt8}(h:l.all a0y=true):a1P l=false:=by
 cases l with
 | nil=>rfl
 | cons c l =>
  rw [List.all_cons,Bool.and_eq_true] at h;obtain ⟨c1,c2⟩:=a2n h.1;show (c==45)=false;rw [beq_eq_false_iff_ne];intro hh;subst hh;simp at c1
theorem a1E {l:List UInt8}(h:l.all a0y=true):a0j l=l:=by unfold a0j;rw [a6p h];rfl
theorem b0g {l:List UInt8}(h:l.all a0y=true):rv l=(dv l:Int):=by
 unfold rv;rw [a6p h,a1E h];rfl
theorem b7i (l:List UInt8)(hl:l.length≤1000000000):a0b C0 195 [str (sb l)] (boo (c2N l)):=by
 refine a0c.walk w1 c3u rfl fun F=>?_
 have ct:=TrimW.trim_ok l hl;have eS:=a5f l [];have eT:=a5f ((a5B l).dropWhile a0y) [];have hall:decide ((a5B l).dropWhile a0y=[])=l.all a0y:=by
  rw [Bool.eq_iff_iff,decide_eq_true_iff];exact c2x l
 rw [hall] at eT;unfold c2N;rw [← eS];generalize hb:a1Q (sb l) (sb [])=b at *;refine sR 0 ?_;refine OkS.seq ?_;cases b with
 | true =>
  have e1:(!a1Q (sb l) (sb []))=false:=by rw [hb];rfl
  refine OkS.reg w1 100 (by kernel_rfl) ?_;refine nwI e1 ?_;refine gwI e1 ?_;refine rtI ?_;exact a0a rfl IsPure.out
 | false =>
  have e1:(!a1Q (sb l) (sb []))=true:=by rw [hb];rfl
  refine OkS.reg w1 100 (by kernel_rfl) ?_;refine nwI e1 ?_;refine gwI e1 ?_;refine gcI e1 ?_;refine a0l.same _ ct inferInstance ?_;refine gwI (ff2 e1 eT) ?_;refine rtI ?_;exact a0a rfl IsPure.out
theorem b4X (l:List UInt8)(hl:l.length≤1000000000):a0b C0 126 [str (sb l)] (boo (a0W l)):=by
 refine a0c.walk w1 c3c rfl fun F=>?_
 have cd:=b7i l hl;have e0:=a5f l [48];unfold a0W;refine sR 0 ?_;refine sR 100 ?_;refine cI cd ?_;rcases hd:c2N l with _|_
 ·refine gwI (ff2 kT Bool.false_eq_true) ?_
  refine gwI (ff2 kT Bool.false_eq_true) ?_;refine rtI ?_;exact a0a rfl IsPure.out
 ·obtain ⟨c,m,rfl⟩:∃ c m,l=c::m:=by
   cases l with
   | nil=>cases hd
   | cons c m=>exact ⟨c,m,rfl⟩
  have hsz:=a0u (c::m);rw [List.length_cons] at hsz;have hx:(((sb (c::m)).data.toList.getD ((0:Int)).toNat 0).toNat:Int)=(c.toNat:Int):=rfl;have b0:(0:Int)<((sb (c::m)).size:Int):=by rw [hsz];omega
  by_cases h0:(c::m)=[48]
  ·rw [decide_eq_true h0] at e0 ⊢
   refine gwI e0 ?_;refine gwI (ff2 e0 kT) ?_;refine gwI (ff2 e0 kT) ?_;refine rtI ?_;exact a0a rfl IsPure.out
  ·rw [decide_eq_false h0] at e0 ⊢
   have e1:((c.toNat:Int) != 48) = !decide (c=48):=by
    rw [Bool.eq_iff_iff];simp only [bne_iff_ne,ne_eq,Bool.not_eq_true',decide_eq_false_iff_not];constructor
    ·intro h hc;subst hc;exact h rfl
    ·intro h hc
     apply h
     have:c.toNat=48:=by omega
     exact UInt8.toNat_inj.1 this
   refine gwI e0 ?_;refine gwI (ff4 e0 kF hx e1) ?_;refine gwI (ff4 e0 kF hx e1) ?_;refine rtI ?_;exact a0a (by simp) IsPure.out
theorem c6I (n:Nat):a0b C0 129 [(mkG (n:Int)).D] (.tup [i64 (mkG (n:Int)).s,boo (decide (Sm (n:Int)))]):=by
 refine a0c.walk w1 c3e rfl fun F=>?_
 by_cases hs:Sm (n:Int)
 ·obtain ⟨a1,a2⟩:=d2y hs
  dsimp only [GI.D];rw [a1,a2,decide_eq_true hs];refine sR 0 ?_;refine OkS.seq ?_;refine OkS.regD w1 100 [0,1,2,3,4,5] [6] (by kernel_rfl) ?_;refine stI ?_;refine rtI ?_;exact a0a rfl IsPure.out
 ·obtain ⟨a1,a2,a3⟩:=d4g hs
  dsimp only [GI.D];rw [a1,a2,decide_eq_false hs];generalize (a0e n).map a0h=l at *;refine sR 0 ?_;refine OkS.seq ?_;refine OkS.regD w1 100 [0,1,2,3,4,5] [6] (by kernel_rfl) ?_;refine nwI (ff3 (@ne_eq (List D)) a3 not_false_eq_true) ?_;refine rtI ?_;exact a0a rfl IsPure.out
def a5N (l:List UInt8):GF:=⟨mkG (rv (a2i l)),if a4e l then dv (a1v l) else 1⟩
theorem c5G (l:List UInt8)(hl:l.length≤100000)(h1:(a0L l).all a0y=true)(h2:a4e l=true→(a1v l).all a0y=true):a0b C0 63 [str (sb l)] (a5N l).D:=by
 refine a0c.walk w1 d0Q rfl fun F=>?_
 have cc:=c2L l (by omega);have r1:=b0X (a2i l) h1 (by unfold a2i;rw [List.length_take];omega);have hpw:IsPure (mkG (rv (a2i l))).w:=inferInstance;unfold a5N;change a0b C0 _ _ (.tup [str (sb (a2i l)),str (sb (a1v l)),boo (a4e l)]) at cc;rcases hs:a4e l with _|_
 ·rw [hs] at cc
  have wg:=c0l (mkG (rv (a2i l)));have hp1:IsPure (mkG ((1:Nat):Int)).w:=inferInstance;rw [if_neg (by simp)];dsimp only [GI.D,GF.D] at *;refine sR 0 ?_;refine sR 100 ?_;refine cI cc ?_;refine OkS.seq ?_;refine sR 200 ?_;refine ifI ?_;refine sR 300 ?_;refine cI r1 ?_;refine cI wg ?_;refine rtI ?_;exact a0a rfl IsPure.out
 ·rw [hs] at cc
  have hd:=h2 hs;have r2:=b0X (a1v l) (by rw [a1E hd];exact hd) (by unfold a1v;rw [List.length_drop];omega);rw [b0g hd] at r2;have hp1:IsPure (mkG (dv (a1v l):Int)).w:=inferInstance;rw [if_pos rfl];dsimp only [GI.D,GF.D] at *;refine sR 0 ?_;refine sR 100 ?_;refine cI cc ?_;refine OkS.seq ?_;refine sR 200 ?_;refine ifI ?_;refine skI ?_;refine sR 400 ?_;refine cI r1 ?_;refine cI r2 ?_;refine rtI ?_;exact a0a rfl IsPure.out
set_option maxHeartbeats 4000000
theorem d1u (g:Nat):((g:Int) != 1)=decide (g≠1):=by
 rw [Bool.eq_iff_iff,bne_iff_ne,decide_eq_true_iff];omega
theorem b4f (l:List UInt8)(hl:l.length≤100000):a0b C0 55 [str (sb l)] (i64 (chk l)):=by
 refine a0c.walk w1 d0P rfl fun F=>?_
 have cc:=c2L l (by omega);change a0b C0 _ _ (.tup [str (sb (a2i l)),str (sb (a1v l)),boo (a4e l)]) at cc;have hnl:(a2i l).length≤100000:=by unfold a2i;rw [List.length_take];omega
 have hdl:(a1v l).length≤100000:=by unfold a1v;rw [List.length_drop];omega
 have hsl:(a0L l).length≤100000:=by
  unfold a0L a0j;split
  ·rw [List.length_drop];omega
  ·exact hnl
 have ct:=a4a (a2i l) (by omega);change a0b C0 _ _ (str (sb (a0L l))) at ct;have p1:=b4X (a0L l) (by omega);have p2:=b4X (a1v l) (by omega);have en:=a5f (a2i l) [45,48];have e0:=a5f (a1v l) [48];have e1:=a5f (a1v l) [49];have z1:=a0u (a0L l);have z2:=a0u (a1v l);have hbf:∃ b,b=a3K l:=⟨_,rfl⟩
 obtain ⟨bf,hbf⟩:=hbf;unfold chk;rw [← hbf];unfold a3K at hbf;refine sR 0 ?_;refine sR 100 ?_;refine cI cc ?_;refine sR 200 ?_;refine cI ct ?_;refine OkS.seq ?_;refine OkS.seqX (α:=Nat) (fun n=>⟨[(4,str (sb (a1v l))),(5,boo (a4e l)),(6,str (sb (a0L l))),(39,boo bf)],[],n⟩) (fun _=>True) ?_ ?_
 ·refine rI 300 ?_
  refine cI p1 ?_;rcases hp:a0W (a0L l) with _|_
  ·rw [hp] at hbf
   have hb:bf=true:=by rw [hbf];rfl
   subst hb;simp only [Bool.not_false];refine gwI kT ?_;refine gwI kT ?_;exact ⟨trivial,_,trivial,wkI⟩
  ·rw [hp] at hbf
   simp only [Bool.not_true]
   by_cases hn:a2i l=[45,48]
   ·rw [decide_eq_true hn] at en hbf
    have hb:bf=true:=by rw [hbf];rfl
    subst hb;refine gwI (ff2 kF en) ?_;refine gwI (ff3 kF kT en) ?_;exact ⟨trivial,_,trivial,wkI⟩
   ·rw [decide_eq_false hn] at en hbf
    rcases hs:a4e l with _|_
    ·rw [hs] at hbf
     have hb:bf=false:=by rw [hbf];rfl
     subst hb;refine gwI (ff2 kF en) ?_;refine gwI (ff4 kF kT en hs) ?_;refine gwI (ff4 kF kT en hs) ?_;exact ⟨trivial,_,trivial,wkI⟩
    ·rw [hs] at hbf
     refine gwI (ff2 kF en) ?_;refine gwI (ff3 kF en hs) ?_;refine gcI hs ?_;refine a0l.same _ p2 inferInstance ?_;refine dsI ?_;rcases hq:a0W (a1v l) with _|_
     ·rw [hq] at hbf
      have hb:bf=true:=by rw [hbf];rfl
      subst hb;refine gwI (ff3 kF kT hq) ?_;refine gwI (ff3 kF kT hq) ?_;refine gwI (ff3 kF kT hq) ?_;exact ⟨trivial,_,trivial,wkI⟩
     ·rw [hq] at hbf
      refine gwI hq ?_;simp only [Bool.not_true];refine gwI kF ?_
      by_cases h0:a1v l=[48]
      ·rw [decide_eq_true h0] at e0 hbf
       have hb:bf=true:=by rw [hbf];rfl
       subst hb;simp only [e0,imp_self];refine gwI kT ?_;refine a1D rfl rfl rfl (by simp only [Bool.not_false]) (by simp) (a2u (fun _ _=>rfl) ?_);refine gwI kF ?_;exact ⟨trivial,_,trivial,wkI⟩
      ·rw [decide_eq_false h0] at e0 hbf
       simp only [e0];refine gwI kF ?_
       by_cases h1:a1v l=[49]
       ·rw [decide_eq_true h1] at e1 hbf
        have hb:bf=true:=by rw [hbf];rfl
        subst hb;simp only [e1];exact ⟨trivial,_,trivial,wkI⟩
       ·rw [decide_eq_false h1] at e1 hbf
        have hb:bf=false:=by rw [hbf];rfl
        subst hb;simp only [e1];exact ⟨trivial,_,trivial,wkI⟩
 rintro n -;cases bf with
 | true =>
  rw [if_pos rfl];refine ifI ?_;refine sR 400 ?_;refine rtI ?_;exact a0a rfl IsPure.out
 | false =>
  rw [if_neg (by simp)];have hbf:=hbf.symm;simp only [Bool.or_eq_false_iff,Bool.not_eq_false',Bool.and_eq_false_iff] at hbf;obtain ⟨⟨hp,hn⟩,hd⟩:=hbf;refine ifI ?_;refine skI ?_;have hsd:=(a2C hp).2;refine OkS.seq ?_;refine OkS.seqX (α:=Nat) (fun n=>⟨[(4,str (sb (a1v l))),(5,boo (a4e l)),(6,str (sb (a0L l))),(47,boo (decide (600<(a0L l).length∨600<(a1v l).length)))],[],n⟩) (fun _=>True) ?_ ?_
  ·by_cases hA:600<(a0L l).length
   ·have ea:decide (((sb (a0L l)).size:Int)>600)=true:=decide_eq_true (by rw [z1];omega)
    have eb:decide (600<(a0L l).length∨600<(a1v l).length)=true:=decide_eq_true (Or.inl hA);rw [eb];refine OkS.reg w1 500 (by kernel_rfl) ?_;refine nwI ea ?_;refine gwI kT ?_;exact ⟨trivial,_,trivial,wkI⟩
   ·have ea:decide (((sb (a0L l)).size:Int)>600)=false:=decide_eq_false (by rw [z1];omega)
    have eb:decide (((sb (a1v l)).size:Int)>600)=decide (600<(a0L l).length∨600<(a1v l).length):=by
     rw [decide_eq_decide,z2];omega
    refine OkS.reg w1 500 (by kernel_rfl) ?_;refine nwI ea ?_;refine gwI kF ?_;simp only [eb];exact ⟨trivial,_,trivial,wkI⟩
  rintro n -
  by_cases hL:600<(a0L l).length∨600<(a1v l).length
  ·rw [decide_eq_true hL,if_pos hL]
   refine ifI ?_;refine sR 600 ?_;refine rtI ?_;exact a0a rfl IsPure.out
  ·rw [decide_eq_false hL,if_neg hL]
   refine ifI ?_;refine skI ?_;refine OkS.seq ?_;refine sR 700 ?_;rcases hs:a4e l with _|_
   ·rw [if_neg (by simp)]
    refine ifI ?_;refine skI ?_;refine sR 1100 ?_;refine rtI ?_;exact a0a rfl IsPure.out
   ·rw [hs] at hd
    have hd':=hd.resolve_left (by simp);have hdd:=(a2C hd'.1.1).2;have r1:=b0X (a0L l) (by rw [a1E hsd];exact hsd) hsl;have r2:=b0X (a1v l) (by rw [a1E hdd];exact hdd) hdl;rw [b0g hsd] at r1;rw [b0g hdd] at r2;have l1:(a0e (dv (a0L l))).length≤100000:=Nat.le_trans (a3D (a5c _ hsd)) hsl;have l2:(a0e (dv (a1v l))).length≤100000:=Nat.le_trans (a3D (a5c _ hdd)) hdl;have cg:=d1i (mkG (dv (a0L l):Int)) (mkG (dv (a1v l):Int)) (a0H _) (a0H _) (a2S (by omega)) (a2S (by omega));rw [a2B,a2B,Int.natAbs_natCast,Int.natAbs_natCast] at cg;have cs:=c6I (Nat.gcd (dv (a0L l)) (dv (a1v l)));obtain ⟨g,hg0⟩:∃ g,g=Nat.gcd (dv (a0L l)) (dv (a1v l)):=⟨_,rfl⟩
    rw [← hg0] at cg cs;simp only [← hg0];have hpa:IsPure (mkG (dv (a0L l):Int)).w:=inferInstance;have hpb:IsPure (mkG (dv (a1v l):Int)).w:=inferInstance;have hpg:IsPure (mkG (g:Int)).w:=inferInstance;dsimp only [GI.D] at r1 r2 cg cs;refine ifI ?_;refine sR 800 ?_;refine cI r1 ?_;refine cI r2 ?_;refine cI cg ?_;refine cI cs ?_;refine OkS.seqX (α:=Nat) (fun n=>⟨[(63,boo (decide (g≠1)))],[],n⟩) (fun _=>True) ?_ ?_
    ·by_cases hg:Sm (g:Int)
     ·obtain ⟨a1,a2⟩:=d2y hg
      have eg:=d1u g;rw [a1,decide_eq_true hg];refine rI 900 ?_;simp only [Bool.not_true];refine gwI kF ?_;simp only [eg];exact ⟨trivial,_,trivial,wkI⟩
     ·have eg:decide (g≠1)=true:=decide_eq_true fun h=>hg (by rw [h];exact ⟨by decide,by decide⟩)
      rw [eg,decide_eq_false hg];refine rI 900 ?_;simp only [Bool.not_false];refine gwI kT ?_;exact ⟨trivial,_,trivial,wkI⟩
    rintro n -
    by_cases hg:g=1
    ·rw [decide_eq_false (fun h=>h hg),if_neg (fun h=>h.2 hg)]
     refine ifI ?_;refine skI ?_;refine sR 1100 ?_;refine rtI ?_;exact a0a rfl IsPure.out
    ·rw [decide_eq_true hg,if_pos ⟨trivial,hg⟩]
     refine ifI ?_;refine sR 1000 ?_;refine rtI ?_;exact a0a rfl IsPure.out
abbrev RB:Nat:=1000000000
def a0o (n:Nat):List Nat:=if _h:n=0 then [] else (n%RB)::a0o (n / RB)
termination_by n
decreasing_by exact Nat.div_lt_self (Nat.pos_of_ne_zero _h) (by decide)
def a0g:List Nat→Nat
 | []=>0
 | a::l=>a+RB*a0g l
def Rd (l:List Nat):Prop:=∀ a∈l,a<RB
theorem a0D:a0o 0=[]:=by unfold a0o;rfl
theorem a1o {n:Nat}(h:n≠0):a0o n=(n%RB)::a0o (n / RB):=by rw [a0o,dif_neg h]
theorem a0z (n:Nat):Rd (a0o n):=by
 induction n using Nat.strongRecOn with
 | ind n ih =>
  by_cases h:n=0
  ·subst h;rw [a0D];intro a ha;cases ha
  ·rw [a1o h]
   intro a ha;rcases List.mem_cons.1 ha with rfl|ha
   ·exact Nat.mod_lt _ (by decide)
   ·exact ih _ (Nat.div_lt_self (Nat.pos_of_ne_zero h) (by decide)) a ha
theorem a0q (n:Nat):a0g (a0o n)=n:=by
 induction n using Nat.strongRecOn with
 | ind n ih =>
  by_cases h:n=0
  ·subst h;rw [a0D];rfl
  ·rw [a1o h,a0g,ih _ (Nat.div_lt_self (Nat.pos_of_ne_zero h) (by decide))]
   exact Nat.mod_add_div n RB
theorem a0Y (l m:List Nat):a0g (l++m)=a0g l+RB^l.length*a0g m:=by
 induction l with
 | nil=>simp [a0g]
 | cons a l ih =>
  simp only [List.cons_append,a0g,ih,List.length_cons,Nat.pow_succ,Nat.mul_add];rw [Nat.mul_comm (RB^l.length) RB,Nat.mul_assoc,Nat.add_assoc]
theorem Rd.tail {a:Nat}{l:List Nat}(h:Rd (a::l)):Rd l:=fun b hb=>h b (List.mem_cons_of_mem _ hb)
theorem Rd.head {a:Nat}{l:List Nat}(h:Rd (a::l)):a<RB:=h a List.mem_cons_self
theorem Rd.append {l m:List Nat}(h:Rd l)(k:Rd m):Rd (l++m):=fun a ha=>(List.mem_append.1 ha).elim (h a) (k a)
theorem Rd.take {l:List Nat}(h:Rd l)(n:Nat):Rd (l.take n):=fun a ha=>h a (List.mem_of_mem_take ha)
theorem a1c:∀ {l:List Nat},Rd l→a0g l<RB^l.length
 | [],_=>by simp [a0g]
 | a::l,h=>by
  have h1:=a1c h.tail;have h2:=h.head;rw [a0g,List.length_cons,Nat.pow_succ]
  calc a+RB*a0g l<RB+RB*a0g l:=by omega
   _=RB*(a0g l+1):=by rw [Nat.mul_add,Nat.mul_one,Nat.add_comm]
   _≤RB*RB^l.length:=Nat.mul_le_mul_left _ h1
   _=_:=Nat.mul_comm _ _
theorem a8H:∀ {l:List Nat},Rd l→(∀ a∈l.getLast?,a≠0)→a0o (a0g l)=l
 | [],_,_=>a0D
 | [a],h,hl=>by
  have ha:a≠0:=hl a (by simp);have hb:=h.head;rw [show a0g [a]=a from by simp [a0g],a1o ha,Nat.mod_eq_of_lt hb,Nat.div_eq_of_lt hb,a0D]
 | a::b::l,h,hl=>by
  have ih:=a8H h.tail (fun x hx=>hl x (by simpa using hx));have hb:=h.head;have hv:a0g (b::l)≠0:=by
   intro h0;rw [h0,a0D] at ih;cases ih
  have e1:a0g (a::b::l)%RB=a:=by rw [a0g,Nat.add_mul_mod_self_left,Nat.mod_eq_of_lt hb]
  have e2:a0g (a::b::l) / RB=a0g (b::l):=by
   rw [a0g,Nat.add_mul_div_left _ _ (by decide),Nat.div_eq_of_lt hb,Nat.zero_add]
  have hne:a0g (a::b::l)≠0:=by
   intro h0;rw [h0] at e2;exact hv (by rw [← e2];rfl)
  rw [a1o hne,e1,e2,ih]
theorem a6V:∀ (k:Nat),a0g (List.replicate k 0)=0
 | 0=>rfl
 | k+1=>by rw [List.replicate_succ,a0g,a6V k,Nat.mul_zero]
theorem a0B (b:Nat):∀ a,b≤a→(a0o b).length≤(a0o a).length:=by
 induction b using Nat.strongRecOn with
 | ind b ih =>
  intro a h
  by_cases hb:b=0
  ·subst hb;rw [a0D];exact Nat.zero_le _
  ·rw [a1o hb,a1o (n:=a) (by omega),List.length_cons,List.length_cons]
   exact Nat.succ_le_succ (ih _ (Nat.div_lt_self (Nat.pos_of_ne_zero hb) (by decide)) _ (Nat.div_le_div_right h))
theorem a5n {a b:Nat}(h:(a0o a).length<(a0o b).length):a<b:=by
 rcases Nat.lt_or_ge a b with h1|h1
 ·exact h1
 ·have:=a0B b a h1;omega
theorem a4w {l:List Nat}{k a:Nat}(h:l[k]? = some a):a0g l=a0g (l.take k)+RB^k*(a+RB*a0g (l.drop (k+1))):=by
 have hk:k<l.length:=(List.getElem?_eq_some_iff.1 h).1
 conv=>lhs;rw [← List.take_append_drop k l]
 rw [a0Y,List.length_take,Nat.min_eq_left (by omega)]
 have:l.drop k=a::l.drop (k+1):=by
  rw [List.drop_eq_getElem_cons hk]
  congr 1
  exact (List.getElem?_eq_some_iff.1 h).2
 rw [this,a0g]
theorem a6U {l m:List Nat}{k a b:Nat}(hl:Rd l)(ha:l[k]? = some a)(hb:m[k]? = some b)(hd:l.drop (k+1)=m.drop (k+1))(hab:a<b):a0g l<a0g m:=by
 have hk:k<l.length:=(List.getElem?_eq_some_iff.1 ha).1;rw [a4w ha,a4w hb,hd];have h1:=a1c (hl.take k);rw [List.length_take,Nat.min_eq_left (by omega)] at h1;generalize a0g (m.drop (k+1))=r;have h2:RB^k*(a+RB*r)+RB^k≤RB^k*(b+RB*r):=by
  rw [← Nat.mul_succ];exact Nat.mul_le_mul_left _ (by omega)
 omega
theorem a0P {l:List Nat}{i a:Nat}(hi:l.length=i):a0g (l++[a])=a0g l+RB^i*a:=by rw [a0Y,hi];simp [a0g]
theorem Rd.set {l:List Nat}(h:Rd l){i a:Nat}(ha:a<RB):Rd (l.set i a):=fun b hb=>by
 rcases List.mem_or_eq_of_mem_set hb with h1|rfl
 ·exact h b h1
 ·exact ha
theorem a6D (n:Nat):Rd (List.replicate n 0):=fun a ha=>by rw [List.eq_of_mem_replicate ha];decide
theorem a3F:∀ {l:List Nat} {k o d:Nat},l[k]? = some o→a0g (l.set k d)+RB^k*o=a0g l+RB^k*d
 | a::l,0,o,d,h=>by
  simp only [List.getElem?_cons_zero,Option.some.injEq] at h;subst h;simp only [List.set_cons_zero,a0g,Nat.pow_zero,Nat.one_mul];omega
 | a::l,k+1,o,d,h=>by
  simp only [List.getElem?_cons_succ] at h;have ih:=a3F (d:=d) h;simp only [List.set_cons_succ,a0g];have h1:RB^(k+1)*o=RB*(RB^k*o):=by rw [Nat.pow_succ,Nat.mul_comm (RB^k) RB,Nat.mul_assoc]
  have h2:RB^(k+1)*d=RB*(RB^k*d):=by rw [Nat.pow_succ,Nat.mul_comm (RB^k) RB,Nat.mul_assoc]
  have h3:RB*a0g (l.set k d)+RB*(RB^k*o)=RB*a0g l+RB*(RB^k*d):=by rw [← Nat.mul_add,← Nat.mul_add,ih]
  omega
theorem a0Z {n k:Nat}(h:n<RB^k):(a0o n).length≤k:=by
 induction k generalizing n with
 | zero =>
  have:n=0:=by simpa using h
  subst this;rw [a0D];exact Nat.le_refl _
 | succ k ih =>
  by_cases h0:n=0
  ·subst h0;rw [a0D];exact Nat.zero_le _
  ·rw [a1o h0,List.length_cons]
   exact Nat.succ_le_succ (ih (Nat.div_lt_of_lt_mul (by rw [Nat.mul_comm,← Nat.pow_succ];exact h)))
theorem a1z (n:Nat):n<RB^(a0o n).length:=by
 have:=a1c (a0z n)
 rwa [a0q] at this
theorem a8F (a b:Nat):(a0o (a+b)).length≤max (a0o a).length (a0o b).length+1:=by
 refine a0Z ?_;have h1:=a1z a;have h2:=a1z b;have m1:RB^(a0o a).length≤RB^max (a0o a).length (a0o b).length:=Nat.pow_le_pow_right (by decide) (Nat.le_max_left _ _);have m2:RB^(a0o b).length≤RB^max (a0o a).length (a0o b).length:=Nat.pow_le_pow_right (by decide) (Nat.le_max_right _ _);rw [Nat.pow_succ];generalize RB^max (a0o a).length (a0o b).length=q at *;unfold RB;omega
theorem a8G (a b:Nat):(a0o (a - b)).length≤(a0o a).length:=a0B _ _ (Nat.sub_le _ _)
theorem a5y (a b:Nat):(a0o (a*b)).length≤(a0o a).length+(a0o b).length:=by
 refine a0Z ?_;rw [Nat.pow_add];exact Nat.mul_lt_mul'' (a1z a) (a1z b)
theorem a3U {n:Nat}(h0:n≠0)(h:n<RB):a0o n=[n]:=by
 rw [a1o h0,Nat.mod_eq_of_lt h,Nat.div_eq_of_lt h,a0D]
theorem b9l {l:List Nat}{k a:Nat}(hl:l.length=k+1)(ha:l[k]? = some a):a0g l=a0g (l.take k)+RB^k*a:=by
 rw [a4w ha,List.drop_of_length_le (by omega)];simp [a0g]
theorem d1S {l:List Nat}{k a b:Nat}(hl:l.length=k+2)(ha:l[k]? = some a)(hb:l[k+1]? = some b):a0g l=a0g (l.take k)+RB^k*(a+RB*b):=by
 rw [a4w ha]
 have:l.drop (k+1)=[b]:=by
  rw [List.drop_eq_getElem_cons (by omega),List.drop_of_length_le (by omega)]
  congr 1
  exact (List.getElem?_eq_some_iff.1 hb).2
 rw [this];simp [a0g]
theorem d1T {l:List Nat}{k a b c:Nat}(hl:l.length=k+3)(ha:l[k]? = some a)(hb:l[k+1]? = some b)(hc:l[k+2]? = some c):a0g l=a0g (l.take k)+RB^k*(a+RB*(b+RB*c)):=by
 rw [a4w ha];have h1:=b9l (l:=l.drop (k+1)) (k:=1) (a:=c) (by rw [List.length_drop];omega) (by rw [List.getElem?_drop,Nat.add_assoc];exact hc);have h2:(l.drop (k+1)).take 1=[b]:=by
  rw [List.drop_eq_getElem_cons (by omega)];simp only [List.take_succ_cons,List.take_zero]
  congr 1
  exact (List.getElem?_eq_some_iff.1 hb).2
 rw [h1,h2];simp [a0g]
structure b1v (P v:List Nat)(m p0 p1 p2 v2 v1:Nat):Prop where
 lP:P.length=m+3
 lv:v.length=m+2
 wP:Rd P
 wv:Rd v
 h0:P[m]? = some p0
 h1:P[m+1]? = some p1
 h2:P[m+2]? = some p2
 g2:v[m]? = some v2
 g1:v[m+1]? = some v1
 top:0<v1
 less:a0g P<a0g v*RB
namespace b1v
variable {P v:List Nat} {m p0 p1 p2 v2 v1:Nat} (S:b1v P v m p0 p1 p2 v2 v1)
include S
theorem valP:a0g P=a0g (P.take m)+RB^m*(p0+RB*(p1+RB*p2)):=d1T S.lP S.h0 S.h1 S.h2
theorem valv:a0g v=a0g (v.take m)+RB^m*(v2+RB*v1):=d1S S.lv S.g2 S.g1
theorem lowP:a0g (P.take m)<RB^m:=by
 have:=a1c (S.wP.take m)
 rwa [List.length_take,Nat.min_eq_left (by have:=S.lP;omega)] at this
theorem lowv:a0g (v.take m)<RB^m:=by
 have:=a1c (S.wv.take m)
 rwa [List.length_take,Nat.min_eq_left (by have:=S.lv;omega)] at this
theorem p0l:p0<RB:=S.wP _ (List.mem_of_getElem? S.h0)
theorem p1l:p1<RB:=S.wP _ (List.mem_of_getElem? S.h1)
theorem p2l:p2<RB:=S.wP _ (List.mem_of_getElem? S.h2)
theorem v1l:v1<RB:=S.wv _ (List.mem_of_getElem? S.g1)
theorem v2l:v2<RB:=S.wv _ (List.mem_of_getElem? S.g2)
theorem below3:a0g P<(p0+RB*(p1+RB*p2)+1)*RB^m:=by
 rw [S.valP,Nat.add_mul,Nat.one_mul,Nat.mul_comm (RB^m)]
 have:=S.lowP
 omega
theorem below2:a0g P<(p1+RB*p2+1)*RB^(m+1):=by
 have h:=S.below3;have h1:=S.p0l;generalize p1+RB*p2=t at *;have h2:(p0+RB*t+1)*RB^m≤(RB*(t+1))*RB^m:=Nat.mul_le_mul_right _ (by rw [Nat.mul_add RB t 1];omega);have h3:(t+1)*RB^(m+1)=(RB*(t+1))*RB^m:=by rw [Nat.pow_succ,Nat.mul_comm (RB^m) RB,← Nat.mul_assoc,Nat.mul_comm (t+1) RB]
 omega
theorem abovev:v1*RB^(m+1)≤a0g v:=by
 rw [S.valv,Nat.pow_succ,Nat.mul_add]
 have:v1*(RB^m*RB)=RB^m*(RB*v1):=by rw [Nat.mul_comm v1,Nat.mul_assoc]
 omega
theorem abovev2:(v2+RB*v1)*RB^m≤a0g v:=by
 rw [S.valv,Nat.mul_comm];omega
theorem pos:0<a0g v:=Nat.lt_of_lt_of_le (Nat.mul_pos S.top (Nat.pow_pos (by decide))) S.abovev
theorem p2v1:p2≤v1:=by
 rcases Nat.lt_or_ge v1 p2 with h|h
 ·exfalso
  have e1:RB^(m+2)*p2≤a0g P:=by
   rw [S.valP,Nat.mul_add,Nat.mul_add,Nat.mul_add]
   have:RB^(m+2)*p2=RB^m*(RB*(RB*p2)):=by rw [Nat.pow_succ,Nat.pow_succ,Nat.mul_assoc,Nat.mul_assoc]
   omega
  have e2:a0g v<RB^(m+1)*(v1+1):=by
   have h1:=S.lowv;have h2:=S.v2l;have e3:RB^(m+1)*(v1+1)=RB^m*(RB*v1+RB):=by rw [Nat.pow_succ,Nat.mul_assoc,Nat.mul_add,Nat.mul_one]
   have e4:RB^m*(v2+RB*v1+1)≤RB^m*(RB*v1+RB):=Nat.mul_le_mul_left _ (by omega);rw [Nat.mul_add _ _ 1,Nat.mul_one] at e4;rw [S.valv,e3];omega
  have e5:RB^(m+1)*(v1+1)*RB=RB^(m+2)*(v1+1):=by rw [Nat.mul_right_comm,← Nat.pow_succ]
  have e6:RB^(m+2)*(v1+1)≤RB^(m+2)*p2:=Nat.mul_le_mul_left _ h;have e7:(a0g v)*RB≤RB^(m+1)*(v1+1)*RB:=Nat.mul_le_mul_right _ (Nat.le_of_lt e2)
  have:=S.less
  omega
 ·exact h
end b1v
theorem a8I {A P v:List Nat}{q i z x d b c b' c' lo:Nat}(hz:A[i]? = some z)(hx:v[i]? = some x)(hI:a0g A+q*a0g (v.take i)=a0g P+RB^i*(c+b))
  (h1:lo+RB*c'=q*x+c) (h2:d+lo+b=z+RB*b'):a0g (A.set i d)+q*a0g (v.take (i+1))=a0g P+RB^(i+1)*(c'+b'):=by
 have hs:=a3F (d:=d) hz;have hi:i<v.length:=(List.getElem?_eq_some_iff.1 hx).1;rw [a0O hx,a0P (i:=i) (by rw [List.length_take];omega),Nat.mul_add,Nat.mul_left_comm q,Nat.pow_succ,Nat.mul_assoc];have e:RB^i*(d+q*x+(c+b))=RB^i*(z+RB*(c'+b')):=by congr 1;rw [Nat.mul_add RB];omega
 rw [Nat.mul_add,Nat.mul_add,Nat.mul_add (RB^i) z] at e;omega
theorem a7e {A P v:List Nat}{i z x c:Nat}(hz:A[i]? = some z)(hx:v[i]? = some x)(hI:a0g A+RB^i*c=a0g P+a0g (v.take i)) :
  a0g (A.set i ((z+x+c)%RB))+RB^(i+1)*((z+x+c) / RB)=a0g P+a0g (v.take (i+1)):=by
 have hs:=a3F (d:=(z+x+c)%RB) hz;have hi:i<v.length:=(List.getElem?_eq_some_iff.1 hx).1;rw [a0O hx,a0P (i:=i) (by rw [List.length_take];omega),Nat.pow_succ,Nat.mul_assoc];have e:RB^i*((z+x+c)%RB+RB*((z+x+c) / RB))=RB^i*(z+x+c):=by rw [Nat.mod_add_div]
 rw [Nat.mul_add,Nat.mul_add,Nat.mul_add (RB^i) z] at e;omega
theorem b3J {n k:Nat}(h1:RB^k≤n)(h2:n<RB^(k+1)):(a0o n).length=k+1:=by
 have h3:=a0Z h2;have h4:=Nat.lt_of_le_of_lt h1 (a1z n);have h5:=(Nat.pow_lt_pow_iff_right (show 1<RB by decide)).1 h4;omega
theorem a3V:∀ (n:Nat) {k a:Nat},(a0o n).length=k+1→(a0o n)[k]? = some a→a≠0:=fun n=>by
 induction n using Nat.strongRecOn with
 | ind n ih =>
  intro k a h1 h2
  by_cases h0:n=0
  ·subst h0;rw [a0D] at h1;cases h1
  ·rw [a1o h0] at h1 h2
   rw [List.length_cons] at h1;have h3:=Nat.succ.inj h1;cases k with
   | zero =>
    have h4:a0o (n / RB)=[]:=List.eq_nil_of_length_eq_zero h3;have h5:n / RB=0:=by rw [← a0q (n / RB),h4];rfl
    have h6:=Nat.mod_add_div n RB;rw [h5] at h6;simp at h2;intro h7;subst h7;rw [h2] at h6;omega
   | succ k =>
    rw [List.getElem?_cons_succ] at h2;exact ih _ (Nat.div_lt_self (Nat.pos_of_ne_zero h0) (by decide)) h3 h2
theorem a6C {n k:Nat}(h:(a0o n).length=k+1):RB^k≤n:=by
 obtain ⟨a,ha⟩:=a2Z (l:=a0o n) (i:=k) (by omega);have h1:=a3V n h ha;have h2:=b9l h ha;rw [a0q] at h2;have h3:=Nat.mul_le_mul_left (RB^k) (show 1≤a by omega);omega
theorem a4T {l:List Nat}{j a:Nat}(h:l[j]? = some a):a0g (l.drop j)=a+RB*a0g (l.drop (j+1)):=by
 have hj:j<l.length:=(List.getElem?_eq_some_iff.1 h).1;rw [List.drop_eq_getElem_cons hj,(List.getElem?_eq_some_iff.1 h).2];rfl
theorem b2w {a q:List Nat}{j x b rest:Nat}(hb:0<b)(hx:a[j]? = some x)(hj:j<q.length)(hI:a0g (q.drop (j+1))*b+rest=a0g (a.drop (j+1))) :
  a0g ((q.set j ((rest*RB+x) / b)).drop j)*b+(rest*RB+x)%b=a0g (a.drop j)∧(rest*RB+x)%b<b:=by
 refine ⟨?_,Nat.mod_lt _ hb⟩;rw [a7y hj,a4T hx,← hI,a0g];have e:=Nat.div_add_mod (rest*RB+x) b;rw [Nat.add_mul,Nat.mul_add RB,Nat.mul_assoc RB,Nat.mul_comm RB rest,Nat.mul_comm _ b];omega
structure c4R (X:Nat)(v U q:List Nat)(lu lq k:Nat):Prop where
 lU:U.length=lu
 lQ:q.length=lq
 wU:Rd U
 wq:Rd q
 val:RB^k*a0g (q.drop k)*a0g v+a0g U=X
 less:a0g (U.drop k)<a0g v
theorem b5X {X:Nat}{v U q:List Nat}{lu lq j m:Nat}(I:c4R X v U q lu lq (j+1))(hv:v.length=m+2)(wv:Rd v)(v1 v2:Nat)(h2:v[m]? = some v2)(h1:v[m+1]? = some v1)(ht:0<v1)(hj:j+(m+3)≤lu) :
  ∃ p0 p1 p2,b1v ((U.drop j).take (m+3)) v m p0 p1 p2 v2 v1∧a0g (U.drop (j+(m+3)))=0∧a0g ((U.drop j).take (m+3))=a0g (U.drop j):=by
 obtain ⟨lU,lQ,wU,wq,val,less⟩:=I;obtain ⟨x,hx⟩:=a2Z (l:=U) (i:=j) (by omega);have hxl:=wU x (List.mem_of_getElem? hx);have e1:=a4T hx;have hlt:a0g (U.drop j)<a0g v*RB:=by
  have:RB*(a0g (U.drop (j+1))+1)≤RB*a0g v:=Nat.mul_le_mul_left _ less
  rw [Nat.mul_add,Nat.mul_comm RB (a0g v)] at this;omega
 have hPl:((U.drop j).take (m+3)).length=m+3:=by rw [List.length_take,List.length_drop];omega
 have e2:a0g (U.drop j)=a0g ((U.drop j).take (m+3))+RB^(m+3)*a0g (U.drop (j+(m+3))):=by
  conv=>lhs;rw [← List.take_append_drop (m+3) (U.drop j)]
  rw [a0Y,hPl,List.drop_drop]
 have hvl:=a1c wv;rw [hv] at hvl;have hz:a0g (U.drop (j+(m+3)))=0:=by
  rcases Nat.eq_zero_or_pos (a0g (U.drop (j+(m+3)))) with h|h
  ·exact h
  ·exfalso
   have e3:RB^(m+3)*1≤RB^(m+3)*a0g (U.drop (j+(m+3))):=Nat.mul_le_mul_left _ h;have e4:a0g v*RB≤RB^(m+2)*RB:=Nat.mul_le_mul_right _ (Nat.le_of_lt hvl);have e5:RB^(m+2)*RB=RB^(m+3):=(Nat.pow_succ RB (m+2)).symm;rw [e5] at e4;omega
 rw [hz,Nat.mul_zero,Nat.add_zero] at e2;obtain ⟨p0,h0⟩:=a2Z (l:=(U.drop j).take (m+3)) (i:=m) (by omega);obtain ⟨p1,h3⟩:=a2Z (l:=(U.drop j).take (m+3)) (i:=m+1) (by omega);obtain ⟨p2,h4⟩:=a2Z (l:=(U.drop j).take (m+3)) (i:=m+2) (by omega);exact ⟨p0,p1,p2,⟨hPl,hv,fun a ha=>wU a (List.mem_of_mem_drop (List.mem_of_mem_take ha)),wv,h0,h3,h4,h2,h1,ht,by rw [← e2];exact hlt⟩,hz,e2.symm⟩
theorem b5W {X:Nat}{v U q P':List Nat}{lu lq j m:Nat}(I:c4R X v U q lu lq (j+1))(hv:0<a0g v)(hj:j+(m+3)≤lu)(hjq:j<lq)(hz:a0g (U.drop (j+(m+3)))=0)(hP:a0g ((U.drop j).take (m+3))=a0g (U.drop j))
  (h1:P'.length=m+3) (h2:Rd P') (h3:a0g P'=a0g ((U.drop j).take (m+3))%a0g v) (hd:a0g ((U.drop j).take (m+3)) / a0g v<RB) :
  c4R X v (U.take j++(P'++U.drop (j+(m+3)))) (q.set j (a0g ((U.drop j).take (m+3)) / a0g v)) lu lq j:=by
 obtain ⟨lU,lQ,wU,wq,val,less⟩:=I;have hA:(U.take j).length=j:=by rw [List.length_take];omega
 have e0:a0g U=a0g (U.take j)+RB^j*a0g (U.drop j):=by
  conv=>lhs;rw [← List.take_append_drop j U]
  rw [a0Y,hA]
 have e1:a0g (P'++U.drop (j+(m+3)))=a0g P':=by rw [a0Y,hz,Nat.mul_zero,Nat.add_zero]
 refine ⟨?_,by rw [List.length_set];exact lQ,?_,wq.set hd,?_,?_⟩
 ·rw [List.length_append,List.length_append,hA,h1,List.length_drop];omega
 ·exact Rd.append (wU.take j) (Rd.append h2 fun a ha=>wU a (List.mem_of_mem_drop ha))
 ·rw [a7y (by omega),a0g,a0Y,hA,e1,h3,hP]
  rw [e0] at val;have e2:=Nat.div_add_mod (a0g (U.drop j)) (a0g v);have e3:RB^(j+1)*a0g (q.drop (j+1))*a0g v=RB^j*(RB*a0g (q.drop (j+1))*a0g v):=by
   rw [Nat.pow_succ,Nat.mul_assoc,Nat.mul_assoc,Nat.mul_assoc]
  rw [e3] at val;have e4:RB^j*a0g (U.drop j)=RB^j*(a0g v*(a0g (U.drop j) / a0g v))+RB^j*(a0g (U.drop j)%a0g v):=by
   rw [← Nat.mul_add,e2]
  rw [Nat.mul_assoc,Nat.add_mul,Nat.mul_add,Nat.mul_comm (a0g (U.drop j) / a0g v)];omega
 ·rw [List.drop_left' hA,e1,h3]
  exact Nat.mod_lt _ hv
set_option maxHeartbeats 2000000
abbrev a0p (n:Nat):D:=i64 (n:Int)
def rL (l:List Nat):D:=.sl false 1 (l.map a0p)
def rD (n:Nat):D:=rL (a0o n)
theorem a8C (l:List Nat):a2c (rL l):=.sl fun e he d hd=>by
 obtain ⟨a,_,rfl⟩:=List.mem_map.1 he;simp only [D.cells,List.mem_cons,List.not_mem_nil,or_false] at hd;subst hd;exact .prim _
instance  (l:List Nat):IsPure (rL l):=⟨a8C l⟩
instance  (n:Nat):IsPure (rD n):=⟨a8C _⟩
theorem a6T {l:List Nat}{i a:Nat}(h:l[i]? = some a):(l.map a0p)[i]? = some (a0p a):=by rw [List.getElem?_map,h];rfl
theorem b0c {l:List Nat}{i a:Nat}:(l.map a0p).set i (a0p a)=(l.set i a).map a0p:=List.map_set.symm
theorem d2Y (c:Nat):((c:Int)==0)=decide (c=0):=by rw [Bool.eq_iff_iff,beq_iff_eq,decide_eq_true_iff];omega
theorem b3K (m:List Nat):a0g (m++[0])=a0g m:=by rw [a0P rfl];simp
theorem b9k {m:List Nat}{c:Nat}(h:Rd (m++[c]))(hc:c≠0):a0o (a0g (m++[c]))=m++[c]:=a8H h fun a ha=>by
 rw [List.getLast?_append] at ha;simp at ha;rw [← ha];exact hc
theorem a9b (l:List Nat)(h:Rd l)(hlen:l.length<4000000000):a0b C0 218 [rL l] (rD (a0g l)):=by
 refine a0c.walk w1 c3B rfl fun F=>?_
 unfold rL;refine sR 0 ?_;refine OkS.seq ?_;refine OkS.block ?_;refine OkS.loop (α:=List Nat × Nat) (fun p=>⟨[(0,.sl false 1 (p.1.map a0p))],[],p.2⟩) (fun p=>p.1.length)
  (fun p=>a0g p.1=a0g l∧Rd p.1∧p.1.length≤l.length) (l,_) ⟨rfl,h,Nat.le_refl _⟩ wkI ?_
 rintro ⟨m,n⟩ F ⟨h1,h2,h3⟩;dsimp only at h1 h2 h3 ⊢;refine OkS.seq ?_;refine OkS.seq ?_;rcases List.eq_nil_or_concat m with rfl|⟨m,c,rfl⟩
 ·have e1:decide (((0:Nat):Int)>0)=false:=rfl
  refine OkS.reg w1 100 (by kernel_rfl) ?_;refine nwI e1 ?_;refine gwI e1 ?_;refine ifI ?_;refine exI ?_;refine sR 300 ?_;refine rtI ?_;refine a0a (d0:=rL []) ?_ IsPure.out;rw [← h1];unfold rD;rw [show a0g []=0 from rfl,a0D]
 ·rw [List.concat_eq_append] at h1 h2 h3 ⊢
  have el:((((m++[c]).map a0p).length:Nat):Int)=((m.length+1:Nat):Int):=by rw [List.length_map,List.length_append];rfl
  rw [List.length_append,List.length_singleton] at h3;have e1:decide (((m.length+1:Nat):Int)>0)=true:=decide_eq_true (by omega);have wk:IntKind.i64.wrap (((m.length+1:Nat):Int) - 1)=(m.length:Int):=by rw [wI (by omega) (by omega)];omega
  have wraw:IntKind.i64.wrap (((((m++[c]).map a0p).length:Nat):Int) - 1)=(m.length:Int):=by rw [el,wk]
  have hx:((m++[c]).map a0p)[m.length]? = some (a0p c):=a6T (by simp);have ec:=d2Y c;refine OkS.reg w1 100 (by kernel_rfl) ?_;refine nwI (ff2 el e1) ?_;refine gwI (ff5 e1 wraw el wk kN) ?_;refine ixI e1 hx ?_;refine gwI (ff5 e1 wraw el wk ec) ?_
  by_cases hc:c=0
  ·rw [decide_eq_true hc]
   subst hc;have e4:List.take (m.length - 0) (List.drop 0 ((m++[0]).map a0p))=m.map a0p:=by simp
   have e5:List.take m.length ((m++[0]).map a0p)=m.map a0p:=by simp
   rw [b3K] at h1;refine ifI ?_;refine skI ?_;refine OkS.block ?_;refine OkS.reg w1 200 (by kernel_rfl) ?_;refine nwI (ff5 el wk wraw kN e4) ?_;exact ⟨(m,_),⟨h1,fun a ha=>h2 a (List.mem_append_left _ ha),by dsimp only;omega⟩,by dsimp only;rw [List.length_append,List.length_singleton];omega,wkI⟩
  ·rw [decide_eq_false hc]
   refine ifI ?_;refine exI ?_;refine sR 300 ?_;refine rtI ?_;refine a0a (d0:=rL (m++[c])) ?_ IsPure.out;unfold rD;rw [← h1,b9k h2 hc]
theorem b3i (l:List Nat)(i:Nat)(hlen:l.length<4000000000)(hi:i<4000000000):a0b C0 220 [rL l,a0p i] (a0p (l.getD i 0)):=by
 refine a0c.walk w1 c9p rfl fun F=>?_
 unfold rL;have el:(((l.map a0p).length:Nat):Int)=(l.length:Int):=by rw [List.length_map]
 refine sR 0 ?_;refine OkS.seq ?_;refine OkS.seq ?_
 by_cases h:i<l.length
 ·have e1:decide ((i:Int)<(l.length:Int))=true:=decide_eq_true (by omega)
  obtain ⟨a,ha⟩:=a2Z h;have hx:=a6T ha;have eg:l.getD i 0=a:=by rw [List.getD_eq_getElem?_getD,ha];rfl
  rw [eg];refine OkS.reg w1 100 (by kernel_rfl) ?_;refine nwI (ff2 el e1) ?_;refine ifI ?_;refine sZ 200 ?_;refine gwI kN ?_;refine ixI kT hx ?_;refine gwI kN ?_;refine rtI ?_;exact a0a rfl IsPure.out
 ·have e1:decide ((i:Int)<(l.length:Int))=false:=decide_eq_false (by omega)
  have eg:l.getD i 0=0:=by rw [List.getD_eq_getElem?_getD,List.getElem?_eq_none (by omega)];rfl
  rw [eg];refine OkS.reg w1 100 (by kernel_rfl) ?_;refine nwI (ff2 el e1) ?_;refine ifI ?_;refine skI ?_;refine sR 300 ?_;refine rtI ?_;exact a0a rfl IsPure.out
theorem c0R (a b:Nat)(ha:(a0o a).length<4000000000)(hb:(a0o b).length<4000000000):a0b C0 167 [rD a,rD b] (i64 (a6e a b)):=by
 refine a0c.walk w1 c8M rfl fun F=>?_
 have hwa:=a0z a;have hwb:=a0z b;have va:=a0q a;have vb:=a0q b;have hlt:=@a5n a b;have hgt:=@a5n b a;unfold rD rL a6e;generalize a0o a=la at *;generalize a0o b=lb at *;have ea:(((la.map a0p).length:Nat):Int)=(la.length:Int):=by rw [List.length_map]
 have eb:(((lb.map a0p).length:Nat):Int)=(lb.length:Int):=by rw [List.length_map]
 refine sR 0 ?_;refine OkS.seq ?_;refine sZ 100 ?_;refine nwI (ff2 ea eb) ?_;refine ifI ?_
 (refine brI (fun h10=>?_) (fun h10=>?_))<;>(try simp only [Bool.not_eq_true',Bool.not_eq_false'] at h10)<;>(try simp only [h10])
 ·have hne:la.length≠lb.length:=by
   have:(la.length:Int)≠lb.length:=by simpa using h10
   omega
  refine OkS.seq ?_;refine sZ 200 ?_;refine nwI (ff2 ea eb) ?_;refine ifI ?_
  (refine brI (fun h15=>?_) (fun h15=>?_))<;>(try simp only [Bool.not_eq_true',Bool.not_eq_false'] at h15)<;>(try simp only [h15])
  ·have h1:la.length<lb.length:=by
    have:(la.length:Int)<lb.length:=by simpa using h15
    omega
   rw [if_pos (by have:=hlt h1;omega)];refine sR 300 ?_;refine rtI ?_;exact a0a rfl IsPure.out
  ·have h1:lb.length<la.length:=by
    have:¬ (la.length:Int)<lb.length:=by simpa using h15
    omega
   have h2:=hgt h1;rw [if_neg (by omega),if_pos (by omega)];refine skI ?_;refine sR 400 ?_;refine rtI ?_;exact a0a rfl IsPure.out
 ·have hl:la.length=lb.length:=by
   have:(la.length:Int)=lb.length:=by simpa using h10
   omega
  clear hlt hgt;refine skI ?_;refine OkS.seq ?_;refine sZ 500 ?_;refine nwI ea ?_;refine OkS.block ?_;have w0:IntKind.i64.wrap ((la.length:Int) - 1)=(la.length:Int) - 1:=wI (by omega) (by omega);rw [w0];refine OkS.loop (α:=Nat × Nat) (fun p=>⟨[(0,.sl false 1 (la.map a0p)),(1,.sl false 1 (lb.map a0p)),(5,i64 ((p.1:Int) - 1))],[],p.2⟩) (fun p=>p.1)
   (fun p=>p.1≤la.length∧la.drop p.1=lb.drop p.1) (la.length,_) ⟨Nat.le_refl _,by rw [List.drop_length,hl,List.drop_length]⟩ wkI ?_
  rintro ⟨k,m⟩ F ⟨h1,h2⟩;dsimp only at h1 h2 ⊢;refine OkS.seq ?_;refine sR 600 ?_;refine ifI ?_
  (refine brI (fun h20=>?_) (fun h20=>?_))<;>(try simp only [Bool.not_eq_true',Bool.not_eq_false'] at h20)<;>(try simp only [h20])
  ·obtain ⟨j,rfl⟩:∃ j,k=j+1:=⟨k - 1,by
    have:(k:Int) - 1≥0:=by simpa using h20
    omega⟩
   have wj:((j+1:Nat):Int) - 1=(j:Int):=by omega
   obtain ⟨x,hx⟩:∃ x,la[j]? = some x:=⟨la[j],List.getElem?_eq_getElem (by omega)⟩
   obtain ⟨y,hy⟩:∃ y,lb[j]? = some y:=⟨lb[j],List.getElem?_eq_getElem (by omega)⟩
   have hx':=a6T hx;have hy':=a6T hy;rw [wj];refine skI ?_;refine OkS.seq ?_;refine OkS.block ?_;refine OkS.seq ?_;refine OkS.seq ?_;refine OkS.regD w1 800 [0,1,2,3,4,5,6,7] [8] (by kernel_rfl) ?_;refine gwI kN ?_;refine ixI kT hx' ?_;refine gwI kN ?_;refine ixI kT hy' ?_;refine gwI kN ?_;refine gwI kN ?_;refine ifI ?_
   (refine brI (fun h31=>?_) (fun h31=>?_))<;>(try simp only [Bool.not_eq_true',Bool.not_eq_false'] at h31)<;>(try simp only [h31])
   ·have hxy:x<y:=by
     have:=of_decide_eq_true h31
     omega
    have:=a6U hwa hx hy h2 hxy
    rw [if_pos (by omega)];refine sR 900 ?_;refine rtI ?_;exact a0a rfl IsPure.out
   ·have hxy0:¬ x<y:=by
     have:=of_decide_eq_false h31
     omega
    refine skI ?_;refine OkS.seq ?_;refine OkS.regD w1 1000 [0,1,2,3,4,5,6,7] [8] (by kernel_rfl) ?_;refine gwI kN ?_;refine ixI kT hx' ?_;refine gwI kN ?_;refine ixI kT hy' ?_;refine gwI kN ?_;refine gwI kN ?_;refine ifI ?_
    (refine brI (fun h40=>?_) (fun h40=>?_))<;>(try simp only [Bool.not_eq_true',Bool.not_eq_false'] at h40)<;>(try simp only [h40])
    ·have hxy:y<x:=by
      have:=of_decide_eq_true h40
      omega
     have:=a6U hwb hy hx h2.symm hxy
     rw [if_neg (by omega),if_pos (by omega)];refine sR 1100 ?_;refine rtI ?_;exact a0a rfl IsPure.out
    ·have hxy:x=y:=by
      have:=of_decide_eq_false h40
      omega
     subst hxy;have w5:IntKind.i64.wrap ((j:Int) - 1)=(j:Int) - 1:=wI (by omega) (by omega);refine skI ?_;refine OkS.reg w1 700 (by kernel_rfl) ?_;refine nwI w5 ?_;have hj:=(List.getElem?_eq_some_iff.1 hx)
     have hj':=(List.getElem?_eq_some_iff.1 hy)
     refine ⟨(j,_),⟨by dsimp only;omega,?_⟩,by dsimp only;omega,wkI⟩;dsimp only;rw [List.drop_eq_getElem_cons hj.1,List.drop_eq_getElem_cons hj'.1,hj.2,hj'.2,h2]
  ·have hk:k=0:=by
    have:¬ ((k:Int) - 1≥0):=by simpa using h20
    omega
   subst hk;have hab:a=b:=by
    rw [← va,← vb]
    have:la=lb:=by simpa using h2
    rw [this]
   subst hab;rw [if_neg (by omega),if_neg (by omega)];refine exI ?_;refine sR 1200 ?_;refine rtI ?_;exact a0a rfl IsPure.out
theorem a5z (l:List Nat)(i:Nat):a0g (l.take (i+1))=a0g (l.take i)+RB^i*l.getD i 0:=by
 by_cases h:i<l.length
 ·obtain ⟨a,ha⟩:=a2Z h
  rw [a0O ha,a0P (i:=i) (by rw [List.length_take];omega),List.getD_eq_getElem?_getD,ha];rfl
 ·rw [List.take_of_length_le (by omega),List.take_of_length_le (by omega),List.getD_eq_getElem?_getD,List.getElem?_eq_none (by omega)]
  simp
theorem a8E {l:List Nat}(h:Rd l)(i:Nat):l.getD i 0<RB:=by
 by_cases hi:i<l.length
 ·obtain ⟨a,ha⟩:=a2Z hi
  rw [List.getD_eq_getElem?_getD,ha];exact h a (List.mem_of_getElem? ha)
 ·rw [List.getD_eq_getElem?_getD,List.getElem?_eq_none (by omega)];decide
theorem b2x (l:List Nat)(i:Nat):a0g (l.take i)≤a0g l:=by
 conv=>rhs;rw [← List.take_append_drop i l]
 rw [a0Y];exact Nat.le_add_right _ _
theorem b0b {a i:Nat}(h:i<(a0o a).length):RB^i≤a:=by
 obtain ⟨k,hk⟩:∃ k,(a0o a).length=k+1:=⟨(a0o a).length - 1,by omega⟩
 exact Nat.le_trans (Nat.pow_le_pow_right (by decide) (by omega)) (a6C hk)
structure b1s (a b:Nat)(i c:Nat)(out:List Nat):Prop where
 len:out.length=i
 wd:Rd out
 c1:c≤1
 val:a0g out+RB^i*c=a0g ((a0o a).take i)+a0g ((a0o b).take i)
 can:i=0∨RB^(i - 1)≤a+b
theorem c0C {a b i c:Nat}{out:List Nat}(I:b1s a b i c out)(h:i<(a0o a).length∨i<(a0o b).length∨0<c) :
  b1s a b (i+1) (((a0o a).getD i 0+(a0o b).getD i 0+c) / RB) (out++[((a0o a).getD i 0+(a0o b).getD i 0+c)%RB])∧(a0o a).getD i 0+(a0o b).getD i 0+c<2*RB:=by
 obtain ⟨len,wd,c1,val,can⟩:=I;have h1:=a8E (a0z a) i;have h2:=a8E (a0z b) i;have hs:(a0o a).getD i 0+(a0o b).getD i 0+c<2*RB:=by omega
 have e1:=a5z (a0o a) i;have e2:=a5z (a0o b) i;have ta:=b2x (a0o a) i;have tb:=b2x (a0o b) i;rw [a0q] at ta tb;refine ⟨⟨by rw [List.length_append,len];rfl,Rd.append wd fun x hx=>?_,?_,?_,.inr ?_⟩,hs⟩
 ·simp only [List.mem_cons,List.not_mem_nil,or_false] at hx
  subst hx;exact Nat.mod_lt _ (by decide)
 ·exact Nat.le_of_lt_succ (Nat.div_lt_of_lt_mul (by rw [Nat.mul_comm];exact hs))
 ·rw [a0P len,e1,e2,Nat.pow_succ,Nat.mul_assoc]
  have e:=Nat.mod_add_div ((a0o a).getD i 0+(a0o b).getD i 0+c) RB;generalize (a0o a).getD i 0=p at *;generalize (a0o b).getD i 0=q at *;have e3:RB^i*((p+q+c)%RB+RB*((p+q+c) / RB))=RB^i*(p+q+c):=by rw [e]
  rw [Nat.mul_add,Nat.mul_add,Nat.mul_add (RB^i) p] at e3;omega
 ·rw [Nat.add_sub_cancel]
  rcases h with h|h|h
  ·have:=b0b h;omega
  ·have:=b0b h;omega
  ·have hc:c=1:=by omega
   subst hc;rw [Nat.mul_one] at val;omega
theorem c0B {a b i:Nat}{out:List Nat}(I:b1s a b i 0 out)(h1:¬ i<(a0o a).length)(h2:¬ i<(a0o b).length):out=a0o (a+b):=by
 obtain ⟨len,wd,c1,val,can⟩:=I;rw [List.take_of_length_le (by omega),List.take_of_length_le (by omega),a0q,a0q,Nat.mul_zero,Nat.add_zero] at val;rcases List.eq_nil_or_concat out with rfl|⟨m,c,rfl⟩
 ·rw [← val];unfold a0o;rfl
 ·rw [List.concat_eq_append] at *
  rw [List.length_append,List.length_singleton] at len;have hc:c≠0:=by
   intro hc;subst hc;rcases can with h|h
   ·omega
   ·rw [b3K] at val
    have:=a1c (l:=m) fun x hx=>wd x (List.mem_append_left _ hx)
    rw [show i - 1=m.length by omega] at h;omega
  rw [← val,b9k wd hc]
theorem d2M (a b:Nat)(ha:(a0o a).length<1000000)(hb:(a0o b).length<1000000):a0b C0 166 [rD a,rD b] (rD (a+b)):=by
 refine a0c.walk w1 c8L rfl fun F=>?_
 have hT:Fz [] [] (rD a) (rD a):=.refl _;change OkS C0 F none F _ ⟨a1h 0 [.sl false 1 ((a0o a).map a0p),.sl false 1 ((a0o b).map a0p)],[],0⟩ _;have ea:((((a0o a).map a0p).length:Nat):Int)=((a0o a).length:Int):=by rw [List.length_map]
 have eb:((((a0o b).map a0p).length:Nat):Int)=((a0o b).length:Int):=by rw [List.length_map]
 have I0:b1s a b 0 0 []:=⟨rfl,(fun x hx=>absurd hx List.not_mem_nil),Nat.zero_le _,by simp [a0g],.inl rfl⟩
 refine sR 0 ?_;refine sR 100 ?_;refine sR 200 ?_;refine OkS.seq ?_;refine sR 300 ?_;refine OkS.block ?_;refine OkS.loop (α:=Nat × Nat × List Nat × List D × Nat × Nat) (fun p=>⟨[(0,.sl false 1 ((a0o a).map a0p)),(1,.sl false 1 ((a0o b).map a0p)),(5,a7a 704 p.2.2.2.2.1 1 p.2.2.2.1),(6,a0p p.2.1),(7,a0p p.1)],a6g 704 p.2.2.2.2.1 3 1 p.2.2.2.1,p.2.2.2.2.2⟩)
  (fun p=>(max (a0o a).length (a0o b).length - p.1)*2+p.2.1) (fun p=>b1s a b p.1 p.2.1 p.2.2.1∧p.2.2.2.1=p.2.2.1.map a0p∧p.1≤max (a0o a).length (a0o b).length+1) (0,0,[],[],0,_) ⟨I0,rfl,Nat.zero_le _⟩ wkI ?_
 rintro ⟨i,c,out,L,g,n⟩ F ⟨I,hL,hi⟩;dsimp only at I hL hi ⊢;have c1:=I.c1;have hol:=I.len;refine OkS.seq ?_;refine OkS.seqX (α:=Nat) (fun n=>⟨[(0,.sl false 1 ((a0o a).map a0p)),(1,.sl false 1 ((a0o b).map a0p)),(5,a7a 704 g 1 L),(6,a0p c),(7,a0p i),(22,boo (decide (i<(a0o a).length∨i<(a0o b).length∨0<c)))],a6g 704 g 3 1 L,n⟩) (fun _=>True) ?_ ?_
 ·generalize a7a 704 g 1 L=od at *
  generalize a6g 704 g 3 1 L=oh at *
  by_cases h1:i<(a0o a).length
  ·have e1:decide ((i:Int)<((a0o a).length:Int))=true:=decide_eq_true (by omega)
   have e:decide (i<(a0o a).length∨i<(a0o b).length∨0<c)=true:=decide_eq_true (.inl h1);rw [e];refine OkS.reg w1 400 (by kernel_rfl) ?_;refine nwI (ff2 ea e1) ?_;refine gwI kT ?_;refine gwI kT ?_;exact ⟨trivial,_,trivial,wkI⟩
  ·have e1:decide ((i:Int)<((a0o a).length:Int))=false:=decide_eq_false (by omega)
   by_cases h2:i<(a0o b).length
   ·have e2:decide ((i:Int)<((a0o b).length:Int))=true:=decide_eq_true (by omega)
    have e:decide (i<(a0o a).length∨i<(a0o b).length∨0<c)=true:=decide_eq_true (.inr (.inl h2));rw [e];refine OkS.reg w1 400 (by kernel_rfl) ?_;refine nwI (ff2 ea e1) ?_;refine gwI kF ?_;simp only [eb,e2];refine gwI kT ?_;exact ⟨trivial,_,trivial,wkI⟩
   ·have e2:decide ((i:Int)<((a0o b).length:Int))=false:=decide_eq_false (by omega)
    have e:decide ((c:Int)>0)=decide (i<(a0o a).length∨i<(a0o b).length∨0<c):=by rw [decide_eq_decide];omega
    rw [← e];refine OkS.reg w1 400 (by kernel_rfl) ?_;refine nwI (ff2 ea e1) ?_;refine gwI kF ?_;simp only [eb,e2];refine gwI kF ?_;exact ⟨trivial,_,trivial,wkI⟩
 rintro n2 -
 by_cases h:i<(a0o a).length∨i<(a0o b).length∨0<c
 ·obtain ⟨J,hs⟩:=c0C I h
  have d1:=b3i (a0o a) i (by omega) (by omega);have d2:=b3i (a0o b) i (by omega) (by omega);unfold rL at d1 d2;have hmu:∀ c',c'≤1→(max (a0o a).length (a0o b).length≤i→c'=0)→(max (a0o a).length (a0o b).length - (i+1))*2+c'<(max (a0o a).length (a0o b).length - i)*2+c:=fun c' h1 h2=>by
   rcases Nat.lt_or_ge i (max (a0o a).length (a0o b).length) with h3|h3
   ·omega
   ·have:=h2 h3;omega
  have hmu2:max (a0o a).length (a0o b).length≤i→((a0o a).getD i 0+(a0o b).getD i 0+c) / RB=0:=fun h3=>by
   rw [List.getD_eq_getElem?_getD,List.getElem?_eq_none (by omega),List.getD_eq_getElem?_getD,List.getElem?_eq_none (by omega)];show (0+0+c) / 1000000000=0;omega
  have hbnd:i<max (a0o a).length (a0o b).length+1:=by
   rcases h with h|h|h
   ·omega
   ·omega
   ·rcases Nat.lt_or_ge i (max (a0o a).length (a0o b).length+1) with h3|h3
    ·exact h3
    ·exfalso
     obtain ⟨len,wd,_,val,_⟩:=I;have hc:c=1:=by omega
     subst hc;rw [List.take_of_length_le (by omega),List.take_of_length_le (by omega),a0q,a0q,Nat.mul_one] at val;have l1:=a1z a;have l2:=a1z b;have m1:RB^(a0o a).length≤RB^max (a0o a).length (a0o b).length:=Nat.pow_le_pow_right (by decide) (Nat.le_max_left _ _);have m2:RB^(a0o b).length≤RB^max (a0o a).length (a0o b).length:=Nat.pow_le_pow_right (by decide) (Nat.le_max_right _ _);have m3:RB^(max (a0o a).length (a0o b).length+1)≤RB^i:=Nat.pow_le_pow_right (by decide) h3;rw [Nat.pow_succ] at m3;generalize RB^max (a0o a).length (a0o b).length=Q at *;change Q*1000000000≤_ at m3;omega
  have hmu3:=hmu _ J.c1 hmu2;rw [decide_eq_true h];generalize hp:(a0o a).getD i 0=p at *;generalize hq:(a0o b).getD i 0=q at *;have k1:IntKind.i64.wrap ((p:Int)+(q:Int))=((p+q:Nat):Int):=by rw [wI (by omega) (by unfold RB at hs;omega)];omega
  have k2:IntKind.i64.wrap (((p+q:Nat):Int)+(c:Int))=((p+q+c:Nat):Int):=by rw [wI (by omega) (by unfold RB at hs;omega)];omega
  have k3:((p+q+c:Nat):Int).tmod 1000000000=(((p+q+c)%RB:Nat):Int):=rfl;have k4:IntKind.i64.wrap (((p+q+c:Nat):Int).tdiv 1000000000)=(((p+q+c) / RB:Nat):Int):=by
   show IntKind.i64.wrap ((((p+q+c) / 1000000000:Nat)):Int)=_;exact wN (by unfold RB at hs;omega)
  have wi:IntKind.i64.wrap ((i:Int)+1)=((i+1:Nat):Int):=wI (by omega) (by omega);generalize (p+q+c)%RB=d at *;generalize (p+q+c) / RB=c' at *;have hlo:L.length≤1000001:=by rw [hL,List.length_map];omega
  have hmo:L++[a0p d]=(out++[d]).map a0p:=by rw [hL,List.map_append];rfl
  clear hmu hmu2 ea eb hL I;refine ifI ?_;refine skI ?_;refine OkS.seq ?_;refine OkS.block ?_;refine sR 600 ?_;refine cI d1 ?_;refine cI d2 ?_;simp only [k1,k2];refine OkS.seq ?_;rcases L with _|⟨x,L⟩
  all_goals
   (try simp only [List.length_cons] at hlo)
   dsimp only [a1A,a1B,a1j,a1k];refine OkS.reg w1 700 (by kernel_rfl) ?_;refine nwI k3 ?_;refine OkS.reg w1 800 (by kernel_rfl) ?_;refine nwI k4 ?_;refine OkS.reg w1 500 (by kernel_rfl) ?_;refine nwI wi ?_
  ·exact ⟨(i+1,c',out++[d],[]++[a0p d],_,_),⟨J,hmo,hbnd⟩,hmu3,wkI⟩
  ·have htk:List.take (L.length+1) (x::L)=x::L:=by simp
   rw [htk];refine ⟨(i+1,c',out++[d],x::L++[a0p d],_,_),⟨J,hmo,hbnd⟩,hmu3,by (dsimp only;rw [a2e];exact wkI)⟩
 ·rw [decide_eq_false h]
  have hc:c=0:=by omega
  subst hc;have hout:=c0B I (by omega) (by omega);refine ifI ?_;refine exI ?_;refine sR 900 ?_;refine rtI ?_;refine ⟨_,a6L _ _ _ _ _,?_,?_⟩
  ·rw [hL];exact a8C _
  ·rw [hL,hout];rfl
set_option maxHeartbeats 4000000
theorem d2n {env:Env}{t K g T n:Nat}{l:List D}(he:env.get t=a7a K g 1 l:=by exact rfl):Wk ⟨env,a6g K g T 1 l,n⟩ ⟨[(t,.sl false 1 l)],[],n⟩:=by
 refine ⟨?_,⟨?_,trivial⟩,Nat.le_refl _⟩
 ·cases l with
  | nil=>exact .nil
  | cons x l=>exact .drop .nil
 ·dsimp only
  rw [he];exact a6L _ _ _ _ _
theorem c7d {env:Env}{t K g n N:Nat}{z:List Nat}{T:Nat}(hl:z.length=N)(he:env.get t=.osl K g 1 0 N:=by exact rfl):Wk ⟨env,[⟨K,g,T,1,z.map a0p⟩],n⟩ ⟨[(t,.sl false 1 (z.map a0p))],[],n⟩:=by
 subst hl;refine ⟨.drop .nil,⟨?_,trivial⟩,Nat.le_refl _⟩;dsimp only;rw [he]
 have:=b1T K g T 1 (z.map a0p)
 rwa [List.length_map] at this
theorem b3L {a v c:Nat}(ha:a<RB)(hv:v<RB)(hc:c≤1):∃ d c',d<RB∧c'≤1∧d+v+c=a+RB*c'∧((c'=0∧(a:Int) - v - c=d)∨(c'=1∧(a:Int) - v - c<0∧(a:Int) - v - c+1000000000=d)):=by
 unfold RB at ha hv ⊢
 by_cases h:a<v+c
 ·exact ⟨a+1000000000 - v - c,1,by omega,by omega,by omega,.inr ⟨rfl,by omega,by omega⟩⟩
 ·exact ⟨a - v - c,0,by omega,by omega,by omega,.inl ⟨rfl,by omega⟩⟩
theorem d2f (a b:Nat)(hab:b≤a)(ha:(a0o a).length<1000000):a0b C0 168 [rD a,rD b] (rD (a - b)):=by
 refine a0c.walk w1 c8N rfl fun F=>?_
 change OkS C0 F none F _ ⟨a1h 0 [.sl false 1 ((a0o a).map a0p),.sl false 1 ((a0o b).map a0p)],[],0⟩ _;have hlb:=a0B b a hab;have va:=a0q a;have vb:=a0q b;have wx:=a0z a;have wy:=a0z b;generalize a0o a=x at *;generalize a0o b=y at *;have ea:(((x.map a0p).length:Nat):Int)=(x.length:Int):=by rw [List.length_map]
 refine sR 0 ?_;refine sR 100 ?_;refine sR 200 ?_;refine OkS.seq ?_;refine sR 300 ?_;refine OkS.block ?_;refine OkS.loop (α:=Nat × Nat × List Nat × List D × Nat × Nat) (fun p=>⟨[(0,.sl false 1 (x.map a0p)),(1,.sl false 1 (y.map a0p)),(5,a7a 1103 p.2.2.2.2.1 1 p.2.2.2.1),(6,a0p p.2.1),(7,a0p p.1)],a6g 1103 p.2.2.2.2.1 3 1 p.2.2.2.1,p.2.2.2.2.2⟩)
  (fun p=>x.length - p.1) (fun p=>p.1≤x.length∧p.2.1≤1∧p.2.2.1.length=p.1∧Rd p.2.2.1∧a0g p.2.2.1+a0g (y.take p.1)=a0g (x.take p.1)+RB^p.1*p.2.1∧p.2.2.2.1=p.2.2.1.map a0p) (0,0,[],[],0,_) ⟨Nat.zero_le _,Nat.zero_le _,rfl,(fun x hx=>absurd hx List.not_mem_nil),by simp [a0g],rfl⟩ wkI ?_
 rintro ⟨i,c,out,L,g,n⟩ F ⟨hi,hc,hol,how,hI,hL⟩;dsimp only at hi hc hol how hI hL ⊢;refine OkS.seq ?_;refine OkS.seq ?_
 by_cases h:i<x.length
 ·have e1:decide ((i:Int)<(x.length:Int))=true:=decide_eq_true (by omega)
  obtain ⟨p,hp⟩:=a2Z h;have hx:=a6T hp;have hpl:=wx p (List.mem_of_getElem? hp);have d2:=b3i y i (by omega) (by omega);unfold rL at d2;have hql:=a8E wy i;have ty:=a5z y i;have tx:a0g (x.take (i+1))=a0g (x.take i)+RB^i*p:=by rw [a0O hp,a0P (i:=i) (by rw [List.length_take];omega)]
  generalize y.getD i 0=q at *;obtain ⟨d,c',hd,hc',hdig,hcase⟩:=b3L hpl hql hc;have k1:IntKind.i64.wrap ((p:Int) - (q:Int))=(p:Int) - q:=wI (by unfold RB at *;omega) (by unfold RB at *;omega);have k2:IntKind.i64.wrap ((p:Int) - q - (c:Int))=(p:Int) - q - c:=wI (by unfold RB at *;omega) (by unfold RB at *;omega);have wi:IntKind.i64.wrap ((i:Int)+1)=((i+1:Nat):Int):=wI (by omega) (by omega);have hlo:L.length≤1000001:=by rw [hL,List.length_map];omega
  have hmo:L++[a0p d]=(out++[d]).map a0p:=by rw [hL,List.map_append];rfl
  have hvn:a0g (out++[d])+a0g (y.take (i+1))=a0g (x.take (i+1))+RB^(i+1)*c':=by
   rw [a0P hol,ty,tx,Nat.pow_succ,Nat.mul_assoc];have e3:RB^i*(d+q+c)=RB^i*(p+RB*c'):=by rw [hdig]
   rw [Nat.mul_add,Nat.mul_add,Nat.mul_add (RB^i) p] at e3;omega
  have how':Rd (out++[d]):=Rd.append how fun x hx=>by
   simp only [List.mem_cons,List.not_mem_nil,or_false] at hx;subst hx;exact hd
  have hol':(out++[d]).length=i+1:=by rw [List.length_append,hol];rfl
  clear hI hL how;refine OkS.reg w1 400 (by kernel_rfl) ?_;refine nwI (ff2 ea e1) ?_;refine ifI ?_;refine skI ?_;refine OkS.seq ?_;refine OkS.block ?_;refine OkS.seq ?_;refine OkS.regD w1 600 [0,1,2,3,4,5,6,7,8] [9,10] (by kernel_rfl) ?_;refine gwI kN ?_;refine ixI kT hx ?_;refine gwI kN ?_;refine a0n.same _ d2 inferInstance ?_;refine gwI (ff2 k1 k2) ?_;refine sR 700 ?_;refine OkS.seqX (α:=Nat) (fun n=>⟨[(0,.sl false 1 (x.map a0p)),(1,.sl false 1 (y.map a0p)),(5,a7a 1103 g 1 L),(6,a0p c'),(7,a0p i),(8,a0p d)],a6g 1103 g 3 1 L,n⟩) (fun _=>True) ?_ ?_
  ·generalize a7a 1103 g 1 L=od at *
   generalize a6g 1103 g 3 1 L=oh at *;refine OkS.seq ?_;rcases hcase with ⟨rfl,h2⟩|⟨rfl,h2,h3⟩
   ·have e2:decide ((p:Int) - q - c<0)=false:=decide_eq_false (by omega)
    rw [h2] at e2;rw [h2];refine OkS.reg w1 800 (by kernel_rfl) ?_;refine nwI e2 ?_;refine ifI ?_;refine skI ?_;exact ⟨rfl,_,trivial,wkI⟩
   ·have e2:decide ((p:Int) - q - c<0)=true:=decide_eq_true h2
    have k3:IntKind.i64.wrap ((p:Int) - q - c+1000000000)=(d:Int):=by rw [h3];exact wI (by unfold RB at *;omega) (by unfold RB at *;omega)
    refine OkS.reg w1 800 (by kernel_rfl) ?_;refine nwI e2 ?_;refine ifI ?_;refine sZ 900 ?_;refine nwI k3 ?_;refine rI 1000 ?_;exact ⟨rfl,_,trivial,wkI⟩
  rintro n3 -;rcases L with _|⟨x0,L⟩
  all_goals
   (try simp only [List.length_cons] at hlo)
   dsimp only [a1A,a1B,a1j,a1k];refine rI 1100 ?_;refine OkS.reg w1 500 (by kernel_rfl) ?_;refine nwI wi ?_
  ·exact ⟨(i+1,c',out++[d],[]++[a0p d],_,_),⟨h,hc',hol',how',hvn,hmo⟩,by dsimp only;omega,wkI⟩
  ·have htk:List.take (L.length+1) (x0::L)=x0::L:=by simp
   rw [htk];refine ⟨(i+1,c',out++[d],x0::L++[a0p d],_,_),⟨h,hc',hol',how',hvn,hmo⟩,by dsimp only;omega,by (dsimp only;rw [a2e];exact wkI)⟩
 ·have e1:decide ((i:Int)<(x.length:Int))=false:=decide_eq_false (by omega)
  have hix:i=x.length:=by omega
  subst hix;rw [List.take_of_length_le (by omega),List.take_of_length_le (by omega),va,vb] at hI;have hlt:=a1c how;rw [hol] at hlt;have hxl:=a1c wx;rw [va] at hxl;have hov:a0g out=a - b:=by
   rcases Nat.eq_zero_or_pos c with h|h
   ·subst h;rw [Nat.mul_zero] at hI;omega
   ·have:c=1:=by omega
    subst this;rw [Nat.mul_one] at hI;omega
  refine OkS.reg w1 400 (by kernel_rfl) ?_;refine nwI (ff2 ea e1) ?_;refine ifI ?_;refine exI ?_;refine OkS.weak ⟨[(5,.sl false 1 L)],[],_⟩ d2n ?_;rw [hL];refine sR 1200 ?_;refine a0l.same _ (a9b out how (by omega)) inferInstance ?_;refine stI ?_;refine rtI ?_;exact a0a (by rw [hov]) IsPure.out
theorem c6b (a b:Nat)(hla:(a0o a).length<1000000)(hlb:(a0o b).length<1000000):a0b C0 169 [rD a,rD b] (rD (a*b)):=by
 refine a0c.walk w1 c8O rfl fun F=>?_
 change OkS C0 F none F _ ⟨a1h 0 [.sl false 1 ((a0o a).map a0p),.sl false 1 ((a0o b).map a0p)],[],0⟩ _;have va:=a0q a;have vb:=a0q b;have ha:=a0z a;have hb:=a0z b;generalize a0o a=x at *;generalize a0o b=y at *;subst va;subst vb;have ea:(((x.map a0p).length:Nat):Int)=(x.length:Int):=by rw [List.length_map]
 have eb:(((y.map a0p).length:Nat):Int)=(y.length:Int):=by rw [List.length_map]
 have wl:IntKind.i64.wrap ((x.length:Int)+(y.length:Int))=((x.length+y.length:Nat):Int):=by rw [wI (by omega) (by omega)];omega
 have r3:List.replicate (x.length+y.length) (ofV (.int .i64 0))=(List.replicate (x.length+y.length) 0).map a0p:=by rw [List.map_replicate];rfl
 refine sR 0 ?_;refine sZ 100 ?_;refine nwI (ff4 ea eb wl kN) ?_;refine OkS.seq ?_;refine sR 200 ?_;refine OkS.block ?_;refine OkS.loop (α:=Nat × List Nat × Nat) (fun p=>⟨[(0,.sl false 1 (x.map a0p)),(1,.sl false 1 (y.map a0p)),(5,.osl 105 6 1 0 (x.length+y.length)),(6,i64 p.1)],[⟨105,6,3,1,p.2.1.map a0p⟩],p.2.2⟩) (fun p=>x.length - p.1)
  (fun p=>p.1≤x.length∧p.2.1.length=x.length+y.length∧Rd p.2.1∧a0g p.2.1=a0g (x.take p.1)*a0g y∧∀ k,p.1+y.length≤k→∀ d,p.2.1[k]? = some d→d=0) (0,List.replicate (x.length+y.length) 0,_)
  ⟨Nat.zero_le _,by simp,a6D _,by simp [a0g,a6V],fun k _ d hd=>List.eq_of_mem_replicate (List.mem_of_getElem? hd)⟩ (by rw [← r3];exact wkI) ?_
 rintro ⟨i,o,m⟩ F ⟨h1,h2,h3,h4,h5⟩;dsimp only at h1 h2 h3 h4 h5 ⊢;refine OkS.seq ?_;refine OkS.seq ?_
 by_cases hi:i<x.length
 ·have e1:decide ((i:Int)<(x.length:Int))=true:=decide_eq_true (by omega)
  obtain ⟨p,hp⟩:=a2Z hi;have hp':=a6T hp;have hpl:p<RB:=ha p (List.mem_of_getElem? hp);have wi:IntKind.i64.wrap ((i:Int)+1)=((i+1:Nat):Int):=wI (by omega) (by omega);have hax:a0g (x.take (i+1))=a0g (x.take i)+RB^i*p:=by rw [a0O hp,a0P (i:=i) (by rw [List.length_take];omega)]
  refine OkS.reg w1 300 (by kernel_rfl) ?_;refine nwI (ff2 ea e1) ?_;refine ifI ?_;refine skI ?_;refine OkS.seq ?_;refine OkS.block ?_;refine sR 500 ?_;refine OkS.seq ?_;refine sR 600 ?_;refine OkS.block ?_;refine OkS.loop (α:=Nat × Nat × List Nat × Nat) (fun q=>⟨[(0,.sl false 1 (x.map a0p)),(1,.sl false 1 (y.map a0p)),(5,.osl 105 6 1 0 (x.length+y.length)),(6,i64 i),(7,a0p q.2.1),(8,i64 q.1)],[⟨105,6,3,1,q.2.2.1.map a0p⟩],q.2.2.2⟩) (fun q=>y.length - q.1)
   (fun q=>q.1≤y.length∧q.2.1<RB∧q.2.2.1.length=x.length+y.length∧Rd q.2.2.1∧a0g q.2.2.1+RB^(i+q.1)*q.2.1=a0g (x.take i)*a0g y+RB^i*p*a0g (y.take q.1)∧∀ k,i+y.length≤k→∀ d,q.2.2.1[k]? = some d→d=0) (0,0,o,_)
   ⟨Nat.zero_le _,(show 0<RB by decide),h2,h3,by simp [a0g,h4],h5⟩ wkI ?_
  rintro ⟨j,c,q,m2⟩ F ⟨g1,g2,g3,g4,g5,g6⟩;dsimp only at g1 g2 g3 g4 g5 g6 ⊢;clear h2 h3 h4 h5 r3 wl;refine OkS.seq ?_;refine OkS.seq ?_
  by_cases hj:j<y.length
  ·have e2:decide ((j:Int)<(y.length:Int))=true:=decide_eq_true (by omega)
   obtain ⟨r,hr⟩:=a2Z hj;have hr':=a6T hr;have hrl:r<RB:=hb r (List.mem_of_getElem? hr);obtain ⟨z,hz⟩:=a2Z (l:=q) (i:=i+j) (by omega);have hz':=a6T hz;have hzl:z<RB:=g4 z (List.mem_of_getElem? hz);have wj:IntKind.i64.wrap ((j:Int)+1)=((j+1:Nat):Int):=wI (by omega) (by omega);have wij:IntKind.i64.wrap ((i:Int)+(j:Int))=((i+j:Nat):Int):=by rw [wI (by omega) (by omega)];omega
   have hbx:a0g (y.take (j+1))=a0g (y.take j)+RB^j*r:=by rw [a0O hr,a0P (i:=j) (by rw [List.length_take];omega)]
   have hpr:p*r≤999999999*999999999:=Nat.mul_le_mul (by unfold RB at hpl;omega) (by unfold RB at hrl;omega);have k0:IntKind.i64.wrap ((p:Int)*(r:Int))=((p*r:Nat):Int):=by rw [← Int.natCast_mul,wI (by omega) (by omega)]
   have k1:IntKind.i64.wrap ((z:Int)+((p*r:Nat):Int))=((z+p*r:Nat):Int):=by rw [wI (by omega) (by unfold RB at *;omega)];omega
   have k2:IntKind.i64.wrap (((z+p*r:Nat):Int)+(c:Int))=((z+p*r+c:Nat):Int):=by rw [wI (by omega) (by unfold RB at *;omega)];omega
   have hs:=a3F (d:=(z+p*r+c)%RB) hz;have e:=Nat.mod_add_div (z+p*r+c) RB;have hq:(z+p*r+c) / RB<RB:=Nat.div_lt_of_lt_mul (by unfold RB at *;omega);have hd:(z+p*r+c)%RB<RB:=Nat.mod_lt _ (by decide);have k3:((z+p*r+c:Nat):Int).tmod 1000000000=(((z+p*r+c)%RB:Nat):Int):=rfl;have k4:IntKind.i64.wrap (((z+p*r+c:Nat):Int).tdiv 1000000000)=(((z+p*r+c) / RB:Nat):Int):=by
    show IntKind.i64.wrap ((((z+p*r+c) / 1000000000:Nat)):Int)=_;exact wN (by change (z+p*r+c) / RB≤_;unfold RB at hq ⊢;omega)
   have hval:a0g (q.set (i+j) ((z+p*r+c)%RB))+RB^(i+(j+1))*((z+p*r+c) / RB)=a0g (x.take i)*a0g y+RB^i*p*a0g (y.take (j+1)):=by
    rw [hbx,Nat.mul_add,← Nat.add_assoc (a0g (x.take i)*a0g y),← g5];have h6:RB^(i+j)*((z+p*r+c)%RB)+RB^(i+(j+1))*((z+p*r+c) / RB)=RB^i*p*(RB^j*r)+RB^(i+j)*z+RB^(i+j)*c:=by
     have:RB^i*p*(RB^j*r)=RB^(i+j)*(p*r):=by
      rw [Nat.pow_add,Nat.mul_assoc,Nat.mul_assoc,Nat.mul_left_comm p]
     rw [this,← Nat.add_assoc i j 1,Nat.pow_succ,Nat.mul_assoc,← Nat.mul_add,← Nat.mul_add,← Nat.mul_add,e]
     congr 1;omega
    omega
   generalize (z+p*r+c)%RB=d at *;generalize (z+p*r+c) / RB=c' at *;clear hs e g5 hax hbx;refine OkS.reg w1 700 (by kernel_rfl) ?_;refine nwI (ff2 eb e2) ?_;refine ifI ?_;refine skI ?_;refine OkS.seq ?_;refine OkS.block ?_;refine OkS.seq ?_;refine OkS.regD w1 900 [0,1,2,3,4,5,6,7,8,9,10,11,12,13,14,15,16] [17,18] (by kernel_rfl) ?_;refine gwI (ff4 wij kN Nat.zero_add hz') ?_;refine ixI kT hp' ?_;refine gwI (ff4 wij kN Nat.zero_add hz') ?_;refine ixI kT hr' ?_;refine gwI (ff3 k0 k1 k2) ?_;refine sZ 1000 ?_;refine gwI (ff5 wij kN Nat.zero_add hz' k3) ?_;rw [b0c];refine OkS.reg w1 1100 (by kernel_rfl) ?_;refine nwI k4 ?_;refine OkS.reg w1 800 (by kernel_rfl) ?_;refine nwI wj ?_;refine ⟨(j+1,c',q.set (i+j) d,_),⟨hj,hq,by dsimp only;rw [List.length_set];exact g3,g4.set hd,hval,fun k hk d hd=>?_⟩,by dsimp only;omega,wkI⟩;dsimp only at hk hd;rw [List.getElem?_set_ne (by omega)] at hd;exact g6 k hk d hd
  ·have e2:decide ((j:Int)<(y.length:Int))=false:=decide_eq_false (by omega)
   have hj:j=y.length:=by omega
   subst hj;obtain ⟨z,hz⟩:=a2Z (l:=q) (i:=i+y.length) (by omega);have hz0:z=0:=g6 _ (Nat.le_refl _) _ hz;subst hz0;have hz':=a6T hz;have wij:IntKind.i64.wrap ((i:Int)+(y.length:Int))=((i+y.length:Nat):Int):=by rw [wI (by omega) (by omega)];omega
   have wij0:IntKind.i64.wrap ((i:Int)+(((y.map a0p).length:Nat):Int))=((i+y.length:Nat):Int):=by rw [eb];exact wij
   have k1:IntKind.i64.wrap (((0:Nat):Int)+(c:Int))=(c:Int):=by rw [wI (by omega) (by unfold RB at *;omega)];omega
   have hs:=a3F (d:=c) hz;rw [List.take_of_length_le (Nat.le_refl _)] at g5;have hval:a0g (q.set (i+y.length) c)=a0g (x.take (i+1))*a0g y:=by
    rw [hax,Nat.add_mul];omega
   clear hs g5 hax;refine OkS.reg w1 700 (by kernel_rfl) ?_;refine nwI (ff2 eb e2) ?_;refine ifI ?_;refine exI ?_;refine OkS.reg w1 1200 (by kernel_rfl) ?_;refine gwI (ff6 eb wij kN Nat.zero_add hz' k1) ?_;rw [b0c];refine OkS.reg w1 400 (by kernel_rfl) ?_;refine nwI wi ?_;refine ⟨(i+1,q.set (i+y.length) c,_),⟨hi,by dsimp only;rw [List.length_set];exact g3,g4.set g2,hval,fun k hk d hd=>?_⟩,by dsimp only;omega,wkI⟩;dsimp only at hk hd;rw [List.getElem?_set_ne (by omega)] at hd;exact g6 k (by omega) d hd
 ·have e1:decide ((i:Int)<(x.length:Int))=false:=decide_eq_false (by omega)
  have hi:i=x.length:=by omega
  subst hi;rw [List.take_of_length_le (Nat.le_refl _)] at h4;refine OkS.reg w1 300 (by kernel_rfl) ?_;refine nwI (ff2 ea e1) ?_;refine ifI ?_;refine exI ?_;refine OkS.weak ⟨[(5,.sl false 1 (o.map a0p))],[],_⟩ (c7d h2) ?_;refine sR 1300 ?_;refine a0l.same _ (a9b o h3 (by omega)) inferInstance ?_;refine stI ?_;refine rtI ?_;exact a0a (by rw [h4]) IsPure.out
theorem c0a (a b:Nat)(h:a / b≤9223372036854775807):IntKind.i64.wrap ((a:Int).tdiv (b:Int))=((a / b:Nat):Int):=by
 rw [← Int.ofNat_tdiv];exact wN h
theorem c2w (a b:Nat):(a:Int).tmod (b:Int)=((a%b:Nat):Int):=(Int.ofNat_tmod a b).symm
theorem c2B {env:Env}{t K g n N t2:Nat}{z:List Nat}{T:Nat}{d2:D}(hl:z.length=N)(he:env.get t=.osl K g 1 0 N:=by exact rfl)(h2:env.get t2=d2:=by exact rfl):Wk ⟨env,[⟨K,g,T,1,z.map a0p⟩],n⟩ ⟨[(t,.sl false 1 (z.map a0p)),(t2,d2)],[],n⟩:=by
 subst hl;refine ⟨.drop .nil,⟨?_,?_,trivial⟩,Nat.le_refl _⟩
 ·dsimp only
  rw [he]
  have:=b1T K g T 1 (z.map a0p)
  rwa [List.length_map] at this
 ·dsimp only
  rw [h2];exact .refl _
theorem c2a {r p d:Nat}(h:r*RB+p<d*RB)(hd:d<RB):IntKind.i64.wrap ((r:Int)*1000000000)=((r*RB:Nat):Int)∧IntKind.i64.wrap (((r*RB:Nat):Int)+(p:Int))=((r*RB+p:Nat):Int):=by
 unfold RB at *;refine ⟨?_,?_⟩
 ·rw [wI (by omega) (by omega)];omega
 ·rw [wI (by omega) (by omega)];omega
theorem a9D (a d:Nat)(hd:0<d)(hdl:d<RB)(hl:(a0o a).length<1000000):a0b C0 217 [rD a,a0p d] (.tup [rD (a / d),a0p (a%d)]):=by
 refine a0c.walk w1 c9n rfl fun F=>?_
 change OkS C0 F none F _ ⟨a1h 0 [.sl false 1 ((a0o a).map a0p),a0p d],[],0⟩ _;have va:=a0q a;have wa:=a0z a;generalize a0o a=x at *;have ea:(((x.map a0p).length:Nat):Int)=(x.length:Int):=by rw [List.length_map]
 have wl:IntKind.i64.wrap ((x.length:Int) - 1)=(x.length:Int) - 1:=wI (by omega) (by omega);have r3:List.replicate x.length (ofV (.int .i64 0))=(List.replicate x.length 0).map a0p:=by rw [List.map_replicate];rfl
 have d0:¬ (d:Int)=0:=by omega
 refine sR 0 ?_;refine sZ 100 ?_;refine nwI (ff2 ea kN) ?_;refine sR 200 ?_;refine OkS.seq ?_;refine sZ 300 ?_;refine nwI (ff2 ea wl) ?_;refine OkS.block ?_;refine OkS.loop (α:=Nat × Nat × List Nat × Nat) (fun p=>⟨[(0,.sl false 1 (x.map a0p)),(1,a0p d),(6,.osl 102 4 1 0 x.length),(7,a0p p.2.1),(8,i64 ((p.1:Int) - 1))],[⟨102,4,3,1,p.2.2.1.map a0p⟩],p.2.2.2⟩) (fun p=>p.1)
  (fun p=>p.1≤x.length∧p.2.1<d∧p.2.2.1.length=x.length∧Rd p.2.2.1∧a0g (p.2.2.1.drop p.1)*d+p.2.1=a0g (x.drop p.1)) (x.length,0,List.replicate x.length 0,_)
  ⟨Nat.le_refl _,hd,by simp,a6D _,by simp [a0g]⟩ (by rw [← r3];exact wkI) ?_
 rintro ⟨k,r,q,m⟩ F ⟨h1,h2,h3,h4,h5⟩;dsimp only at h1 h2 h3 h4 h5 ⊢;clear ea wl r3;refine OkS.seq ?_;refine sR 400 ?_;refine ifI ?_
 (refine brI (fun h20=>?_) (fun h20=>?_))<;>(try simp only [Bool.not_eq_true',Bool.not_eq_false'] at h20)<;>(try simp only [h20])
 ·obtain ⟨j,rfl⟩:∃ j,k=j+1:=⟨k - 1,by
   have:=of_decide_eq_true h20
   omega⟩
  have wj:((j+1:Nat):Int) - 1=(j:Int):=by omega
  obtain ⟨p,hp⟩:=a2Z (l:=x) (i:=j) (by omega);obtain ⟨z,hz⟩:=a2Z (l:=q) (i:=j) (by omega);have hp':=a6T hp;have hz':=a6T hz;have hpl:=wa p (List.mem_of_getElem? hp);obtain ⟨J1,J2⟩:=b2w hd hp (by omega) h5;have hsb:r*RB+p<d*RB:=by
   have:(r+1)*RB≤d*RB:=Nat.mul_le_mul_right _ h2
   rw [Nat.add_mul] at this;omega
  have hql:(r*RB+p) / d<RB:=Nat.div_lt_of_lt_mul hsb;obtain ⟨k1,k2⟩:=c2a hsb hdl;have k3:=c0a (r*RB+p) d (Nat.le_trans (Nat.le_of_lt hql) (by decide));have k4:=c2w (r*RB+p) d;have wi:IntKind.i64.wrap ((j:Int) - 1)=(j:Int) - 1:=wI (by omega) (by omega);generalize (r*RB+p) / d=e at *;generalize (r*RB+p)%d=r' at *;rw [wj];refine skI ?_;refine OkS.seq ?_;refine OkS.block ?_;refine sZ 600 ?_;refine gwI kN ?_;refine ixI kT hp' ?_;refine gwI (ff2 k1 k2) ?_;refine sZ 700 ?_;refine gwI (ff4 kN Nat.zero_add hz' k3) ?_;rw [b0c];refine OkS.reg w1 800 (by kernel_rfl) ?_;refine nwI k4 ?_;refine OkS.reg w1 500 (by kernel_rfl) ?_;refine nwI wi ?_;exact ⟨(j,r',q.set j e,_),⟨by dsimp only;omega,J2,by dsimp only;rw [List.length_set];exact h3,h4.set hql,J1⟩,by dsimp only;omega,wkI⟩
 ·have hk:k=0:=by
   have:=of_decide_eq_false h20
   omega
  subst hk;rw [List.drop_zero,List.drop_zero,va] at h5;obtain ⟨q1,q2⟩:=a5Y h5 h2;refine exI ?_;refine OkS.weak ⟨[(6,.sl false 1 (q.map a0p)),(7,a0p r)],[],_⟩ (c2B h3) ?_;refine sR 900 ?_;refine a0l.same _ (a9b q h4 (by omega)) inferInstance ?_;refine stI ?_;refine rtI ?_;exact a0a (by rw [q1,q2]) IsPure.out
structure a5C (U V n2 v1 p1 q r:Nat):Prop where
 eq:q*v1+r=n2
 up:U<(q+1)*V
 cap:n2≤v1*RB+p1
 p1l:p1<RB
namespace a5C
variable {U V n2 v1 p1 q r:Nat} (G:a5C U V n2 v1 p1 q r)
include G
theorem small (h:RB≤r):q<RB:=by
 rcases Nat.lt_or_ge q RB with h1|h1
 ·exact h1
 ·exfalso
  have h2:=Nat.mul_le_mul_right v1 h1;have h3:=G.eq;have h4:=G.cap;have h5:=G.p1l;rw [Nat.mul_comm RB v1] at h2;omega
theorem qle (hv:0<v1):q≤2*RB:=by
 rcases Nat.lt_or_ge (2*RB) q with h1|h1
 ·exfalso
  have h2:=Nat.mul_le_mul_right v1 h1;have h3:=G.eq;have h4:=G.cap;have h5:=G.p1l;have h6:RB*1≤RB*v1:=Nat.mul_le_mul_left _ hv;rw [Nat.succ_mul,Nat.mul_assoc,Nat.mul_comm RB v1] at h2;rw [Nat.mul_comm RB v1] at h6;omega
 ·exact h1
end a5C
section
variable {P v:List Nat} {m p0 p1 p2 v2 v1:Nat} (S:b1v P v m p0 p1 p2 v2 v1)
include S
theorem b1X:a5C (a0g P) (a0g v) (p1+RB*p2) v1 p1 ((p2*RB+p1) / v1) ((p2*RB+p1)%v1):=by
 have c0:p2*RB+p1=p1+RB*p2:=by rw [Nat.mul_comm,Nat.add_comm]
 rw [c0];have e:=Nat.div_add_mod (p1+RB*p2) v1;have l:=Nat.mod_lt (p1+RB*p2) S.top;have c1:=Nat.mul_comm v1 ((p1+RB*p2) / v1);refine ⟨by omega,a8j S.below2 S.abovev ?_,?_,S.p1l⟩
 ·rw [Nat.add_mul];omega
 ·have:=Nat.mul_le_mul_left RB S.p2v1
  rw [Nat.mul_comm v1];omega
theorem b3w {q r:Nat}(G:a5C (a0g P) (a0g v) (p1+RB*p2) v1 p1 q r)(h:RB≤q∨r*RB+p0<q*v2):0<q∧a5C (a0g P) (a0g v) (p1+RB*p2) v1 p1 (q - 1) (r+v1):=by
 obtain ⟨e,u,cp,pl⟩:=G;have hq:0<q:=by
  rcases h with h|h
  ·unfold RB at h;omega
  ·rcases Nat.eq_zero_or_pos q with h0|h0
   ·subst h0;omega
   ·exact h0
 obtain ⟨k,rfl⟩:∃ k,q=k+1:=⟨q - 1,by omega⟩
 refine ⟨hq,⟨?_,?_,cp,pl⟩⟩
 ·rw [Nat.add_sub_cancel,← e,Nat.add_mul];omega
 ·rw [Nat.add_sub_cancel]
  rcases h with h|h
  ·have h1:a0g v*RB≤(k+1)*a0g v:=by rw [Nat.mul_comm];exact Nat.mul_le_mul_right _ h
   have:=S.less
   omega
  ·have e2:(k+1)*(v2+RB*v1)=(k+1)*v2+RB*((k+1)*v1):=by rw [Nat.mul_add,Nat.mul_left_comm]
   refine a9O S.below3 S.abovev2 ?_;rw [e2,← e,Nat.mul_add RB,Nat.mul_comm RB r];omega
theorem a8k {q r:Nat}(G:a5C (a0g P) (a0g v) (p1+RB*p2) v1 p1 q r)(h:RB≤r∨(q<RB∧q*v2≤r*RB+p0)):q<RB∧q*a0g v≤a0g P+a0g v:=by
 have hqB:q<RB:=by
  rcases h with h|h
  ·exact G.small h
  ·exact h.1
 obtain ⟨e,u,cp,pl⟩:=G;have h5:=S.v2l;have hq:q*v2≤r*RB+p0:=by
  rcases h with h|h
  ·have h2:q*v2≤RB*RB:=Nat.mul_le_mul (by omega) (by omega)
   have h3:RB*RB≤r*RB:=Nat.mul_le_mul_right _ h;omega
  ·exact h.2
 have e2:q*(v2+RB*v1)=q*v2+RB*(q*v1):=by rw [Nat.mul_add,Nat.mul_left_comm]
 refine ⟨hqB,b1W (n3:=p0+RB*(p1+RB*p2)) (D:=v2+RB*v1) (P:=RB^m) (B:=RB) (v:=a0g (v.take m)) ?_ ?_ S.lowv ?_ (by omega) ?_⟩
 ·rw [S.valP,Nat.mul_comm];omega
 ·rw [S.valv,Nat.mul_comm];omega
 ·rw [e2,← e,Nat.mul_add RB,Nat.mul_comm RB r]
  omega
 ·have:=S.top
  have h1:=Nat.mul_le_mul_left RB (show 1≤v1 from this);omega
end
theorem FzS.of {H:Hp}{d0 d:D}(h:Fz H [] d0 d):FzS H d0 d:=fun _ _ _ _ m hO hN _ hv=>h.rep m hO (fun e he b hb _=>hN e he b hb) hv
theorem a0m.lendP {C:Ctx}{f:Nat}{ds ds':List D}{Φ:D→Prop}{H:Hp}{n:Nat}(hc:a0c C f ds' Φ)(hl:ds'.length=ds.length)(hv:∀ (i:Nat) (a b:D),ds[i]? = some a→ds'[i]? = some b→FzS H a b)
  (hp:ArePure ds') (hflat:∀ d,Φ d→a6Z d):a0m C f ds H n (fun d' H' n'=>Φ d'∧H'=H∧n'=n+1):=by
 refine ⟨hc.1,fun F ρ w vs m hfr hg hvs hr=>?_⟩;have hH:FzH H [] H []:=by
  generalize H=H0
  have:∀ H1:Hp,FzH H0 [] H1 []:=fun H1=>by
   induction H1 with
   | nil=>exact .nil
   | cons e r ih=>exact .drop ih
  exact this H0
 obtain ⟨m',hO,hN⟩:=hH.mem m;refine (hc.2 (Own F.X ρ []) w vs m.g (Nat.le_trans m.gn m.size) (fun b hb=>m'.own_lt hb) (by omega) fun i x hx=>?_).mono ?_
 ·have hi:i<ds'.length:=(List.getElem?_eq_some_iff.1 hx).1
  have hd0:ds[i]? = some ds[i]:=List.getElem?_eq_getElem (by omega);exact hp.out x (List.mem_of_getElem? hx) _ _ _ _ _ (hv i _ x hd0 hx C F ρ w m hO (fun e he b hb=>hN e he b hb rfl) _ (hr i _ hd0))
 ·rintro e w' ⟨v,d',rfl,hb,hd',rep⟩
  have x:Ext ρ (Own F.X ρ H) w ρ (Own F.X ρ H) w':=⟨hb.size,fun _ _ _ h=>h,fun b hb' hO=>⟨hO,hb.block b hb'⟩,fun b cs T fz hh=>⟨cs,_,by
   rw [hb.block b (Array.getElem?_eq_some_iff.1 hh).1];exact hh,rfl⟩⟩
  exact ⟨v,_,H,n+1,ρ,rfl,⟨hd',rfl,rfl⟩,m.same x hb.os hb.tape hb.output hb.block,x,fun k g hg'=>hfr k g (by omega),fun e he=>Nat.lt_succ_of_lt (hg e he),hflat _ hd' _ _ _ _ _ _ _ rep⟩
def b3X (P v:List Nat)(d:D):Prop:=∃ q,d=a0p q∧q<RB∧a0g P<(q+1)*a0g v∧q*a0g v≤a0g P+a0g v
theorem c0f {p2 p1 v1:Nat}(h1:p1<RB)(h2:p2<RB):IntKind.i64.wrap ((p2:Int)*1000000000)=((p2*RB:Nat):Int)∧IntKind.i64.wrap (((p2*RB:Nat):Int)+(p1:Int))=((p2*RB+p1:Nat):Int) ∧
  IntKind.i64.wrap (((p2*RB+p1:Nat):Int).tdiv (v1:Int))=(((p2*RB+p1) / v1:Nat):Int):=by
 have h3:=Nat.div_le_self (p2*RB+p1) v1;unfold RB at *;refine ⟨?_,?_,?_⟩
 ·rw [wI (by omega) (by omega)];omega
 ·rw [wI (by omega) (by omega)];omega
 ·exact c0a _ _ (by omega)
theorem b5P {t r v2 p0:Nat}(ht:t<RB)(hr:r<RB)(h2:v2<RB)(h0:p0<RB):IntKind.i64.wrap ((t:Int)*(v2:Int))=((t*v2:Nat):Int)∧IntKind.i64.wrap ((r:Int)*1000000000)=((r*RB:Nat):Int) ∧
  IntKind.i64.wrap (((r*RB:Nat):Int)+(p0:Int))=((r*RB+p0:Nat):Int):=by
 have h3:t*v2≤999999999*999999999:=Nat.mul_le_mul (by unfold RB at ht;omega) (by unfold RB at h2;omega);unfold RB at *;refine ⟨?_,?_,?_⟩
 ·rw [← Int.natCast_mul,wI (by omega) (by omega)]
 ·rw [wI (by omega) (by omega)];omega
 ·rw [wI (by omega) (by omega)];omega
theorem c6R {t v2 r p0:Nat}(h:t<RB):decide (((t*v2:Nat):Int)>((r*RB+p0:Nat):Int))=decide (RB≤t∨r*RB+p0<t*v2) :=
 decide_eq_decide.2 ⟨fun h1=>.inr (Int.ofNat_lt.1 h1),fun h1=>Int.ofNat_lt.2 (h1.resolve_left (Nat.not_le.2 h))⟩
theorem c6S {t v2 r p0:Nat}(h:¬ (RB≤t∨r*RB+p0<t*v2)):t<RB∧t*v2≤r*RB+p0:=⟨Nat.lt_of_not_le fun h1=>h (.inl h1),Nat.le_of_not_lt fun h1=>h (.inr h1)⟩
theorem c6U {P v:List Nat}{m p0 p1 p2 v2 v1:Nat}(S:b1v P v m p0 p1 p2 v2 v1):∃ a1 T q0 r0:Nat,IntKind.i64.wrap ((p2:Int)*1000000000)=(a1:Int)∧IntKind.i64.wrap ((a1:Int)+(p1:Int))=(T:Int) ∧
  IntKind.i64.wrap ((T:Int).tdiv (v1:Int))=(q0:Int)∧(T:Int).tmod (v1:Int)=(r0:Int)∧a5C (a0g P) (a0g v) (p1+RB*p2) v1 p1 q0 r0∧r0<RB:=by
 obtain ⟨k1,k2,k3⟩:=c0f (v1:=v1) S.p1l S.p2l;exact ⟨_,_,_,_,k1,k2,k3,c2w _ v1,b1X S,Nat.lt_trans (Nat.mod_lt _ S.top) S.v1l⟩
theorem c1F {t r v2 p0:Nat}(ht:t<RB)(hr:r<RB)(h2:v2<RB)(h0:p0<RB):∃ a1 a2 a3:Nat,IntKind.i64.wrap ((t:Int)*(v2:Int))=(a3:Int)∧IntKind.i64.wrap ((r:Int)*1000000000)=(a1:Int) ∧
  IntKind.i64.wrap ((a1:Int)+(p0:Int))=(a2:Int)∧decide ((a3:Int)>(a2:Int))=decide (RB≤t∨r*RB+p0<t*v2):=by
 obtain ⟨q1,q2,q3⟩:=b5P ht hr h2 h0;exact ⟨_,_,_,q1,q2,q3,c6R ht⟩
theorem c5O (U v:List Nat)(j m p0 p1 p2 v2 v1:Nat)(S:b1v ((U.drop j).take (m+3)) v m p0 p1 p2 v2 v1)(hj:j+(m+3)≤U.length)(hU:U.length<4000000):a0c C0 219 [rL U,rL v,a0p j] (b3X ((U.drop j).take (m+3)) v):=by
 refine a0c.walk w1 c9o rfl fun F=>?_
 unfold rL;have hg:∀ {k p:Nat},((U.drop j).take (m+3))[k]? = some p→U[j+k]? = some p:=fun {k p} h=>by
  rw [List.getElem?_take] at h;split at h
  ·rwa [List.getElem?_drop] at h
  ·cases h
 have u0:=a6T (hg S.h0);have u1:=a6T (hg S.h1);have u2:=a6T (hg S.h2);have y1:=a6T S.g1;have y2:=a6T S.g2;have l0:=S.p0l;have l1:=S.p1l;have l2:=S.p2l;have lv1:=S.v1l;have lv2:=S.v2l;have ev:(((v.map a0p).length:Nat):Int)=((m+2:Nat):Int):=by rw [List.length_map,S.lv]
 have eu:(((U.map a0p).length:Nat):Int)=(U.length:Int):=by rw [List.length_map]
 have w0:IntKind.i64.wrap ((j:Int)+((m+2:Nat):Int))=((j+(m+2):Nat):Int):=by rw [wI (by omega) (by omega)];omega
 have wa:IntKind.i64.wrap (((j+(m+2):Nat):Int) - 1)=((j+(m+1):Nat):Int):=by rw [wI (by omega) (by omega)];omega
 have wb:IntKind.i64.wrap (((j+(m+2):Nat):Int) - 2)=((j+m:Nat):Int):=by rw [wI (by omega) (by omega)];omega
 have wc:IntKind.i64.wrap (((m+2:Nat):Int) - 1)=((m+1:Nat):Int):=by rw [wI (by omega) (by omega)];omega
 have wd:IntKind.i64.wrap (((m+2:Nat):Int) - 2)=(m:Int):=by rw [wI (by omega) (by omega)];omega
 have ra:IntKind.i64.wrap (IntKind.i64.wrap ((j:Int)+((m+2:Nat):Int)) - 1)=((j+(m+1):Nat):Int):=by rw [w0,wa]
 have rb:IntKind.i64.wrap (IntKind.i64.wrap ((j:Int)+((m+2:Nat):Int)) - 2)=((j+m:Nat):Int):=by rw [w0,wb]
 obtain ⟨a1,T,q0,r0,k1,k2,k3,k4,G0,hr0⟩:=c6U S;have v0:¬ (v1:Int)=0:=by have:=S.top;omega
 have hvl:=S.lv;refine sR 0 ?_;refine sZ 100 ?_;refine nwI ev ?_;refine OkS.seq ?_;refine OkS.regD w1 200 [0,1,2,3,4,5,6,7,8,9,10,11,12,13] [14,15] (by kernel_rfl) ?_;refine gwI (ff4 w0 wa ra kN) ?_;refine ixI kT u2 ?_;refine gwI (ff4 w0 wa ra kN) ?_;refine ixI kT u1 ?_;refine gwI (ff6 w0 wa ra kN k1 k2) ?_;refine OkS.seq ?_;refine OkS.regD w1 300 [0,1,2,3,4,5,6,7,8,9,10,11,12,13,14] [15] (by kernel_rfl) ?_;refine gwI (ff2 wc kN) ?_;refine ixI kT y1 ?_;refine gwI (ff2 wc kN) ?_;refine ixI kT y1 ?_;refine gwI (ff4 wc kN k3 k4) ?_;refine OkS.seqX (α:=Nat × Nat) (fun p=>⟨[(9,a0p p.1)],[],p.2⟩) (fun p=>p.1<RB∧a0g ((U.drop j).take (m+3))<(p.1+1)*a0g v∧p.1*a0g v≤a0g ((U.drop j).take (m+3))+a0g v) ?_ ?_
 ·refine OkS.block ?_
  refine OkS.loopF (α:=Nat × Nat × Nat) (fun p=>⟨[(0,.sl false 1 (U.map a0p)),(1,.sl false 1 (v.map a0p)),(2,a0p j),(7,i64 ((m+2:Nat):Int)),(9,a0p p.1),(10,a0p p.2.1)],[],p.2.2⟩) (fun p=>p.1)
   (fun p F'=>F'=F∧a5C (a0g ((U.drop j).take (m+3))) (a0g v) (p1+RB*p2) v1 p1 p.1 p.2.1∧p.2.1<RB) (q0,r0,_) ⟨rfl,G0,hr0⟩ wkI ?_
  rintro ⟨t,r,n⟩ F' ⟨rfl,G,hr⟩;dsimp only at G hr ⊢;clear G0 hr0 k1 k2 k3 k4 u1 u2 ra wa;have htl:=G.qle S.top;obtain ⟨b,hb⟩:∃ b,b=decide (RB≤t∨r*RB+p0<t*v2):=⟨_,rfl⟩
  refine OkS.seq ?_;refine OkS.seqX (α:=Nat) (fun n=>⟨[(0,.sl false 1 (U.map a0p)),(1,.sl false 1 (v.map a0p)),(2,a0p j),(7,i64 ((m+2:Nat):Int)),(9,a0p t),(10,a0p r),(63,boo b)],[],n⟩) (fun _=>True) ?_ ?_
  ·rcases Nat.lt_or_ge t RB with h|h
   ·have e1:decide ((t:Int)≥1000000000)=false:=decide_eq_false (by unfold RB at h;omega)
    obtain ⟨a1,a2,a3,q1,q2,q3,q4⟩:=c1F h hr lv2 l0;rw [← hb] at q4;clear hb;rw [← q4];refine OkS.regD w1 400 [0,1,2,3,4,5,6,7,8,9,10,11,12,13,14,15,16,17,18,19] [20,21] (by kernel_rfl) ?_;refine gwI e1 ?_;refine gwI (ff3 kF wd kN) ?_;refine ixI kF y2 ?_;refine gwI (ff5 kF w0 wb rb kN) ?_;refine ixI kF u0 ?_;refine gwI (ff4 kF q1 q2 q3) ?_;refine gwI kF ?_;exact ⟨trivial,_,trivial,wkI⟩
   ·have e1:decide ((t:Int)≥1000000000)=true:=decide_eq_true (by unfold RB at h;omega)
    have e2:b=true:=hb.trans (decide_eq_true (.inl h));subst e2;refine OkS.regD w1 400 [0,1,2,3,4,5,6,7,8,9,10,11,12,13,14,15,16,17,18,19] [20,21] (by kernel_rfl) ?_;refine gwI e1 ?_;refine gwI kT ?_;refine gwI kT ?_;exact ⟨trivial,_,trivial,wkI⟩
  rintro n2 -;cases b with
  | true =>
   have hc:=of_decide_eq_true hb.symm;obtain ⟨t0,G2⟩:=b3w S G hc;have j1:IntKind.i64.wrap ((t:Int) - 1)=((t - 1:Nat):Int):=by rw [wI (by omega) (by unfold RB at htl;omega)];omega
   have j2:IntKind.i64.wrap ((r:Int)+(v1:Int))=((r+v1:Nat):Int):=by rw [wI (by omega) (by unfold RB at hr lv1;omega)];omega
   clear hc hb;refine ifI ?_;refine skI ?_;refine OkS.block ?_;refine sZ 500 ?_;refine nwI j1 ?_;refine sZ 600 ?_;refine gwI (ff2 wc kN) ?_;refine ixI kT y1 ?_;refine gwI j2 ?_;refine OkS.seq ?_;rcases Nat.lt_or_ge (r+v1) RB with h|h
   ·have e3:decide (((r+v1:Nat):Int)≥1000000000)=false:=decide_eq_false (by unfold RB at h;omega)
    refine OkS.reg w1 700 (by kernel_rfl) ?_;refine nwI e3 ?_;refine ifI ?_;refine skI ?_;exact ⟨(t - 1,r+v1,_),⟨rfl,G2,h⟩,by dsimp only;omega,wkI⟩
   ·have e3:decide (((r+v1:Nat):Int)≥1000000000)=true:=decide_eq_true (by unfold RB at h;omega)
    obtain ⟨g1,g2⟩:=a8k S G2 (.inl h);refine OkS.reg w1 700 (by kernel_rfl) ?_;refine nwI e3 ?_;refine ifI ?_;refine sR 800 ?_;refine rtI ?_;exact ⟨_,.refl _,IsPure.out,t - 1,rfl,g1,G2.up,g2⟩
  | false =>
   have hc:=of_decide_eq_false hb.symm;obtain ⟨g1,g2⟩:=a8k S G (.inr (c6S hc));clear hc hb;refine ifI ?_;refine exI ?_;exact ⟨rfl,⟨t,_⟩,⟨g1,G.up,g2⟩,wkI⟩
 rintro ⟨q,n⟩ ⟨g1,g2,g3⟩;dsimp only at g1 g2 g3 ⊢;refine sR 900 ?_;refine rtI ?_;exact ⟨_,.refl _,IsPure.out,q,rfl,g1,g2,g3⟩
def b6A (k g k' n:Nat)(env:Env):Env→Prop
 | []=>True
 | (t,d)::r=>(d=env.get t∨∃ sz i len,env.get t=.osl k g sz i len∧d=.osl k' n sz i len)∧b6A k g k' n env r
theorem b6A.get {k g k' n:Nat}{env:Env}:∀ {env':Env},b6A k g k' n env env'→∀ t,env'.get t=.any∨env'.get t=env.get t∨∃ sz i len,env.get t=.osl k g sz i len∧env'.get t=.osl k' n sz i len
 | [],_,t=>.inl rfl
 | (t0,d)::r,h,t=>by
  simp only [Env.get];cases hb:Nat.beq t0 t with
  | true =>
   obtain rfl:=Nat.eq_of_beq_eq_true hb;rcases h.1 with h1|h1
   ·exact .inr (.inl h1)
   ·exact .inr (.inr h1)
  | false=>exact b6A.get h.2 t
section
variable {C:Ctx} {B F:Fra} {rd:Option Nat} {Q:Exit→Fra→St→Prop}
theorem OkS.rekey {c:Code}{env:Env}{k g k' T sz n:Nat}{es:List D}(env':Env)(he:b6A k g k' n env env')(h:OkS C B rd F c ⟨env',[⟨k',n,T,sz,es⟩],n+1⟩ Q):OkS C B rd F c ⟨env,[⟨k,g,T,sz,es⟩],n⟩ Q:=by
 refine ⟨fun hB hd ρ a w hs=>?_⟩;obtain ⟨ρ',hl,hk,hf⟩:∃ ρ':Lk,(∀ k1 g1 b,ρ k1 g1=some b→ρ' k1 g1=some b)∧ρ' k' n=ρ k g∧a9l ρ' (n+1):=by
  cases hb:ρ k g with
  | none=>exact ⟨ρ,fun _ _ _ h=>h,hs.fresh _ _ (Nat.le_refl _),fun k1 g1 h=>hs.fresh _ _ (Nat.le_of_succ_le h)⟩
  | some b=>exact ⟨ρ.put k' n b,fun k1 g1 b1 h1=>Lk.put_old (hs.fresh _ _ (Nat.le_refl _)) h1,Lk.put_same _ _ _ _,fun k1 g1 h1=>by
    unfold Lk.put;split
    ·rename_i hh;omega
    ·exact hs.fresh _ _ (Nat.le_of_succ_le h1)⟩
 have hO:Own F.X ρ' [⟨k',n,T,sz,es⟩]=Own F.X ρ [⟨k,g,T,sz,es⟩]:=funext fun b=>propext (by simp [Own,hk])
 have x:Ext ρ (Own F.X ρ [⟨k,g,T,sz,es⟩]) w ρ' (Own F.X ρ' [⟨k',n,T,sz,es⟩]) w:=⟨Nat.le_refl _,hl,fun b _ hb=>⟨by rw [hO];exact hb,rfl⟩,fun _ cs _ _ h=>⟨cs,_,h,rfl⟩⟩
 refine h.out hB hd ρ' a w ⟨⟨⟨fun e he'=>?_,by simp,fun e he' b hb=>?_⟩,hs.mem.os,hs.mem.tape,hs.mem.output,hs.mem.size,hs.mem.blk,hs.mem.xlt,hs.mem.g0,hs.mem.gn,hs.mem.gw,fun k1 g1 b h1=>hl _ _ _ (hs.mem.lnk _ _ _ h1),hs.mem.shp⟩,hf,fun e he'=>?_,fun t=>?_,hs.nt,hs.dfr⟩
 ·simp only [List.mem_cons,List.not_mem_nil,or_false] at he'
  subst he';rcases hs.mem.hok.ent ⟨k,g,T,sz,es⟩ (by simp) with ⟨h1,h2⟩|⟨b,cs,h1,h2,h3⟩
  ·exact .inl ⟨h1,by rw [show ρ' k' n=ρ k g from hk];exact h2⟩
  ·refine .inr ⟨b,cs,hk.trans h1,h2,?_⟩
   have h4:=h3.mono x;exact ⟨h4.len,h4.siz,h4.one,h4.rep⟩
 ·simp only [List.mem_cons,List.not_mem_nil,or_false] at he'
  subst he';exact hs.mem.hok.own ⟨k,g,T,sz,es⟩ (by simp) b (hk.symm.trans hb)
 ·simp only [List.mem_cons,List.not_mem_nil,or_false] at he'
  subst he';exact Nat.lt_succ_self _
 ·have h0:=(hs.env t).mono x
  rcases he.get t with h1|h1|⟨sz',i,len,h1,h2⟩
  ·show Rep _ _ _ (env'.get t) _
   rw [h1];exact .any _
  ·show Rep _ _ _ (env'.get t) _
   rw [h1];exact h0
  ·show Rep _ _ _ (env'.get t) _
   rw [h2];have h5:=hs.env t;change Rep _ _ _ (env.get t) _ at h5;rw [h1] at h5;generalize a.tmps.getD t undef=v at *;cases h5 with
   | onil=>exact .onil _ _ _
   | osl hr hb hc hs' hm=>exact .osl (hk.trans hr) hb hc hs' hm
end
theorem d5O {b m y:Nat}(hl:(a0o b).length=m+1)(hy:(a0o b)[m]? = some y):∃ f,f=1000000000 / (y+1)∧0<f∧f<RB∧(a0o (b*f)).length=m+1:=by
 have hy0:=a3V b hl hy;have hyl:y<RB:=a0z b y (List.mem_of_getElem? hy);have hf0:0<1000000000 / (y+1):=Nat.div_pos (by unfold RB at hyl;omega) (by omega);have hf1:1000000000 / (y+1)<RB:=Nat.div_lt_self (by decide) (by omega);have hm:=Nat.div_mul_le_self 1000000000 (y+1);refine ⟨_,rfl,hf0,hf1,?_⟩;generalize 1000000000 / (y+1)=f at *;refine b3J ?_ ?_
 ·exact Nat.le_trans (a6C hl) (Nat.le_mul_of_pos_right _ hf0)
 ·have h2:=b9l hl hy
  have h3:=a1c ((a0z b).take m);rw [List.length_take,hl,Nat.min_eq_left (by omega)] at h3;rw [a0q] at h2;have h4:b<RB^m*(y+1):=by rw [Nat.mul_add,Nat.mul_one];omega
  have h5:b*f<RB^m*(y+1)*f:=Nat.mul_lt_mul_of_pos_right h4 hf0;have h6:RB^m*(y+1)*f=RB^m*(f*(y+1)):=by rw [Nat.mul_assoc,Nat.mul_comm (y+1)]
  have h7:RB^m*(f*(y+1))≤RB^m*RB:=Nat.mul_le_mul_left _ hm;rw [Nat.pow_succ];omega
theorem b6a {a b f:Nat}{U v:List Nat}{k lu lq:Nat}(hf:0<f)(hU:a0g U=a*f)(hv:a0g v=b*f)(wU:Rd U)(lU:U.length=lu){q:List Nat}(hq:q=List.replicate lq 0)(hk:lq≤k)
  (hab:a<RB^k*b):c4R (a*f) v U q lu lq k:=by
 subst hq;refine ⟨lU,List.length_replicate,wU,a6D _,?_,?_⟩
 ·rw [List.drop_of_length_le (by rw [List.length_replicate];exact hk)]
  rw [show a0g []=0 from rfl,Nat.mul_zero,Nat.zero_mul,Nat.zero_add,hU]
 ·rcases Nat.lt_or_ge (a0g (U.drop k)) (a0g v) with h|h
  ·exact h
  ·exfalso
   have e0:a0g U=a0g (U.take k)+RB^(U.take k).length*a0g (U.drop k):=by
    conv=>lhs;rw [← List.take_append_drop k U]
    rw [a0Y]
   have h3:a*f<RB^k*b*f:=Nat.mul_lt_mul_of_pos_right hab hf;rw [Nat.mul_assoc,← hv] at h3;rcases Nat.lt_or_ge U.length k with hl|hl
   ·rw [List.drop_of_length_le (by omega)] at h
    rw [show a0g []=0 from rfl] at h;rw [Nat.le_zero.1 h,Nat.mul_zero] at h3;omega
   ·rw [List.length_take,Nat.min_eq_left hl] at e0
    have:=Nat.mul_le_mul_left (RB^k) h
    omega
theorem b9p {a b f:Nat}{v U q:List Nat}{lu lq:Nat}(hf:0<f)(I:c4R (a*f) v U q lu lq 0)(hv:a0g v=b*f):a0g q=a / b∧a0g U=a%b*f:=by
 obtain ⟨lU,lQ,wU,wq,val,less⟩:=I;simp only [Nat.pow_zero,Nat.one_mul,List.drop_zero] at val less;obtain ⟨h1,h2⟩:=a5Y val less;rw [hv,Nat.mul_div_mul_right _ _ hf] at h1;rw [hv,Nat.mul_mod_mul_right] at h2;exact ⟨h1,h2⟩
theorem c6z {P V q N Pn c z W:Nat}(hI:N+q*V=Pn+W*c)(hP:P=Pn+W*z)(hc:c≤z)(hup:P<(q+1)*V):P / V=q∧P%V=N+W*(z - c):=by
 have e:W*z=W*c+W*(z - c):=by rw [← Nat.mul_add];congr 1;omega
 exact a8V (N:=N+W*(z - c)) (by omega) hup
theorem c6A {P V q N Pn N2 c c2 z W:Nat}(hI:N+q*V=Pn+W*c)(hP:P=Pn+W*z)(hz:z<c)(hN:N<W)(hdn:q*V≤P+V)(hN2:N2+W*c2=N+V)(hc2:c2≤1)(hN2l:N2<W)(hVW:V<W) :
  0<q∧P / V=q - 1∧P%V=N2∧(z:Int) - c+c2=0:=by
 obtain ⟨e,rfl⟩:∃ e,c=z+1+e:=⟨c - z - 1,by omega⟩
 have h1:W*(z+1+e)=W*z+W+W*e:=by rw [Nat.mul_add,Nat.mul_add,Nat.mul_one]
 have he:e=0:=by
  rcases Nat.eq_zero_or_pos e with h|h
  ·exact h
  ·have:=Nat.mul_le_mul_left W h
   omega
 subst he;rw [Nat.mul_zero] at h1;obtain ⟨a1,a2,a3⟩:=b2H (U:=P) (V:=V) (q:=q) (N:=N) (N3:=N2) (T:=W) (c:=c2) (by omega) hN hdn hN2 hc2 hN2l;refine ⟨a1,a2,a3,?_⟩
 have:c2=1:=by
  rcases Nat.eq_zero_or_pos c2 with h|h
  ·exfalso
   subst h;rcases Nat.eq_zero_or_pos q with h0|h0
   ·subst h0;omega
   ·obtain ⟨k,rfl⟩:∃ k,q=k+1:=⟨q - 1,by omega⟩
    rw [Nat.add_mul,Nat.one_mul] at hI hdn;omega
  ·omega
 subst this;omega
def blk (A N:List Nat)(top:Int)(Z:List Nat):List D:=A.map a0p++(N.map a0p++(i64 top::Z.map a0p))
theorem c2K {A N Z:List Nat}{top:Int}{i z:Nat}(h:N[i]? = some z):(blk A N top Z)[A.length+i]? = some (a0p z):=by
 have hi:i<N.length:=(List.getElem?_eq_some_iff.1 h).1;unfold blk;rw [List.getElem?_append_right (by rw [List.length_map];omega),List.length_map,Nat.add_sub_cancel_left,List.getElem?_append_left (by rw [List.length_map];exact hi)];exact a6T h
theorem b6O {A N Z:List Nat}{top:Int}{i d:Nat}(h:i<N.length):(blk A N top Z).set (A.length+i) (a0p d)=blk A (N.set i d) top Z:=by
 unfold blk;rw [List.set_append_right _ _ (by rw [List.length_map];omega),List.length_map,Nat.add_sub_cancel_left,List.set_append_left _ _ (by rw [List.length_map];exact h),b0c]
theorem b3a {A N Z:List Nat}{top:Int}{n:Nat}(h:N.length=n):(blk A N top Z)[A.length+n]? = some (i64 top):=by
 unfold blk;rw [List.getElem?_append_right (by rw [List.length_map];omega),List.length_map,Nat.add_sub_cancel_left,List.getElem?_append_right (by rw [List.length_map];omega),List.length_map,h,Nat.sub_self];rfl
theorem b4b {A N Z:List Nat}{top t:Int}{n:Nat}(h:N.length=n):(blk A N top Z).set (A.length+n) (i64 t)=blk A N t Z:=by
 unfold blk;rw [List.set_append_right _ _ (by rw [List.length_map];omega),List.length_map,Nat.add_sub_cancel_left,List.set_append_right _ _ (by rw [List.length_map];omega),List.length_map,h,Nat.sub_self];rfl
theorem b2Z {A N Z:List Nat}{t:Nat}:blk A N (t:Int) Z=(A++((N++[t])++Z)).map a0p:=by
 unfold blk;simp [List.map_append]
theorem c2i {t x c z:Nat}(ht:t<RB)(hx:x<RB)(hc:c≤RB)(hz:z<RB):∃ p lo hi x' d c':Nat,IntKind.i64.wrap ((t:Int)*(x:Int))=(p:Int)∧IntKind.i64.wrap ((p:Int)+(c:Int))=(x':Int)∧((x':Int)).tmod 1000000000=(lo:Int) ∧
  IntKind.i64.wrap (((x':Int)).tdiv 1000000000)=(hi:Int)∧IntKind.i64.wrap ((z:Int) - (lo:Int))=(z:Int) - lo∧d<RB∧c'≤RB∧d+t*x+c=z+RB*c' ∧
  ((c'=hi∧(z:Int) - lo=d)∨(c'=hi+1∧(z:Int) - lo<0∧IntKind.i64.wrap ((z:Int) - lo+1000000000)=d∧IntKind.i64.wrap ((hi:Int)+1)=((hi+1:Nat):Int))):=by
 have h3:t*x≤999999999*999999999:=Nat.mul_le_mul (by unfold RB at ht;omega) (by unfold RB at hx;omega);have e:=Nat.mod_add_div (t*x+c) 1000000000;have l:=Nat.mod_lt (t*x+c) (show 1000000000>0 by decide);have k0:IntKind.i64.wrap ((t:Int)*(x:Int))=((t*x:Nat):Int):=by rw [← Int.natCast_mul,wI (by omega) (by omega)]
 unfold RB at *;have k1:IntKind.i64.wrap (((t*x:Nat):Int)+(c:Int))=((t*x+c:Nat):Int):=by rw [wI (by omega) (by omega)];omega
 have k2:((t*x+c:Nat):Int).tmod 1000000000=(((t*x+c)%1000000000:Nat):Int):=c2w _ 1000000000;have k3:IntKind.i64.wrap (((t*x+c:Nat):Int).tdiv 1000000000)=(((t*x+c) / 1000000000:Nat):Int):=c0a _ 1000000000 (by omega);generalize t*x=p at *;generalize (p+c)%1000000000=lo at *;generalize (p+c) / 1000000000=hi at *;rcases Nat.lt_or_ge z lo with h|h
 ·exact ⟨_,_,_,_,z+1000000000 - lo,hi+1,k0,k1,k2,k3,wI (by omega) (by omega),by omega,by omega,by omega,.inr ⟨rfl,by omega,by rw [wI (by omega) (by omega)];omega,by rw [wI (by omega) (by omega)];omega⟩⟩
 ·exact ⟨_,_,_,_,z - lo,hi,k0,k1,k2,k3,wI (by omega) (by omega),by omega,by omega,by omega,.inl ⟨rfl,by omega⟩⟩
theorem c1Z {z x c:Nat}(hz:z<RB)(hx:x<RB)(hc:c≤1):∃ p s d c':Nat,IntKind.i64.wrap ((z:Int)+(x:Int))=(p:Int)∧IntKind.i64.wrap ((p:Int)+(c:Int))=(s:Int)∧((s:Int)).tmod 1000000000=(d:Int) ∧
  IntKind.i64.wrap (((s:Int)).tdiv 1000000000)=(c':Int)∧d<RB∧c'≤1∧d=(z+x+c)%RB∧c'=(z+x+c) / RB:=by
 have e:=Nat.mod_add_div (z+x+c) 1000000000;have l:=Nat.mod_lt (z+x+c) (show 1000000000>0 by decide);unfold RB at *;have k0:IntKind.i64.wrap ((z:Int)+(x:Int))=((z+x:Nat):Int):=by rw [wI (by omega) (by omega)];omega
 have k1:IntKind.i64.wrap (((z+x:Nat):Int)+(c:Int))=((z+x+c:Nat):Int):=by rw [wI (by omega) (by omega)];omega
 have k2:((z+x+c:Nat):Int).tmod 1000000000=(((z+x+c)%1000000000:Nat):Int):=c2w _ 1000000000;have k3:IntKind.i64.wrap (((z+x+c:Nat):Int).tdiv 1000000000)=(((z+x+c) / 1000000000:Nat):Int):=c0a _ 1000000000 (by omega);exact ⟨_,_,_,_,k0,k1,k2,k3,l,by omega,rfl,rfl⟩
set_option maxHeartbeats 2000000
theorem c6u:rD 0=.sl false 1 []:=by unfold rD;rw [a0D];rfl
theorem b3t {H:Hp}{K g T:Nat}{l:List Nat}{N:Nat}(hl:l.length=N)(he:Hp.get H K=some ⟨K,g,T,1,l.map a0p⟩:=by exact rfl):Fz H [] (.osl K g 1 0 N) (.sl false 1 (l.map a0p)):=by
 subst hl;have key:∀ (j:Nat) (d d':D),(l.map a0p)[0+j]? = some d→(l.map a0p)[j]? = some d'→d=d':=fun j d d' h1 h2=>by
  rw [Nat.zero_add] at h1;rw [h1] at h2;exact Option.some.inj h2
 refine .osl (e:=⟨K,g,T,1,l.map a0p⟩) he rfl rfl rfl (by simp) (by simp) (fun j d d' h1 h2=>by rw [key j d d' h1 h2]) fun j d d' q c c' h1 h2 h3 h4=>?_
 rw [key j d d' h1 h2] at h3;rw [h3] at h4;cases h4;exact Fz.refl _
theorem b9q (a b:Nat)(hab:a<b)(ha:(a0o a).length<1000000)(hb:(a0o b).length<1000000):a0b C0 160 [rD a,rD b] (.tup [rD (a / b),rD (a%b)]):=by
 rw [Nat.div_eq_of_lt hab,Nat.mod_eq_of_lt hab,c6u];refine a0c.walk w1 b7X rfl fun F=>?_
 have cc:=c0R a b (by omega) (by omega);have e1:=b7a hab;refine sR 0 ?_;refine OkS.seq ?_;refine sR 100 ?_;refine cI cc ?_;rw [e1];refine ifI ?_;refine sR 200 ?_;refine rtI ?_;exact ⟨_,c4d (.nil 1) (.refl _),b5a (.sl fun e he=>by cases he) (a8C _),rfl⟩
theorem c2c (a b:Nat)(hab:b≤a)(ha:(a0o a).length<1000000)(hb:(a0o b).length=1)(hb0:b≠0):a0b C0 160 [rD a,rD b] (.tup [rD (a / b),rD (a%b)]):=by
 have cc:=c0R a b (by omega) (by omega);have e1:=b0y hab;have hbl:b<RB:=by
  have:=a1z b
  rw [hb,Nat.pow_one] at this;exact this
 have hlb:(a0o b)[0]? = some b:=by rw [a3U hb0 hbl];rfl
 have hb':=a6T hlb;have cd:=a9D a b (Nat.pos_of_ne_zero hb0) hbl ha;have e3:(((((a0o b).map a0p).length:Nat):Int)==1)=true:=by rw [List.length_map,hb];rfl
 have hml:a%b<RB:=Nat.lt_trans (Nat.mod_lt _ (Nat.pos_of_ne_zero hb0)) hbl;have hv:a0g [a%b]=a%b:=by simp [a0g]
 refine a0c.walk w1 b7X rfl fun F=>?_
 generalize a / b=q at *;generalize a%b=r at *;unfold rD rL at cc cd ⊢;change OkS C0 F none F _ _ (c0y X1.tt _ (· = .tup [rD q,rD r]));generalize a0o a=la at *;generalize a0o b=lb at *;refine sR 0 ?_;refine OkS.seq ?_;refine sR 100 ?_;refine cI cc ?_;rw [e1];refine ifI ?_;refine skI ?_;refine OkS.seq ?_;refine sZ 300 ?_;refine nwI e3 ?_;refine ifI ?_;refine sZ 400 ?_;refine gwI kN ?_;refine ixI kT hb' ?_;refine gwI kN ?_;refine a0l.same _ cd inferInstance ?_;refine stI ?_;refine sR 500 ?_;have hrl:Rd [r]:=fun a ha=>by
  simp only [List.mem_cons,List.not_mem_nil,or_false] at ha;subst ha;exact hml
 refine a0l.pure [rL [r]] _ ⟨.nn true 1 _,trivial⟩ (a9b [r] hrl (by simp)) inferInstance ?_;refine stI ?_;refine rtI ?_;exact a0a (by rw [hv];rfl) IsPure.out
theorem d2H {H:Hp}{d1 d2 d3 e1 e2 e3:D}(h1:FzS H d1 e1)(h2:FzS H d2 e2)(h3:FzS H d3 e3):∀ (i:Nat) (a b:D),[d1,d2,d3][i]? = some a→[e1,e2,e3][i]? = some b→FzS H a b
 | 0,_,_,ha,hb=>by cases ha;cases hb;exact h1
 | 1,_,_,ha,hb=>by cases ha;cases hb;exact h2
 | 2,_,_,ha,hb=>by cases ha;cases hb;exact h3
 | _+3,_,_,ha,_=>by cases ha
theorem b5L {P v:List Nat}(d:D)(h:b3X P v d):a6Z d:=by
 obtain ⟨q,rfl,_⟩:=h;exact a6Z.prim _
theorem c6B {v N Pn:List Nat}{t i c z x:Nat}(hz:N[i]? = some z)(hx:v[i]? = some x)(ht:t<RB)(hxl:x<RB)(hc:c≤RB)(hzl:z<RB)(hI:a0g N+t*a0g (v.take i)=a0g Pn+RB^i*c) :
  ∃ (p x' lo hi d c':Nat) (e:Int),IntKind.i64.wrap ((t:Int)*(x:Int))=(p:Int)∧IntKind.i64.wrap ((p:Int)+(c:Int))=(x':Int)∧((x':Int)).tmod 1000000000=(lo:Int) ∧
  IntKind.i64.wrap (((x':Int)).tdiv 1000000000)=(hi:Int)∧IntKind.i64.wrap ((z:Int) - (lo:Int))=e∧d<RB∧c'≤RB∧a0g (N.set i d)+t*a0g (v.take (i+1))=a0g Pn+RB^(i+1)*c' ∧
  ((decide (e<0)=false∧e=(d:Int)∧hi=c')∨(decide (e<0)=true∧IntKind.i64.wrap (e+1000000000)=(d:Int)∧IntKind.i64.wrap ((hi:Int)+1)=(c':Int))):=by
 obtain ⟨p,lo,hi,x',d,c',k1,k2,k3,k4,k5,k6,k7,k8,k9⟩:=c2i ht hxl hc hzl;have J:=a8I (b:=0) (c':=0) (lo:=t*x+c) (b':=c') (d:=d) (A:=N) (P:=Pn) (v:=v) (q:=t) hz hx hI rfl (by rw [← k8];exact Nat.add_assoc d (t*x) c ▸ rfl);refine ⟨p,x',lo,hi,d,c',_,k1,k2,k3,k4,k5,k6,k7,by rw [J,Nat.zero_add],?_⟩;rcases k9 with ⟨h1,h2⟩|⟨h1,h2,h3,h4⟩
 ·exact .inl ⟨decide_eq_false (by rw [h2];exact Int.not_lt.2 (Int.natCast_nonneg d)),h2,h1.symm⟩
 ·exact .inr ⟨decide_eq_true h2,h3,by rw [h1];exact h4⟩
theorem c6v {v N Nb:List Nat}{i c z x:Nat}(hz:N[i]? = some z)(hx:v[i]? = some x)(hxl:x<RB)(hc:c≤1)(hzl:z<RB)(hI:a0g N+RB^i*c=a0g Nb+a0g (v.take i)) :
  ∃ (p s d c':Nat),IntKind.i64.wrap ((z:Int)+(x:Int))=(p:Int)∧IntKind.i64.wrap ((p:Int)+(c:Int))=(s:Int)∧((s:Int)).tmod 1000000000=(d:Int) ∧
  IntKind.i64.wrap (((s:Int)).tdiv 1000000000)=(c':Int)∧d<RB∧c'≤1∧a0g (N.set i d)+RB^(i+1)*c'=a0g Nb+a0g (v.take (i+1)):=by
 obtain ⟨p,s,d,c',k1,k2,k3,k4,k5,k6,rfl,rfl⟩:=c1Z hzl hxl hc;exact ⟨p,s,_,_,k1,k2,k3,k4,k5,k6,a7e hz hx hI⟩
theorem b5Z {U:List Nat}{k:Nat}(h:a0g U<RB^k)(hk:k≤U.length):a0g (U.take k)=a0g U:=by
 have e:a0g U=a0g (U.take k)+RB^k*a0g (U.drop k):=by
  conv=>lhs;rw [← List.take_append_drop k U]
  rw [a0Y,List.length_take,Nat.min_eq_left hk]
 rcases Nat.eq_zero_or_pos (a0g (U.drop k)) with h0|h0
 ·rw [h0,Nat.mul_zero,Nat.add_zero] at e;exact e.symm
 ·exfalso
  have:=Nat.mul_le_mul_left (RB^k) h0
  omega
theorem b5Y {P v:List Nat}{m p0 p1 p2 v2 v1:Nat}(S:b1v P v m p0 p1 p2 v2 v1):∃ Pn,P=Pn++[p2]∧Pn.length=m+2∧Rd Pn∧a0g P=a0g Pn+RB^(m+2)*p2:=by
 have hl:=S.lP;have e:P=P.take (m+2)++[p2]:=by
  rw [← a0O S.h2,List.take_of_length_le (by omega)]
 have hn:(P.take (m+2)).length=m+2:=by rw [List.length_take];omega
 refine ⟨P.take (m+2),e,hn,S.wP.take _,?_⟩
 conv=>lhs;rw [e]
 rw [a0P hn]
theorem c4y {P N:List Nat}{m z V:Nat}(hl:N.length=m+2)(hN:Rd N)(hz:z<RB)(hv:a0g N+RB^(m+2)*z=a0g P%V):(N++[z]).length=m+3∧Rd (N++[z])∧a0g (N++[z])=a0g P%V:=by
 refine ⟨by rw [List.length_append,hl];rfl,Rd.append hN fun a ha=>?_,by rw [a0P hl,hv]⟩;simp only [List.mem_cons,List.not_mem_nil,or_false] at ha;subst ha;exact hz
set_option maxHeartbeats 4000000
theorem b9r (a b m:Nat)(hab:b≤a)(ha:(a0o a).length<1000000)(hb:(a0o b).length=m+2):a0b C0 160 [rD a,rD b] (.tup [rD (a / b),rD (a%b)]):=by
 have hlen:=a0B b a hab;have cc:=c0R a b (by omega) (by omega);have e1:=b0y hab;obtain ⟨y,hy⟩:=a2Z (l:=a0o b) (i:=m+1) (by omega);have yl:y<RB:=a0z b y (List.mem_of_getElem? hy);obtain ⟨f,ef,f0,fl,hvl⟩:=d5O hb hy;have wf:IntKind.i64.wrap ((1000000000:Int).tdiv ((y+1:Nat):Int))=(f:Int):=by
  rw [ef];exact c0a 1000000000 (y+1) (Nat.le_trans (Nat.div_le_self _ _) (by decide))
 have wy:IntKind.i64.wrap ((y:Int)+1)=((y+1:Nat):Int):=wI (by omega) (by unfold RB at yl;omega);have lf:a0o f=[f]:=a3U (Nat.pos_iff_ne_zero.1 f0) fl;have cv:=c6b b f (by omega) (by rw [lf];exact (by decide:1<1000000));have cu:=c6b a f (by omega) (by rw [lf];exact (by decide:1<1000000));have hu1:=a5y a f;have hu2:=a0B a (a*f) (Nat.le_mul_of_pos_right _ f0);rw [lf] at hu1;change _≤_+1 at hu1;obtain ⟨v,hv⟩:∃ v,v=a0o (b*f):=⟨_,rfl⟩
 have wv:Rd v:=by rw [hv];exact a0z _
 have vv:a0g v=b*f:=by rw [hv];exact a0q _
 rw [← hv] at hvl;obtain ⟨U0,hU0⟩:∃ U0,U0=a0o (a*f):=⟨_,rfl⟩
 have wU0:Rd U0:=by rw [hU0];exact a0z _
 have vU0:a0g U0=a*f:=by rw [hU0];exact a0q _
 rw [← hU0] at hu1 hu2;obtain ⟨v1,h1⟩:=a2Z (l:=v) (i:=m+1) (by omega);obtain ⟨v2,h2⟩:=a2Z (l:=v) (i:=m) (by omega);have v10:v1≠0:=a3V (b*f) (by rw [← hv];exact hvl) (by rw [← hv];exact h1);have b0:0<b:=by
  refine Nat.pos_of_ne_zero fun h=>?_
  subst h;rw [a0D] at hb;cases hb
 have vpos:0<a0g v:=by rw [vv];exact Nat.mul_pos b0 f0
 have hup:=a1z a;have hbge:=a6C hb;unfold rD rL at cc cv cu;rw [lf,← hv] at cv;rw [lf,← hU0] at cu;refine a0c.walk w1 b7X rfl fun F=>?_
 change OkS C0 F none F _ ⟨a1h 0 [.sl false 1 ((a0o a).map a0p),.sl false 1 ((a0o b).map a0p)],[],0⟩ _;generalize a0o a=la at *;generalize a0o b=lb at *;obtain ⟨lq,hlq⟩:∃ lq,la.length=lq+(m+2):=⟨la.length - (m+2),by omega⟩
 have hy':=a6T hy;have e3:((((lb.map a0p).length:Nat):Int)==1)=false:=by rw [List.length_map,hb];exact beq_eq_false_iff_ne.2 (by omega)
 have elb:(((lb.map a0p).length:Nat):Int)=((m+2:Nat):Int):=by rw [List.length_map,hb]
 have wlb0:IntKind.i64.wrap (((m+2:Nat):Int) - 1)=((m+1:Nat):Int):=by rw [wI (by omega) (by omega)];omega
 have wlb:IntKind.i64.wrap ((((lb.map a0p).length:Nat):Int) - 1)=((m+1:Nat):Int):=by rw [elb];exact wlb0
 have ea:(((la.map a0p).length:Nat):Int)=(la.length:Int):=by rw [List.length_map]
 have ev:(((v.map a0p).length:Nat):Int)=((m+2:Nat):Int):=by rw [List.length_map,hvl]
 have eu:(((U0.map a0p).length:Nat):Int)=(U0.length:Int):=by rw [List.length_map]
 have wa1:IntKind.i64.wrap ((la.length:Int)+1)=((la.length+1:Nat):Int):=wI (by omega) (by omega);have wq0:IntKind.i64.wrap (((la.length+1:Nat):Int) - ((m+2:Nat):Int))=((lq+1:Nat):Int):=by rw [wI (by omega) (by omega)];omega
 have wq1:IntKind.i64.wrap (((lq+1:Nat):Int) - 1)=((lq+1:Nat):Int) - 1:=wI (by omega) (by omega);have wraw:IntKind.i64.wrap (IntKind.i64.wrap (((la.length+1:Nat):Int) - ((m+2:Nat):Int)) - 1)=((lq+1:Nat):Int) - 1:=by rw [wq0,wq1]
 have r3:List.replicate (lq+1) (ofV (.int .i64 0))=(List.replicate (lq+1) 0).map a0p:=by rw [List.map_replicate];rfl
 refine sR 0 ?_;refine OkS.seq ?_;refine sR 100 ?_;refine cI cc ?_;rw [e1];refine ifI ?_;refine skI ?_;refine OkS.seq ?_;refine sZ 300 ?_;refine nwI e3 ?_;refine ifI ?_;refine skI ?_;refine sZ 600 ?_;refine gwI (ff4 wlb elb wlb0 kN) ?_;refine ixI kT hy' ?_;refine gwI (ff3 wy wf kN) ?_;refine sR 700 ?_;refine a0l.pure [rL lb,rL [f]] _ ⟨.refl _,.nn true 1 _,trivial⟩ cv inferInstance ?_;refine stI ?_;refine sZ 800 ?_;refine nwI ev ?_;clear cc e1 e3 elb wlb wlb0 hy' yl hy wy wf hb;refine OkS.seqX (α:=Nat × Nat) (fun p=>⟨[(0,.sl false 1 (la.map a0p)),(8,.sl true 1 [a0p f]),(9,.sl false 1 (v.map a0p)),(10,i64 ((m+2:Nat):Int)),(11,.osl 904 p.1 1 0 U0.length)],[⟨904,p.1,3,1,U0.map a0p⟩],p.2⟩) (fun _=>True) ?_ ?_
 ·refine rI 900 ?_
  refine a0l.pure [rL la,rL [f]] _ ⟨.refl _,.nn true 1 _,trivial⟩ cu inferInstance ?_;refine stI ?_;exact ⟨rfl,⟨_,_⟩,trivial,wkI⟩
 rintro ⟨g,n2⟩ -;dsimp only;refine OkS.seqX (α:=Nat × Nat × List Nat × Nat) (fun p=>⟨[(0,.sl false 1 (la.map a0p)),(8,.sl true 1 [a0p f]),(9,.sl false 1 (v.map a0p)),(10,i64 ((m+2:Nat):Int)),(11,.osl p.1 p.2.1 1 0 (la.length+1))],[⟨p.1,p.2.1,3,1,p.2.2.1.map a0p⟩],p.2.2.2⟩) (fun p=>p.2.2.1.length=la.length+1∧Rd p.2.2.1∧a0g p.2.2.1=a*f) ?_ ?_
 ·refine OkS.block ?_
  rcases Nat.eq_or_lt_of_le hu1 with hl|hl
  ·have eN:decide (((la.length+1:Nat):Int)<((la.length+1:Nat):Int))=false:=decide_eq_false (by omega)
   rw [hl];refine OkS.loopF (α:=Nat) (fun n=>⟨[(0,.sl false 1 (la.map a0p)),(8,.sl true 1 [a0p f]),(9,.sl false 1 (v.map a0p)),(10,i64 ((m+2:Nat):Int)),(11,.osl 904 g 1 0 (la.length+1))],[⟨904,g,3,1,U0.map a0p⟩],n⟩) (fun _=>0) (fun _ F'=>F'=F) n2 rfl wkI ?_;rintro n3 F' rfl;refine OkS.seq ?_;refine sZ 1000 ?_;refine nwI (ff3 ea wa1 eN) ?_;refine ifI ?_;refine exI ?_;exact ⟨rfl,⟨904,g,U0,_⟩,⟨hl,wU0,vU0⟩,wkI⟩
  ·have hl2:U0.length=la.length:=by omega
   have eN:decide (((la.length+1:Nat):Int)<((la.length+1:Nat):Int))=false:=decide_eq_false (by omega);have eY:decide ((la.length:Int)<((la.length+1:Nat):Int))=true:=decide_eq_true (by omega);have hap:List.take la.length (U0.map a0p)++[D.prim (Value.int IntKind.i64 0)]=(U0++[0]).map a0p:=by
    rw [List.take_of_length_le (by rw [List.length_map];omega),List.map_append];rfl
   rw [hl2];refine OkS.loopF (α:=Bool × Nat × Nat) (fun p=>match p with
    | (false,_,n)=>⟨[(0,.sl false 1 (la.map a0p)),(8,.sl true 1 [a0p f]),(9,.sl false 1 (v.map a0p)),(10,i64 ((m+2:Nat):Int)),(11,.osl 904 g 1 0 la.length)],[⟨904,g,3,1,U0.map a0p⟩],n⟩
    | (true,g1,n)=>⟨[(0,.sl false 1 (la.map a0p)),(8,.sl true 1 [a0p f]),(9,.sl false 1 (v.map a0p)),(10,i64 ((m+2:Nat):Int)),(11,.osl 1102 g1 1 0 (la.length+1))],[⟨1102,g1,3,1,(U0++[0]).map a0p⟩],n⟩) (fun p=>cond p.1 0 1) (fun _ F'=>F'=F) (false,0,n2) rfl wkI ?_
   rintro ⟨_|_,g1,n3⟩ F' rfl
   ·dsimp only
    refine OkS.seq ?_;refine sZ 1000 ?_;refine nwI (ff3 ea wa1 eY) ?_;refine ifI ?_;refine skI ?_;refine OkS.block ?_;refine rI 1100 ?_;refine ⟨(true,n3+8,n3+10),rfl,(by decide:(0:Nat)<1),?_⟩;dsimp only;rw [hap];exact wkI
   ·dsimp only
    refine OkS.seq ?_;refine sZ 1000 ?_;refine nwI (ff3 ea wa1 eN) ?_;refine ifI ?_;refine exI ?_;refine ⟨rfl,⟨1102,g1,U0++[0],_⟩,⟨by rw [List.length_append,hl2];rfl,Rd.append wU0 fun a ha=>?_,by rw [b3K];exact vU0⟩,wkI⟩;simp only [List.mem_cons,List.not_mem_nil,or_false] at ha;subst ha;decide
 rintro ⟨K,gK,U1,n3⟩ ⟨lU1,wU1,vU1⟩;dsimp only at lU1 wU1 vU1 ⊢;refine OkS.rekey [(8,.sl true 1 [a0p f]),(9,.sl false 1 (v.map a0p)),(10,i64 ((m+2:Nat):Int)),(11,.osl 1102 n3 1 0 (la.length+1))] ⟨.inl rfl,.inl rfl,.inl rfl,.inr ⟨_,_,_,rfl,rfl⟩,trivial⟩ ?_;clear cu hU0 vU0 wU0 hu1 hu2 cv;refine OkS.seqX (α:=Nat × Nat) (fun p=>⟨[(8,.sl true 1 [a0p f]),(9,.sl false 1 (v.map a0p)),(10,i64 ((m+2:Nat):Int)),(11,.osl 1102 n3 1 0 (la.length+1)),(12,.osl 1204 p.1 1 0 (lq+1))],[⟨1204,p.1,3,1,(List.replicate (lq+1) 0).map a0p⟩,⟨1102,n3,3,1,U1.map a0p⟩],p.2⟩) (fun _=>True) ?_ ?_
 ·refine OkS.reg w1 1200 (by kernel_rfl) ?_
  refine nwI (ff3 wq0 kN r3) ?_;exact ⟨trivial,⟨_,_⟩,trivial,by rw [← r3];exact wkI⟩
 rintro ⟨g,n2⟩ -;dsimp only;have I0:c4R (a*f) v U1 (List.replicate (lq+1) 0) (la.length+1) (lq+1) (lq+1):=by
  refine b6a f0 vU1 vv wU1 lU1 rfl (Nat.le_refl _) ?_
  have:RB^(lq+1)*RB^(m+1)≤RB^(lq+1)*b:=Nat.mul_le_mul_left _ hbge
  rw [← Nat.pow_add,show lq+1+(m+1)=la.length by omega] at this;omega
 clear hup hbge;refine OkS.seq ?_;refine sZ 1300 ?_;refine nwI wraw ?_;refine OkS.block ?_;refine OkS.loop (α:=Nat × List Nat × List Nat × Nat) (fun p=>⟨[(8,.sl true 1 [a0p f]),(9,.sl false 1 (v.map a0p)),(10,i64 ((m+2:Nat):Int)),(11,.osl 1102 n3 1 0 (la.length+1)),(12,.osl 1204 g 1 0 (lq+1)),(13,i64 ((p.1:Int) - 1))],[⟨1204,g,3,1,p.2.2.1.map a0p⟩,⟨1102,n3,3,1,p.2.1.map a0p⟩],p.2.2.2⟩) (fun p=>p.1)
  (fun p=>p.1≤lq+1∧c4R (a*f) v p.2.1 p.2.2.1 (la.length+1) (lq+1) p.1) (lq+1,U1,List.replicate (lq+1) 0,_) ⟨Nat.le_refl _,I0⟩ wkI ?_
 rintro ⟨k,u,q,n4⟩ F ⟨hk,I⟩;dsimp only at hk I ⊢;clear I0 wq0 wq1 wraw r3 ea eu wU1 vU1 lU1;refine OkS.seq ?_;refine sR 1400 ?_;refine ifI ?_
 (refine brI (fun h20=>?_) (fun h20=>?_))<;>(try simp only [Bool.not_eq_true',Bool.not_eq_false'] at h20)<;>(try simp only [h20])
 ·obtain ⟨j,rfl⟩:∃ j,k=j+1:=⟨k - 1,by
   have:(k:Int) - 1≥0:=by simpa using h20
   omega⟩
  have wj:((j+1:Nat):Int) - 1=(j:Int):=by omega
  obtain ⟨p0,p1,p2,SI,hz,hP⟩:=b5X I hvl wv v1 v2 h2 h1 (Nat.pos_of_ne_zero v10) (by omega);have lu:=I.lU;have cg:=c5O u v j m p0 p1 p2 v2 v1 SI (by omega) (by omega);rw [wj];refine skI ?_;refine OkS.seq ?_;refine OkS.block ?_;refine sR 1600 ?_;refine a0l.own _ (a0m.lendP cg rfl (d2H (FzS.of (b3t lu)) (FzS.of (.refl _)) (FzS.of (.refl _))) inferInstance b5L) ?_;rintro d H' n5 ⟨⟨t,rfl,ht1,ht2,ht3⟩,rfl,rfl⟩;refine stI ?_;obtain ⟨Pn,eP,lPn,wPn,vPn⟩:=b5Y SI;have hA:(u.take j).length=j:=by rw [List.length_take];omega
  have p2l:=SI.p2l;have hdl:a0g ((u.drop j).take (m+3)) / a0g v<RB:=Nat.div_lt_of_lt_mul SI.less;have hU:u.map a0p=blk (u.take j) Pn (p2:Int) (u.drop (j+(m+3))):=by rw [b2Z,← eP,← d4W]
  have J:=fun P' h1 h2 h3=>b5W (P':=P') I vpos (by omega) (by omega) hz hP h1 h2 h3 hdl
  obtain ⟨zq,hzq⟩:=a2Z (l:=q) (i:=j) (by rw [I.lQ];omega);have hzq':=a6T hzq;have wi':IntKind.i64.wrap ((j:Int) - 1)=(j:Int) - 1:=wI (by omega) (by omega);have wjn:IntKind.i64.wrap ((j:Int)+((m+2:Nat):Int))=((j+(m+2):Nat):Int):=by rw [wI (by omega) (by omega)];omega
  have hVW:=a1c wv;rw [show v.length=m+2 from hvl] at hVW;rw [hU];clear hU cg hP hz SI eP h20 wj I h1 h2 v10;generalize (u.drop j).take (m+3)=P at *;generalize u.take j=A at *;generalize u.drop (j+(m+3))=Z at *;refine sR 1700 ?_;refine OkS.seq ?_;refine sR 1800 ?_;refine OkS.block ?_;refine OkS.loop (α:=Nat × Nat × List Nat × Nat) (fun p=>⟨[(8,.sl true 1 [a0p f]),(9,.sl false 1 (v.map a0p)),(10,i64 ((m+2:Nat):Int)),(11,.osl 1102 n3 1 0 (la.length+1)),(12,.osl 1204 g 1 0 (lq+1)),(13,i64 (j:Int)),(14,a0p t),(15,a0p p.2.1),(16,i64 p.1)],[⟨1204,g,3,1,q.map a0p⟩,⟨1102,n3,3,1,blk A p.2.2.1 (p2:Int) Z⟩],p.2.2.2⟩) (fun p=>m+2 - p.1)
   (fun p=>p.1≤m+2∧p.2.1≤RB∧p.2.2.1.length=m+2∧Rd p.2.2.1∧a0g p.2.2.1+t*a0g (v.take p.1)=a0g Pn+RB^p.1*p.2.1) (0,0,Pn,_) ⟨Nat.zero_le _,Nat.zero_le _,lPn,wPn,by simp [a0g]⟩ wkI ?_
  rintro ⟨i,c,N,n6⟩ F ⟨hi,hc,hNl,hNw,hI⟩;dsimp only at hi hc hNl hNw hI ⊢;refine OkS.seq ?_;refine sR 1900 ?_;refine ifI ?_
  (refine brI (fun hlt=>?_) (fun hlt=>?_))<;>(try simp only [Bool.not_eq_true',Bool.not_eq_false'] at hlt)<;>(try simp only [hlt])
  ·have hi2:i<m+2:=by
    have:=of_decide_eq_true hlt
    omega
   obtain ⟨x,hx⟩:=a2Z (l:=v) (i:=i) (by omega);have hx':=a6T hx;have hxl:x<RB:=wv x (List.mem_of_getElem? hx);obtain ⟨z,hz⟩:=a2Z (l:=N) (i:=i) (by omega);have hzl:=hNw z (List.mem_of_getElem? hz);have hz':=c2K (A:=A) (Z:=Z) (top:=(p2:Int)) hz;rw [hA] at hz';obtain ⟨p,x',lo,hi',d,c',e,k1,k2,k3,k4,k5,dl,cl,hI',hb⟩:=c6B hz hx ht1 hxl hc hzl hI;have hset:(blk A N (p2:Int) Z).set (j+i) (a0p d)=blk A (N.set i d) (p2:Int) Z:=by
    have:=b6O (A:=A) (Z:=Z) (top:=(p2:Int)) (i:=i) (d:=d) (N:=N) (by omega)
    rwa [hA] at this
   have wij:IntKind.i64.wrap ((i:Int)+(j:Int))=((j+i:Nat):Int):=by rw [wI (by omega) (by omega)];omega
   have wi:IntKind.i64.wrap ((i:Int)+1)=((i+1:Nat):Int):=wI (by omega) (by omega);clear hI J hVW vPn ht2 ht3 hdl;refine skI ?_;refine OkS.seq ?_;refine OkS.block ?_;refine sZ 2100 ?_;refine gwI kN ?_;refine ixI kT hx' ?_;refine gwI (ff3 kN k1 k2) ?_;refine sZ 2200 ?_;refine gwI (ff6 wij kN Nat.zero_add hz' k3 k5) ?_;refine sZ 2300 ?_;refine nwI k4 ?_;rcases hb with ⟨b1,b2,b3⟩|⟨b1,b2,b3⟩
   ·refine OkS.seq ?_
    refine sZ 2400 ?_;refine nwI b1 ?_;refine ifI ?_;refine skI ?_;subst b2 b3;refine OkS.reg w1 2700 (by kernel_rfl) ?_;refine gwI (ff4 wij kN Nat.zero_add hz') ?_;rw [hset];refine OkS.reg w1 2000 (by kernel_rfl) ?_;refine nwI wi ?_;exact ⟨(i+1,hi',N.set i d,_),⟨hi2,cl,by dsimp only;rw [List.length_set];exact hNl,hNw.set dl,hI'⟩,by dsimp only;omega,wkI⟩
   ·refine OkS.seq ?_
    refine sZ 2400 ?_;refine nwI b1 ?_;refine ifI ?_;refine sZ 2500 ?_;refine nwI b2 ?_;refine OkS.reg w1 2600 (by kernel_rfl) ?_;refine nwI b3 ?_;refine OkS.reg w1 2700 (by kernel_rfl) ?_;refine gwI (ff4 wij kN Nat.zero_add hz') ?_;rw [hset];refine OkS.reg w1 2000 (by kernel_rfl) ?_;refine nwI wi ?_;exact ⟨(i+1,c',N.set i d,_),⟨hi2,cl,by dsimp only;rw [List.length_set];exact hNl,hNw.set dl,hI'⟩,by dsimp only;omega,wkI⟩
  ·have hi2:i=m+2:=by
    have:=of_decide_eq_false hlt
    omega
   subst hi2;rw [List.take_of_length_le (by omega)] at hI;have hNlt:=a1c hNw;rw [hNl] at hNlt;have htop:=b3a (A:=A) (Z:=Z) (top:=(p2:Int)) hNl;have hstop:=b4b (A:=A) (Z:=Z) (top:=(p2:Int)) (t:=(p2:Int) - (c:Int)) hNl;have htop2:=b3a (A:=A) (Z:=Z) (top:=(p2:Int) - (c:Int)) hNl;rw [hA] at htop hstop htop2;have p2l9:p2<1000000000:=p2l;have hc9:c≤1000000000:=hc;have wzc:IntKind.i64.wrap ((p2:Int) - (c:Int))=(p2:Int) - (c:Int):=wI (by omega) (by omega);refine exI ?_;refine sZ 2800 ?_;refine gwI (ff5 wjn kN Nat.zero_add htop wzc) ?_;rw [hstop];rcases Nat.lt_or_ge p2 c with h|h
   ·have e29:decide ((p2:Int) - (c:Int)<0)=true:=decide_eq_true (by omega)
    have ht9:t<1000000000:=ht1;have wt:IntKind.i64.wrap ((t:Int) - 1)=(t:Int) - 1:=wI (by omega) (by omega);refine OkS.seq ?_;refine sZ 2900 ?_;refine gwI (ff5 wjn kN Nat.zero_add htop2 e29) ?_;refine ifI ?_;refine sZ 3000 ?_;refine nwI wt ?_;refine sR 3100 ?_;refine OkS.seq ?_;refine sR 3200 ?_;refine OkS.block ?_;refine OkS.loop (α:=Nat × Nat × List Nat × Nat) (fun p=>⟨[(8,.sl true 1 [a0p f]),(9,.sl false 1 (v.map a0p)),(10,i64 ((m+2:Nat):Int)),(11,.osl 1102 n3 1 0 (la.length+1)),(12,.osl 1204 g 1 0 (lq+1)),(13,i64 (j:Int)),(14,i64 ((t:Int) - 1)),(19,a0p p.2.1),(20,i64 p.1)],[⟨1204,g,3,1,q.map a0p⟩,⟨1102,n3,3,1,blk A p.2.2.1 ((p2:Int) - (c:Int)) Z⟩],p.2.2.2⟩) (fun p=>m+2 - p.1)
     (fun p=>p.1≤m+2∧p.2.1≤1∧p.2.2.1.length=m+2∧Rd p.2.2.1∧a0g p.2.2.1+RB^p.1*p.2.1=a0g N+a0g (v.take p.1)) (0,0,N,_) ⟨Nat.zero_le _,Nat.zero_le _,hNl,hNw,by simp [a0g]⟩ wkI ?_
    rintro ⟨i,c2,N2,n7⟩ F ⟨hi,hc2,hNl2,hNw2,hI2⟩;dsimp only at hi hc2 hNl2 hNw2 hI2 ⊢;clear htop hstop;refine OkS.seq ?_;refine sR 3300 ?_;refine ifI ?_
    (refine brI (fun hlt2=>?_) (fun hlt2=>?_))<;>(try simp only [Bool.not_eq_true',Bool.not_eq_false'] at hlt2)<;>(try simp only [hlt2])
    ·have hi2:i<m+2:=by
      have:=of_decide_eq_true hlt2
      omega
     obtain ⟨x,hx⟩:=a2Z (l:=v) (i:=i) (by omega);have hx':=a6T hx;have hxl:x<RB:=wv x (List.mem_of_getElem? hx);obtain ⟨z,hz⟩:=a2Z (l:=N2) (i:=i) (by omega);have hzl:=hNw2 z (List.mem_of_getElem? hz);have hz':=c2K (A:=A) (Z:=Z) (top:=(p2:Int) - (c:Int)) hz;rw [hA] at hz';obtain ⟨p,s,d,c',k1,k2,k3,k4,dl,cl,hI'⟩:=c6v hz hx hxl hc2 hzl hI2;have hset:(blk A N2 ((p2:Int) - (c:Int)) Z).set (j+i) (a0p d)=blk A (N2.set i d) ((p2:Int) - (c:Int)) Z:=by
      have:=b6O (A:=A) (Z:=Z) (top:=(p2:Int) - (c:Int)) (i:=i) (d:=d) (N:=N2) (by omega)
      rwa [hA] at this
     have wij:IntKind.i64.wrap ((i:Int)+(j:Int))=((j+i:Nat):Int):=by rw [wI (by omega) (by omega)];omega
     have wi:IntKind.i64.wrap ((i:Int)+1)=((i+1:Nat):Int):=wI (by omega) (by omega);clear hI2 hI J hVW vPn ht2 ht3 hdl;refine skI ?_;refine OkS.seq ?_;refine OkS.block ?_;refine OkS.seq ?_;refine OkS.regD w1 3500 [0,1,2,3,4,5,6,7,8,9,10,11] [12,13] (by kernel_rfl) ?_;refine gwI (ff4 wij kN Nat.zero_add hz') ?_;refine ixI kT hx' ?_;refine gwI (ff3 kN k1 k2) ?_;refine sZ 3600 ?_;refine gwI (ff5 wij kN Nat.zero_add hz' k3) ?_;rw [hset];refine OkS.reg w1 3700 (by kernel_rfl) ?_;refine nwI k4 ?_;refine OkS.reg w1 3400 (by kernel_rfl) ?_;refine nwI wi ?_;exact ⟨(i+1,c',N2.set i d,_),⟨hi2,cl,by dsimp only;rw [List.length_set];exact hNl2,hNw2.set dl,hI'⟩,by dsimp only;omega,wkI⟩
    ·have hi2:i=m+2:=by
      have:=of_decide_eq_false hlt2
      omega
     subst hi2;rw [List.take_of_length_le (by omega)] at hI2;have hNlt2:=a1c hNw2;rw [hNl2] at hNlt2;obtain ⟨t0,g1,g2,g3⟩:=c6A hI vPn h hNlt ht3 hI2 hc2 hNlt2 hVW;have htop3:=b3a (A:=A) (Z:=Z) (top:=(p2:Int) - (c:Int)) hNl2;have hstop3:=b4b (A:=A) (Z:=Z) (top:=(p2:Int) - (c:Int)) (t:=((0:Nat):Int)) hNl2;rw [hA] at htop3 hstop3;have wfin:IntKind.i64.wrap ((p2:Int) - (c:Int)+(c2:Int))=((0:Nat):Int):=by rw [g3];rfl
     have et:(t:Int) - 1=((t - 1:Nat):Int):=by omega
     obtain ⟨f1,f2,f3⟩:=c4y (P:=P) (V:=a0g v) hNl2 hNw2 (z:=0) (by decide) (by rw [Nat.mul_zero,Nat.add_zero];exact g2.symm);have J1:=J _ f1 f2 f3;rw [g1] at J1;refine exI ?_;refine OkS.reg w1 3800 (by kernel_rfl) ?_;refine gwI (ff5 wjn kN Nat.zero_add htop3 wfin) ?_;rw [hstop3,b2Z,et];refine OkS.reg w1 3900 (by kernel_rfl) ?_;refine gwI (ff3 kN Nat.zero_add hzq') ?_;rw [b0c];refine OkS.reg w1 1500 (by kernel_rfl) ?_;refine nwI wi' ?_;exact ⟨(j,A++((N2++[0])++Z),q.set j (t - 1),_),⟨by dsimp only;omega,J1⟩,by dsimp only;omega,wkI⟩
   ·have e29:decide ((p2:Int) - (c:Int)<0)=false:=decide_eq_false (by omega)
    obtain ⟨g1,g2⟩:=c6z hI vPn h ht2;have ezc:(p2:Int) - (c:Int)=((p2 - c:Nat):Int):=by omega
    obtain ⟨f1,f2,f3⟩:=c4y hNl hNw (z:=p2 - c) (by omega) g2.symm;have J1:=J _ f1 f2 f3;rw [g1] at J1;refine OkS.seq ?_;refine sZ 2900 ?_;refine gwI (ff5 wjn kN Nat.zero_add htop2 e29) ?_;refine ifI ?_;refine skI ?_;rw [ezc,b2Z];refine OkS.reg w1 3900 (by kernel_rfl) ?_;refine gwI (ff3 kN Nat.zero_add hzq') ?_;rw [b0c];refine OkS.reg w1 1500 (by kernel_rfl) ?_;refine nwI wi' ?_;exact ⟨(j,A++((N++[p2 - c])++Z),q.set j t,_),⟨by dsimp only;omega,J1⟩,by dsimp only;omega,wkI⟩
 ·have hk:k=0:=by
   have:¬ ((k:Int) - 1≥0):=by simpa using h20
   omega
  subst hk;obtain ⟨q1,q2⟩:=b9p f0 I vv;have wu:=I.wU;have wqq:=I.wq;have lu:=I.lU;have lqq:=I.lQ;have hlt:a0g u<RB^(m+2):=by
   have:=I.less
   rw [List.drop_zero] at this;have h:=a1c wv;rw [show v.length=m+2 from hvl] at h;omega
  have hta:=b5Z hlt (by omega);have hll:=a0Z hlt;rw [q2] at hll hta;have ed:a%b*f / f=a%b:=Nat.mul_div_cancel _ f0;have cd:=a9D (a%b*f) f f0 fl (by omega);rw [ed] at cd;clear I;refine exI ?_;refine OkS.weak ⟨[(8,.sl true 1 [a0p f]),(10,i64 ((m+2:Nat):Int)),(11,.sl false 1 (u.map a0p)),(12,.sl false 1 (q.map a0p))],[],_⟩ ⟨.drop (.drop .nil),⟨.refl _,.refl _,b3t lu,b3t lqq,trivial⟩,Nat.le_refl _⟩ ?_;have e5:List.take (m+2) (u.map a0p)=(u.take (m+2)).map a0p:=by
   rw [List.map_take]
  have eu2:(u.map a0p).length=la.length+1:=by rw [List.length_map];omega
  have ct:=a9b (u.take (m+2)) (wu.take _) (by rw [List.length_take];omega);rw [hta] at ct;refine OkS.seq ?_;refine OkS.regD w1 4000 [0,1,2,3,4,5,6,7,8,9,10,11] [12] (by kernel_rfl) ?_;refine gwI (ff4 kN Nat.sub_zero (@List.drop_zero D) e5) ?_;refine a0n.same _ ct inferInstance ?_;have hf0:([a0p f]:List D)[0]? = some (a0p f):=rfl;refine gwI kN ?_;refine ixI kT hf0 ?_;refine gwI kN ?_;refine a0n.same _ cd inferInstance ?_;refine gwI kN ?_;refine sR 4100 ?_;refine a0l.same _ (a9b q wqq (by omega)) inferInstance ?_;refine stI ?_;refine rtI ?_;exact a0a (by rw [q1]) IsPure.out
theorem d4C (a b:Nat)(hb:b≠0)(ha:(a0o a).length<1000000)(hbl:(a0o b).length<1000000):a0b C0 160 [rD a,rD b] (.tup [rD (a / b),rD (a%b)]):=by
 rcases Nat.lt_or_ge a b with h|h
 ·exact b9q a b h ha hbl
 ·rcases hl:(a0o b).length with _|m
  ·have:=a1z b
   rw [hl] at this;simp at this;exact absurd this hb
  ·rcases m with _|m
   ·exact c2c a b h ha hl hb
   ·exact b9r a b m h ha hl
abbrev rZ (z:Int):D:=.agg [boo (decide (z<0)),rD z.natAbs]
def sg (neg:Bool)(n:Nat):Int:=if neg then -(n:Int) else n
theorem c1E {n:Nat}:0<(a0o n).length↔n≠0:=by
 constructor
 ·rintro h rfl
  rw [a0D] at h;cases h
 ·intro h
  rw [a1o h,List.length_cons];exact Nat.succ_pos _
theorem b2i (n:Nat):decide (((((a0o n).map a0p).length:Nat):Int)>0)=decide (n≠0):=by
 have:=@c1E n
 rw [List.length_map];exact decide_eq_decide.2 ⟨fun h=>this.1 (by omega),fun h=>by have:=this.2 h;omega⟩
theorem d4y (neg:Bool)(n:Nat):rZ (sg neg n)=.agg [boo (neg&&decide (n≠0)),rD n]:=by
 unfold rZ sg;cases neg
 ·simp only [Bool.false_eq_true,if_false,Bool.false_and,Int.natAbs_natCast]
  rw [decide_eq_false (by omega)]
 ·simp only [if_true,Bool.true_and,Int.natAbs_neg,Int.natAbs_natCast]
  congr 3
  exact decide_eq_decide.2 (by omega)
theorem b5k (z:Int):sg (decide (z<0)) z.natAbs=z:=by
 unfold sg
 by_cases h:z<0
 ·rw [decide_eq_true h,if_pos rfl];omega
 ·rw [decide_eq_false h,if_neg (by decide)];omega
theorem b9g (b:Bool)(n:Nat):a2c (.agg [boo b,.sl false 1 ((a0o n).map a0p)]):=.agg fun d hd=>by
 simp only [List.mem_cons,List.not_mem_nil,or_false] at hd;rcases hd with rfl|rfl
 ·exact .prim _
 ·exact a8C _
def b2Q (z:Int):Prop:=(a0o z.natAbs).length<1000000
instance  (b:Bool)(n:Nat):IsPure (.agg [boo b,rD n]):=⟨b9g b n⟩
theorem b4h (a b:Nat)(fa:(a0o a).length<1000000)(fb:(a0o b).length<1000000):a0b C0 90 [rD a,rD b] (rD (Nat.gcd a b)):=by
 refine a0c.walk w1 d3O rfl fun F=>?_
 change OkS C0 F none F _ ⟨a1h 0 [.sl false 1 ((a0o a).map a0p),.sl false 1 ((a0o b).map a0p)],[],0⟩ _;refine sR 0 ?_;refine OkS.seq ?_;refine OkS.block ?_;refine OkS.loop (α:=Nat × Nat × Nat) (fun p=>⟨[(0,.sl false 1 ((a0o p.1).map a0p)),(1,.sl false 1 ((a0o p.2.1).map a0p))],[],p.2.2⟩) (fun p=>p.2.1)
  (fun p=>Nat.gcd p.1 p.2.1=Nat.gcd a b∧(a0o p.1).length<1000000∧(a0o p.2.1).length<1000000) (a,b,_) ⟨rfl,fa,fb⟩ wkI ?_
 rintro ⟨x,y,n⟩ F ⟨h1,h2,h3⟩;dsimp only at h1 h2 h3 ⊢;have et:=b2i y;refine OkS.seq ?_;refine sZ 100 ?_;refine nwI et ?_
 by_cases hy:y=0
 ·rw [decide_eq_false (by simpa using hy)]
  subst hy;refine ifI ?_;refine exI ?_;refine sR 400 ?_;refine rtI ?_;refine a0a (d0:=rD x) ?_ IsPure.out;rw [← h1,Nat.gcd_zero_right]
 ·rw [decide_eq_true hy]
  have cd:=d4C x y hy h2 h3;refine ifI ?_;refine skI ?_;refine OkS.block ?_;refine sR 200 ?_;refine cI cd ?_;refine rI 300 ?_;refine ⟨(y,x%y,_),⟨?_,h3,?_⟩,Nat.mod_lt x (by omega),wkI⟩
  ·dsimp only
   rw [← h1,Nat.gcd_comm x y,Nat.gcd_rec y x,Nat.gcd_comm]
  ·exact Nat.lt_of_le_of_lt (a0B _ _ (Nat.mod_le x y)) h2
theorem a7A (neg:Bool)(l:List Nat)(h:Rd l)(hl:l.length<1000000000):a0b C0 162 [boo neg,rL l] (rZ (sg neg (a0g l))):=by
 refine a0c.walk w1 c3o rfl fun F=>?_
 rw [d4y];have ct:=a9b l h (by omega);generalize a0g l=n at *;have et:=b2i n;unfold rD at ct ⊢;unfold rL at ct ⊢;refine sR 0 ?_;refine sR 100 ?_;refine cI ct ?_;refine OkS.seq ?_;cases neg
 ·refine OkS.reg w1 200 (by kernel_rfl) ?_
  refine gwI et ?_;refine rtI ?_;exact a0a (by simp) (b9g _ n)
 ·refine OkS.reg w1 200 (by kernel_rfl) ?_
  refine gwI et ?_;refine rtI ?_;exact a0a (by simp) (b9g _ n)
theorem a3Y (neg:Bool)(n:Nat)(h:(a0o n).length<1000000000):a0b C0 162 [boo neg,rD n] (rZ (sg neg n)):=by
 have:=a7A neg (a0o n) (a0z n) h
 rwa [a0q] at this
theorem b8A (z:Int)(h:b2Q z):a0b C0 159 [rZ z] (rZ (-z)):=by
 have cs:=a3Y (!decide (z<0)) z.natAbs (Nat.lt_trans h (by decide));have e:rZ (sg (!decide (z<0)) z.natAbs)=rZ (-z):=by
  congr 1
  unfold sg
  by_cases hz:z<0
  ·rw [decide_eq_true hz];simp;omega
  ·rw [decide_eq_false hz];simp;omega
 rw [e] at cs;refine a0c.walk w1 c8G rfl fun F=>?_
 refine sR 0 ?_;refine sR 100 ?_;refine cI cs ?_;refine rtI ?_;exact a0a rfl IsPure.out
theorem a8Y (x y:Int)(hx:b2Q x)(hy:b2Q y):a0b C0 94 [rZ x,rZ y] (rZ (x*y)):=by
 have cm:=c6b x.natAbs y.natAbs hx hy;have hl:(a0o (x.natAbs*y.natAbs)).length<1000000000:=Nat.lt_of_le_of_lt (a5y _ _) (by unfold b2Q at hx hy;omega);have cs:=fun b=>a3Y b (x.natAbs*y.natAbs) hl
 have e:sg (decide (x<0) != decide (y<0)) (x.natAbs*y.natAbs)=x*y:=by
  conv=>rhs;rw [← b5k x,← b5k y]
  generalize decide (x<0)=a;generalize decide (y<0)=b;unfold sg;cases a<;>cases b<;>simp [Int.neg_mul,Int.mul_neg]
 rw [← e];refine a0c.walk w1 d3S rfl fun F=>?_
 refine sR 0 ?_;refine OkS.seq ?_;refine OkS.regD w1 100 [0,1,2,3,4,5,6,7,8,9] [10,11] (by kernel_rfl) ?_;refine gwI kN ?_;refine a0n.same _ cm inferInstance ?_;refine gwI kN ?_;refine a0l.same _ (cs _) inferInstance ?_;refine stI ?_;refine rtI ?_;exact a0a rfl IsPure.out
theorem c0O {a b:Nat}(h:b≤a):decide (a6e (a:Int) (b:Int)≥0)=true:=decide_eq_true (by unfold a6e;split<;>(try split)<;>omega)
theorem c0P {a b:Nat}(h:a<b):decide (a6e (a:Int) (b:Int)≥0)=false:=decide_eq_false (by unfold a6e;split<;>(try split)<;>omega)
theorem d1I (x y:Int)(hx:b2Q x)(hy:b2Q y):a0b C0 93 [rZ x,rZ y] (rZ (x+y)):=by
 refine a0c.walk w1 d3R rfl fun F=>?_
 unfold b2Q at hx hy;cases hs:(decide (x<0)==decide (y<0))
 ·have hs':decide (x<0)≠decide (y<0):=by simpa using hs
  have hs2:(x<0∧¬ y<0)∨(¬ x<0∧y<0):=by
   by_cases h1:x<0<;>by_cases h2:y<0<;>simp_all
  have cc:=c0R x.natAbs y.natAbs (by omega) (by omega);refine sR 0 ?_;refine OkS.seq ?_;refine sZ 100 ?_;refine nwI hs ?_;refine ifI ?_;refine skI ?_;refine OkS.seq ?_;refine sR 300 ?_;refine cI cc ?_;rcases Nat.lt_or_ge x.natAbs y.natAbs with h|h
  ·have cb:=d2f y.natAbs x.natAbs (Nat.le_of_lt h) hy
   have cs:=a3Y (decide (y<0)) (y.natAbs - x.natAbs) (Nat.lt_of_le_of_lt (a8G _ _) (by omega));have e:sg (decide (y<0)) (y.natAbs - x.natAbs)=x+y:=by
    unfold sg
    by_cases hy0:y<0
    ·rw [decide_eq_true hy0,if_pos rfl];omega
    ·rw [decide_eq_false hy0,if_neg (by decide)];omega
   rw [e] at cs;rw [c0P h];refine ifI ?_;refine skI ?_;refine OkS.seq ?_;refine OkS.regD w1 500 [0,1,2,3,4,5,6] [7,8] (by kernel_rfl) ?_;refine gwI kN ?_;refine a0n.same _ cb inferInstance ?_;refine gwI kN ?_;refine a0l.same _ cs inferInstance ?_;refine stI ?_;refine rtI ?_;exact a0a rfl IsPure.out
  ·have cb:=d2f x.natAbs y.natAbs h hx
   have cs:=a3Y (decide (x<0)) (x.natAbs - y.natAbs) (Nat.lt_of_le_of_lt (a8G _ _) (by omega));have e:sg (decide (x<0)) (x.natAbs - y.natAbs)=x+y:=by
    unfold sg
    by_cases hx0:x<0
    ·rw [decide_eq_true hx0,if_pos rfl];omega
    ·rw [decide_eq_false hx0,if_neg (by decide)];omega
   rw [e] at cs;rw [c0O h];refine ifI ?_;refine OkS.seq ?_;refine OkS.regD w1 400 [0,1,2,3,4,5,6] [7,8] (by kernel_rfl) ?_;refine gwI kN ?_;refine a0n.same _ cb inferInstance ?_;refine gwI kN ?_;refine a0l.same _ cs inferInstance ?_;refine stI ?_;refine rtI ?_;exact a0a rfl IsPure.out
 ·have hs':decide (x<0)=decide (y<0):=by simpa using hs
  have ca:=d2M x.natAbs y.natAbs hx hy;have cs:=a3Y (decide (x<0)) (x.natAbs+y.natAbs) (Nat.lt_of_le_of_lt (a8F _ _) (by omega));have e:sg (decide (x<0)) (x.natAbs+y.natAbs)=x+y:=by
   unfold sg
   by_cases hx0:x<0
   ·have hy0:y<0:=of_decide_eq_true (hs'.symm.trans (decide_eq_true hx0))
    rw [decide_eq_true hx0,if_pos rfl];omega
   ·have hy0:¬ y<0:=of_decide_eq_false (hs'.symm.trans (decide_eq_false hx0))
    rw [decide_eq_false hx0,if_neg (by decide)];omega
  rw [e] at cs;refine sR 0 ?_;refine OkS.seq ?_;refine sZ 100 ?_;refine nwI hs ?_;refine ifI ?_;refine OkS.seq ?_;refine OkS.regD w1 200 [0,1,2,3,4,5,6] [7,8] (by kernel_rfl) ?_;refine gwI kN ?_;refine a0n.same _ ca inferInstance ?_;refine gwI kN ?_;refine a0l.same _ cs inferInstance ?_;refine stI ?_;refine rtI ?_;exact a0a rfl IsPure.out
theorem b3f (k m:Nat):a2f (k+1) m []=a2f k (m / 10) []++[UInt8.ofNat (48+m%10)]:=by
 rw [← a7U (k+1) m [] (.inr (Nat.succ_pos k))];unfold a2f c6n
 by_cases h:m / 10=0
 ·rw [if_pos h,if_pos h];simp
 ·rw [if_neg h,if_neg h]
  rw [List.append_nil,List.length_append,List.length_singleton,Nat.add_sub_add_right,List.append_assoc]
theorem b3h:∀ (k hi d:Nat),hi≠0→d<10^k→Lib.decDigits (hi*10^k+d)=Lib.decDigits hi++a2f k d []
 | 0,hi,d,_,hd=>by
  have h0:d=0:=by simpa using hd
  subst h0;rw [Nat.pow_zero,Nat.mul_one,Nat.add_zero];simp [a2f,c6n]
 | k+1,hi,d,hh,hd=>by
  have e1:hi*10^(k+1)=10*(hi*10^k):=by rw [Nat.pow_succ,← Nat.mul_assoc,Nat.mul_comm]
  have h1:1≤10^k:=Nat.pow_pos (by decide);have h2:1≤hi*10^k:=Nat.mul_pos (Nat.pos_of_ne_zero hh) h1;have h3:¬ hi*10^(k+1)+d<10:=by omega
  have h4:d / 10<10^k:=by rw [Nat.pow_succ] at hd;omega
  rw [b3f,← List.append_assoc,← b3h k hi (d / 10) hh h4];rw [Lib.decDigits,dif_neg h3,e1]
  congr 2
  ·omega
  ·congr 1;omega
theorem c7Y (hi d:Nat)(h:hi≠0)(hd:d<RB):Lib.decDigits (d+RB*hi)=Lib.decDigits hi++a2f 9 d []:=by
 have:=b3h 9 hi d h (Nat.lt_of_lt_of_le hd (by decide))
 rw [← this]
 congr 1
 rw [Nat.mul_comm,Nat.add_comm]
theorem a7V {l:List Nat}(h:Rd l):(Lib.decDigits (a0g l)).length≤9*l.length+1:=by
 have h1:=a1c h;have e:RB^l.length=10^(9*l.length):=by rw [Nat.pow_mul]
 rw [e] at h1;refine a0R _ _ (Nat.lt_trans h1 ?_);exact Nat.pow_lt_pow_right (by decide) (Nat.lt_succ_self _)
theorem b3A (neg:Bool)(n:Nat)(h:neg=true→n≠0):Lib.itoa (sg neg n)=if neg then 45::Lib.decDigits n else Lib.decDigits n:=by
 unfold Lib.itoa sg;cases neg
 ·simp only [Bool.false_eq_true,if_false]
  rw [if_neg (by omega)];rfl
 ·have:=h rfl
  simp only [if_true];rw [if_pos (by omega),Int.natAbs_neg];rfl
theorem d2j (neg:Bool)(n:Nat)(h:neg=true→n≠0)(hl:(a0o n).length<1000000):a0b C0 161 [.agg [boo neg,rD n]] (str (sb (Lib.itoa (sg neg n)))):=by
 refine a0c.walk w1 c8H rfl fun F=>?_
 rw [b3A neg n h];change OkS C0 F none F _ ⟨a1h 0 [.agg [boo neg,.sl false 1 ((a0o n).map a0p)]],[],0⟩ _;have vn:=a0q n;have wn:=a0z n;have tp:=fun k a=>a3V n (k:=k) (a:=a)
 generalize a0o n=l at *;subst vn;rcases hc:l.length with _|m
 ·have e0:l=[]:=List.eq_nil_of_length_eq_zero hc
  subst e0;have hn:neg=false:=by cases neg;rfl;exact absurd rfl (h rfl)
  subst hn;have e1:Lib.decDigits (a0g [])=[48]:=by unfold Lib.decDigits a0g;rw [dif_pos (by decide)];rfl
  rw [if_neg (by decide),e1];refine sR 0 ?_;refine OkS.seq ?_;refine sR 100 ?_;refine ifI ?_;refine sR 200 ?_;refine rtI ?_;exact a0a rfl IsPure.out
 ·obtain ⟨y,hy⟩:=a2Z (l:=l) (i:=m) (by omega)
  have yl:=wn y (List.mem_of_getElem? hy);have y0:=tp m y hc hy;have hy':=a6T hy;have el:(((l.map a0p).length:Nat):Int)=((m+1:Nat):Int):=by rw [List.length_map,hc]
  have et:(((m+1:Nat):Int)==0)=false:=beq_eq_false_iff_ne.2 (by omega);have w0:IntKind.i64.wrap (((m+1:Nat):Int) - 1)=(m:Int):=by rw [wI (by omega) (by omega)];omega
  have w2:IntKind.i64.wrap (((m+1:Nat):Int) - 2)=(m:Int) - 1:=by rw [wI (by omega) (by omega)];omega
  have cd:=a4M y 1 (by unfold RB at yl;omega);rw [b7f] at cd;have wr0:IntKind.i64.wrap ((((l.map a0p).length:Nat):Int) - 1)=(m:Int):=by rw [el,w0]
  have ed:l.drop m=[y]:=by
   rw [List.drop_eq_getElem_cons (by omega),List.drop_of_length_le (by omega)];rw [List.getElem?_eq_getElem (by omega)] at hy;rw [Option.some.inj hy]
  refine sR 0 ?_;refine OkS.seq ?_;refine sZ 100 ?_;refine nwI (ff2 el et) ?_;refine ifI ?_;refine skI ?_;refine sZ 300 ?_;refine gwI (ff4 el w0 wr0 kN) ?_;refine ixI kT hy' ?_;refine gwI kN ?_;refine a0l.same _ cd inferInstance ?_;refine stI ?_;have ev:a0g (l.drop m)=y:=by rw [ed];simp [a0g]
  refine OkS.seq ?_;refine sZ 400 ?_;refine nwI (ff2 el w2) ?_;refine OkS.block ?_;refine OkS.loop (α:=Nat × Nat) (fun p=>⟨[(1,.optr 0 0 2 0 0),(3,str (sb (Lib.decDigits (a0g (l.drop p.1))))),(4,i64 ((p.1:Int) - 1))],[⟨0,0,157,2,[.agg [boo neg,.sl false 1 (l.map a0p)]]⟩],p.2⟩) (fun p=>p.1)
   (fun p=>p.1≤m∧a0g (l.drop p.1)≠0) (m,_) ⟨Nat.le_refl _,by dsimp only;rw [ev];exact y0⟩ (by dsimp only;rw [ev];exact wkI) ?_
  rintro ⟨k,n1⟩ F ⟨h1,h2⟩;dsimp only at h1 h2 ⊢;clear cd;refine OkS.seq ?_;refine sR 500 ?_;refine ifI ?_
  (refine brI (fun h20=>?_) (fun h20=>?_))<;>(try simp only [Bool.not_eq_true',Bool.not_eq_false'] at h20)<;>(try simp only [h20])
  ·obtain ⟨j,rfl⟩:∃ j,k=j+1:=⟨k - 1,by
    have:(k:Int) - 1≥0:=by simpa using h20
    omega⟩
   have wj:((j+1:Nat):Int) - 1=(j:Int):=by omega
   obtain ⟨d,hd⟩:=a2Z (l:=l) (i:=j) (by omega);have hd':=a6T hd;have dl:=wn d (List.mem_of_getElem? hd);have c9:=a4M d 9 (by unfold RB at dl;omega);have eD:Lib.decDigits (a0g (l.drop (j+1)))++a2f 9 d []=Lib.decDigits (a0g (l.drop j)):=by rw [a4T hd,c7Y _ _ h2 dl]
   have hlen:=a7V (l:=l.drop j) fun a ha=>wn a (List.mem_of_mem_drop ha)
   rw [← eD,List.length_append,List.length_drop] at hlen;have h3:a0g (l.drop j)≠0:=by
    rw [a4T hd]
    have:0<RB*a0g (l.drop (j+1)):=Nat.mul_pos (by decide) (Nat.pos_of_ne_zero h2)
    omega
   have z1:=a0u (Lib.decDigits (a0g (l.drop (j+1))));have z2:=a5q (a2f 9 d []);have wi:IntKind.i64.wrap ((j:Int) - 1)=(j:Int) - 1:=wI (by omega) (by omega);rw [wj];refine skI ?_;refine OkS.seq ?_;refine OkS.block ?_;refine OkS.reg w1 700 (by kernel_rfl) ?_;refine gwI kN ?_;refine ixI kT hd' ?_;refine gwI kN ?_;refine a0l.same _ c9 inferInstance ?_;refine stI ?_;rw [a3v,eD];refine OkS.reg w1 600 (by kernel_rfl) ?_;refine nwI wi ?_;exact ⟨(j,_),⟨by dsimp only;omega,h3⟩,by dsimp only;omega,wkI⟩
  ·have hk:k=0:=by
    have:¬ ((k:Int) - 1≥0):=by simpa using h20
    omega
   subst hk;rw [List.drop_zero] at h2 ⊢;have hlen:=a7V wn;have z1:=a0u (Lib.decDigits (a0g l));have z2:(⟨#[45]⟩:ByteArray).size=1:=rfl;refine exI ?_;refine OkS.seq ?_;refine OkS.seq ?_;cases neg
   ·refine rI 800 ?_
    refine ifI ?_;refine skI ?_;rw [if_neg (by decide)];refine sR 1000 ?_;refine rtI ?_;exact a0a rfl IsPure.out
   ·refine rI 800 ?_
    refine ifI ?_;rw [if_pos rfl];refine sR 900 ?_;refine rtI ?_;refine a0a ?_ IsPure.out;show str ((⟨([45]:List UInt8).toArray⟩:ByteArray)++⟨(Lib.decDigits (a0g l)).toArray⟩)=_;rw [a3v];rfl
theorem c0e (z:Int)(h:b2Q z):a0b C0 161 [rZ z] (str (sb (Lib.itoa z))):=by
 have:=d2j (decide (z<0)) z.natAbs (fun h=>by have:=of_decide_eq_true h;omega) h
 rwa [b5k] at this
theorem a0m.give {C:Ctx}{f:Nat}{ds ds':List D}{Φ:D→Prop}{H:Hp}{n:Nat}(Hf:Hp)(hc:a0c C f ds' Φ)(hH:FzH H Hf H Hf)(hv:FzL H Hf ds ds')
  (hp:ArePure ds'):a0m C f ds H n (fun d' H' n'=>Φ d'∧H'=Hf∧n'=n+1):=by
 refine ⟨hc.1,fun F ρ w vs m hfr hg hvs hr=>?_⟩;obtain ⟨m',hO,hN⟩:=hH.mem m;obtain ⟨l1,l2⟩:=hv.spec;refine (hc.2 (Own F.X ρ Hf) w vs m.g (Nat.le_trans m.gn m.size) (fun b hb=>m'.own_lt hb) (by omega) fun i x hx=>?_).mono ?_
 ·have hi:i<ds'.length:=(List.getElem?_eq_some_iff.1 hx).1
  have hd0:ds[i]? = some ds[i]:=List.getElem?_eq_getElem (by omega);exact hp.out x (List.mem_of_getElem? hx) _ _ _ _ _ ((l2 i _ x hd0 hx).rep m hO hN (hr i _ hd0))
 ·rintro e w' ⟨v,d',rfl,hb,hd',rep⟩
  have hb2:∀ (b:Nat) (cs:Array Value) (T:Nat) (fz:Nat × Nat),w.heap[b]? = some (.cells cs T fz)→∃ (cs':Array Value) (fz':Nat × Nat),w'.heap[b]? = some (.cells cs' T fz')∧cs'.size=cs.size:=fun b cs T fz hh=>⟨cs,_,by
   rw [hb.block b (Array.getElem?_eq_some_iff.1 hh).1];exact hh,rfl⟩
  have x:Ext ρ (Own F.X ρ H) w ρ (Own F.X ρ Hf) w':=⟨hb.size,fun _ _ _ h=>h,fun b hb' hO2=>⟨fun h=>hO2 (hO b h),hb.block b hb'⟩,hb2⟩
  have x':Ext ρ (Own F.X ρ Hf) w ρ (Own F.X ρ Hf) w':=⟨hb.size,fun _ _ _ h=>h,fun b hb' hO2=>⟨hO2,hb.block b hb'⟩,hb2⟩
  refine ⟨v,_,Hf,n+1,ρ,rfl,⟨hd',rfl,rfl⟩,m'.same x' hb.os hb.tape hb.output hb.block,x,fun k g hg'=>hfr k g (by omega),fun e he=>?_,rep.mono ⟨Nat.le_refl _,fun _ _ _ h=>(by cases h),fun b _ hO2=>⟨hO2,rfl⟩,fun b cs T fz h=>⟨cs,_,h,rfl⟩⟩⟩;obtain ⟨e',h1,h2,h3,_⟩:=hH.names e he
  have:=hg e' h1
  omega
theorem b6f {l : List UInt8} {i : Nat} {c : UInt8} (hc : l[i]? = some c) (hi : i ≤ a0d l) : (((c.toNat : Nat) : Int) == 47) = decide (i = a0d l) := by
  have e1 : (((c.toNat : Nat) : Int) == 47) = (c == 47) := by
    rw [Bool.eq_iff_iff, beq_iff_eq, beq_iff_eq, ← UInt8.toNat_inj]
    exact ⟨fun h => by have : c.toNat = 47 := by omega
                       exact this, fun h => by rw [h]; rfl⟩
  rw [e1]
  unfold a0d at hi ⊢
  clear e1
  induction l generalizing i with
  | nil => cases hc
  | cons a l ih =>
    rw [List.takeWhile_cons] at hi ⊢
    cases i with
    | zero =>
      cases hc
      by_cases h : c = 47
      · subst h; rfl
      · have h1 : (c != 47) = true := by simpa using h
        have h2 : (c == 47) = false := by simpa using h
        rw [if_pos h1, h2, List.length_cons, decide_eq_false (by omega)]
    | succ i =>
      by_cases h : a = 47
      · subst h
        exact absurd hi (by simp)
      · have h1 : (a != 47) = true := by simpa using h
        rw [if_pos h1, List.length_cons] at hi ⊢
        rw [ih hc (by omega)]
        exact decide_eq_decide.2 (by omega)
theorem b1n (l:List UInt8)(h:l.all a0y=true)(hl:l.length≤18):a0b C0 165 [str (sb l)] (i64 (dv l:Int)):=by
 refine a0c.walk w1 c8K rfl fun F=>?_
 have hsz:=a0u l;refine sR 0 ?_;refine sR 100 ?_;refine OkS.seq ?_;refine sR 200 ?_;refine OkS.block ?_;refine OkS.loop (α:=Nat × Nat) (fun p=>⟨[(0,str (sb l)),(3,i64 (dv (l.take p.1):Int)),(4,i64 (p.1:Int))],[],p.2⟩) (fun p=>l.length - p.1) (fun p=>p.1≤l.length) (0,_) (Nat.zero_le _) wkI ?_;rintro ⟨i,n⟩ F hi;dsimp only at hi ⊢;refine OkS.seq ?_;refine sZ 300 ?_;refine nwI hsz ?_;refine ifI ?_
 (refine brI (fun hlt=>?_) (fun hlt=>?_))<;>(try simp only [Bool.not_eq_true',Bool.not_eq_false'] at hlt)<;>(try simp only [hlt])
 ·have hi2:i<l.length:=by
   have:=of_decide_eq_true hlt
   omega
  obtain ⟨c,hc⟩:∃ c,l[i]? = some c:=⟨l[i],List.getElem?_eq_getElem hi2⟩
  have hcd:a0y c=true:=List.all_eq_true.1 h c (List.mem_of_getElem? hc);obtain ⟨c1,c2⟩:=a2n hcd;have hg:(sb l).data.toList.getD i 0=c:=by
   show (l.toArray.toList).getD i 0=c;simp [hc]
  have hdl:dv (l.take i)<10^17:=by
   have:=a5c (l.take i) (List.all_eq_true.2 fun a ha=>List.all_eq_true.1 h a (List.mem_of_mem_take ha))
   rw [List.length_take,Nat.min_eq_left hi] at this;exact Nat.lt_of_lt_of_le this (Nat.pow_le_pow_right (by decide) (by omega))
  have hnx:dv (l.take (i+1))=dv (l.take i)*10+(c.toNat - 48):=by
   rw [List.take_add_one,hc];show dv (l.take i++[c])=_;rw [a4o];simp [dv,dvF]
  have k1:IntKind.i64.wrap (10*(dv (l.take i):Int))=((10*dv (l.take i):Nat):Int):=by rw [wI (by omega) (by omega)];omega
  have k2:IntKind.i64.wrap ((c.toNat:Nat):Int)=((c.toNat:Nat):Int):=wI (by omega) (by omega);have k3:IntKind.i64.wrap (((10*dv (l.take i):Nat):Int)+((c.toNat:Nat):Int))=((10*dv (l.take i)+c.toNat:Nat):Int):=by rw [wI (by omega) (by omega)];omega
  have k4:IntKind.i64.wrap (((10*dv (l.take i)+c.toNat:Nat):Int) - 48)=((dv (l.take (i+1)):Nat):Int):=by rw [hnx,wI (by omega) (by omega)];omega
  have wi:IntKind.i64.wrap ((i:Int)+1)=((i+1:Nat):Int):=wI (by omega) (by omega);refine skI ?_;refine OkS.seq ?_;refine OkS.block ?_;refine OkS.reg w1 500 (by kernel_rfl) ?_;refine nwI (ff6 kN hg k1 k2 k3 k4) ?_;refine OkS.reg w1 400 (by kernel_rfl) ?_;refine nwI wi ?_;exact ⟨(i+1,_),hi2,by dsimp only;omega,wkI⟩
 ·have hi2:i=l.length:=by
   have:=of_decide_eq_false hlt
   omega
  subst hi2;rw [List.take_of_length_le (Nat.le_refl _)];refine exI ?_;refine sR 600 ?_;refine rtI ?_;exact a0a rfl IsPure.out
theorem b3P (l:List UInt8)(hl:l.length≤1000000000):a0b C0 87 [str (sb l)] (i64 (a0d l:Int)):=by
 refine a0c.walk w1 d3L rfl fun F=>?_
 have hsz:=a0u l;refine sR 0 ?_;refine OkS.seq ?_;refine sR 100 ?_;refine OkS.block ?_;refine OkS.loop (α:=Nat × Nat) (fun p=>⟨[(0,str (sb l)),(3,i64 (p.1:Int))],[],p.2⟩) (fun p=>l.length - p.1) (fun p=>p.1≤a0d l) (0,_) (Nat.zero_le _) wkI ?_;rintro ⟨i,n⟩ F hi;dsimp only at hi ⊢;have hsl:=a2r l;refine OkS.seq ?_;refine sZ 200 ?_;refine nwI hsz ?_;refine ifI ?_
 (refine brI (fun hlt=>?_) (fun hlt=>?_))<;>(try simp only [Bool.not_eq_true',Bool.not_eq_false'] at hlt)<;>(try simp only [hlt])
 ·have hi2:i<l.length:=by
   have:=of_decide_eq_true hlt
   omega
  obtain ⟨c,hc⟩:∃ c,l[i]? = some c:=⟨l[i],List.getElem?_eq_getElem hi2⟩
  have hg:(sb l).data.toList.getD i 0=c:=by
   show (l.toArray.toList).getD i 0=c;simp [hc]
  have wi:IntKind.i64.wrap ((i:Int)+1)=((i+1:Nat):Int):=wI (by omega) (by omega);have ht:(((c.toNat:Nat):Int)==47)=decide (i=a0d l):=b6f hc hi;refine skI ?_;refine OkS.seq ?_;refine OkS.block ?_;refine sZ 400 ?_;refine nwI (ff3 kN hg ht) ?_
  by_cases he:i=a0d l
  ·rw [decide_eq_true he]
   refine ifI ?_;refine sR 500 ?_;refine rtI ?_;exact a0a (by rw [he]) IsPure.out
  ·rw [decide_eq_false he]
   refine ifI ?_;refine skI ?_;refine OkS.reg w1 300 (by kernel_rfl) ?_;refine nwI wi ?_;exact ⟨(i+1,_),by dsimp only;omega,by dsimp only;omega,wkI⟩
 ·have hi2:i=l.length:=by
   have:=of_decide_eq_false hlt
   omega
  refine exI ?_;refine sZ 600 ?_;refine nwI hsz ?_;refine rtI ?_;exact a0a (by congr 3;omega) IsPure.out
theorem b0G {H Hf:Hp}{K g T:Nat}{l:List Nat}{N:Nat}(hl:l.length=N)(he:Hp.get H K=some ⟨K,g,T,1,l.map a0p⟩:=by exact rfl)(hn:Hp.get Hf K=none:=by exact rfl):Fz H Hf (.osl K g 1 0 N) (.sl false 1 (l.map a0p)):=by
 subst hl;have key:∀ (j:Nat) (d d':D),(l.map a0p)[0+j]? = some d→(l.map a0p)[j]? = some d'→d=d':=fun j d d' h1 h2=>by
  rw [Nat.zero_add] at h1;rw [h1] at h2;exact Option.some.inj h2
 refine .osl (e:=⟨K,g,T,1,l.map a0p⟩) he hn rfl rfl (by simp) (by simp) (fun j d d' h1 h2=>by rw [key j d d' h1 h2]) fun j d d' q c c' h1 h2 h3 h4=>?_
 rw [key j d d' h1 h2] at h3;rw [h3] at h4;cases h4;exact Fz.refl _
theorem a7v (c : UInt8) (l : List UInt8) : (((c.toNat : Nat) : Int) == 45) = a1P (c :: l) := by
  show _ = (c == 45)
  rw [Bool.eq_iff_iff, beq_iff_eq, beq_iff_eq, ← UInt8.toNat_inj]
  exact ⟨fun h => by have : c.toNat = 45 := by omega
                     exact this, fun h => by rw [h]; rfl⟩
abbrev b5C:Ent:=⟨0,0,157,2,[.agg [boo false,a2d]]⟩
theorem c8d {x:List UInt8}(h:9<x.length):dv x=dv (x.take (x.length - 9))*RB+dv (x.drop (x.length - 9)):=by
 conv=>lhs;rw [← List.take_append_drop (x.length - 9) x,a4o,List.length_drop,show x.length - (x.length - 9)=9 by omega]
theorem d1K (A B t n v:Nat):(A*B+t)*B^n+v=A*B^(n+1)+(v+B^n*t):=by
 rw [Nat.add_mul,Nat.mul_assoc,Nat.pow_succ,Nat.mul_comm B,Nat.mul_comm t];omega
theorem a9W {x x0:List UInt8}{w:List Nat}(h9:9<x.length)(g1:x.all a0y=true)(g2:x.length+w.length*9=x0.length)(g3:Rd w)(g4:dv x0=dv x*RB^w.length+a0g w) :
  (x.take (x.length - 9)).all a0y=true∧(x.take (x.length - 9)).length+(w++[dv (x.drop (x.length - 9))]).length*9=x0.length∧Rd (w++[dv (x.drop (x.length - 9))]) ∧
  dv x0=dv (x.take (x.length - 9))*RB^(w++[dv (x.drop (x.length - 9))]).length+a0g (w++[dv (x.drop (x.length - 9))]):=by
 refine ⟨List.all_eq_true.2 fun a ha=>List.all_eq_true.1 g1 a (List.mem_of_mem_take ha),?_,Rd.append g3 fun a ha=>?_,?_⟩
 ·rw [List.length_take,List.length_append,List.length_singleton];omega
 ·simp only [List.mem_cons,List.not_mem_nil,or_false] at ha
  subst ha
  have:=a5c (x.drop (x.length - 9)) (List.all_eq_true.2 fun a ha=>List.all_eq_true.1 g1 a (List.mem_of_mem_drop ha))
  rwa [List.length_drop,show x.length - (x.length - 9)=9 by omega] at this
 ·rw [g4,c8d h9,a0P rfl,List.length_append,List.length_singleton]
  exact d1K _ _ _ _ _
theorem b8W {x x0:List UInt8}{w:List Nat}(h9:x.length≤9)(g1:x.all a0y=true)(g3:Rd w)(g4:dv x0=dv x*RB^w.length+a0g w):Rd (w++[dv x])∧a0g (w++[dv x])=dv x0:=by
 refine ⟨Rd.append g3 fun a ha=>?_,?_⟩
 ·simp only [List.mem_cons,List.not_mem_nil,or_false] at ha
  subst ha;exact Nat.lt_of_lt_of_le (a5c x g1) (Nat.pow_le_pow_right (by decide) h9)
 ·rw [g4,a0P rfl,Nat.mul_comm,Nat.add_comm]
theorem b6I {w:List Nat}{a:Nat}:List.take w.length (w.map a0p)++[i64 (a:Int)]=(w++[a]).map a0p:=by
 rw [List.take_of_length_le (by rw [List.length_map];exact Nat.le_refl _),List.map_append];rfl
theorem b8X (l:List UInt8)(hd:(a0j l).all a0y=true)(hl:l.length≤1000000):a0b C0 164 [str (sb l)] (rZ (rv l)):=by
 have er:rv l=sg (a1P l) (dv (a0j l)):=rfl;rw [er];refine a0c.walk w1 c8J rfl fun F=>?_
 have hsz:=a0u l;have hdl:(a0j l).length≤l.length:=by
  unfold a0j;split
  ·rw [List.length_drop];omega
  ·exact Nat.le_refl _
 refine sR 0 ?_;refine OkS.seqX (α:=Nat) (fun n=>⟨[(0,str (sb l)),(2,.optr 0 0 2 0 0),(3,boo (a1P l))],[b5C],n⟩) (fun _=>True) ?_ ?_
 ·cases l with
  | nil =>
   have e0:(sb []).size=0:=rfl;have e1:decide (((0:Nat):Int)>0)=false:=rfl;refine OkS.reg w1 100 (by kernel_rfl) ?_;refine gwI (ff2 e0 e1) ?_;refine gwI (ff2 kF e1) ?_;exact ⟨trivial,_,trivial,wkI⟩
  | cons c l =>
   have hpos:(sb (c::l)).size=l.length+1:=hsz;have e0:decide (((sb (c::l)).size:Int)>0)=true:=decide_eq_true (by omega);have e1:((((c::l).getD (Int.toNat 0) 0).toNat:Int)==45)=a1P (c::l):=a7v c l;refine OkS.reg w1 100 (by kernel_rfl) ?_;refine gwI e0 ?_;refine gwI (ff3 kT e0 e1) ?_;exact ⟨trivial,_,trivial,wkI⟩
 rintro n0 -;refine OkS.seqX (α:=Nat) (fun n=>⟨[(0,str (sb (a0j l))),(2,.optr 0 0 2 0 0),(3,boo (a1P l))],[b5C],n⟩) (fun _=>True) ?_ ?_
 ·refine sR 200 ?_
  cases hb:a1P l
  ·have ed:a0j l=l:=by unfold a0j;rw [hb];rfl
   rw [ed];refine ifI ?_;refine skI ?_;exact ⟨rfl,_,trivial,wkI⟩
  ·have ed:a0j l=l.drop 1:=by unfold a0j;rw [hb];rfl
   have hl0:1≤l.length:=by
    cases l with
    | nil=>cases hb
    | cons c l=>rw [List.length_cons];omega
   have ee:(sb l).extract (Int.toNat 1) l.length=sb (a0j l):=by
    rw [a1Z,List.take_of_length_le (Nat.le_refl _),ed];rfl
   refine ifI ?_;refine OkS.reg w1 300 (by kernel_rfl) ?_;refine gwI (ff2 hsz kN) ?_;rw [ee];exact ⟨trivial,_,trivial,wkI⟩
 rintro n1 -;generalize a1P l=neg at *;generalize a0j l=x0 at *;clear er hsz;have hx0:x0.length≤1000000:=Nat.le_trans hdl hl;clear hdl hl l;refine sR 400 ?_;refine OkS.seq ?_;refine OkS.block ?_;refine OkS.loop (α:=Bool × List UInt8 × List Nat × Nat × Nat) (fun p=>match p with
  | (false,x,_,_,n)=>⟨[(0,str (sb x)),(2,.optr 0 0 2 0 0),(3,boo neg),(4,a2d)],[b5C],n⟩
  | (true,x,w,g,n)=>⟨[(0,str (sb x)),(2,.optr 0 0 2 0 0),(3,boo neg),(4,.osl 608 g 1 0 w.length)],[⟨608,g,3,1,w.map a0p⟩,b5C],n⟩) (fun p=>p.2.1.length)
  (fun p=>p.2.1.all a0y=true∧p.2.1.length+p.2.2.1.length*9=x0.length∧Rd p.2.2.1∧dv x0=dv p.2.1*RB^p.2.2.1.length+a0g p.2.2.1∧(p.1=false→p.2.2.1=[]))
  (false,x0,[],0,_) ⟨hd,rfl,(fun a ha=>by cases ha),by simp [a0g],fun _=>rfl⟩ wkI ?_
 rintro ⟨t,x,w,g,n2⟩ F ⟨g1,g2,g3,g4,g5⟩;dsimp only at g1 g2 g3 g4 g5;have hsz:=a0u x
 by_cases h9:9<x.length
 ·have ht:decide ((x.length:Int)>9)=true:=decide_eq_true (by omega)
  have cv:=b1n (x.drop (x.length - 9)) (List.all_eq_true.2 fun a ha=>List.all_eq_true.1 g1 a (List.mem_of_mem_drop ha)) (by rw [List.length_drop];omega);have wk:IntKind.i64.wrap ((x.length:Int) - 9)=((x.length - 9:Nat):Int):=by rw [wI (by omega) (by omega)];omega
  have wr:IntKind.i64.wrap (((sb x).size:Int) - 9)=((x.length - 9:Nat):Int):=by rw [hsz,wk]
  have e1:(sb x).extract (x.length - 9) x.length=sb (x.drop (x.length - 9)):=by rw [a1Z,List.take_of_length_le (Nat.le_refl _)]
  have e2:(sb x).extract 0 (x.length - 9)=sb (x.take (x.length - 9)):=by rw [a1Z,List.drop_zero]
  cases t
  ·dsimp only
   obtain rfl:=g5 rfl;refine OkS.seq ?_;refine sZ 500 ?_;refine nwI (ff2 hsz ht) ?_;refine ifI ?_;refine skI ?_;refine OkS.block ?_;refine sZ 600 ?_;refine gwI (ff5 hsz wk wr kN e1) ?_;refine a0l.same _ cv inferInstance ?_;refine stI ?_;have J:=a9W h9 g1 g2 g3 g4;rw [List.nil_append] at J;refine OkS.reg w1 700 (by kernel_rfl) ?_;refine gwI (ff4 hsz wk wr kN) ?_;refine gwI e2 ?_;exact ⟨(true,x.take (x.length - 9),[dv (x.drop (x.length - 9))],n2+11,_),⟨J.1,J.2.1,J.2.2.1,J.2.2.2,fun h=>by cases h⟩,by dsimp only;rw [List.length_take];omega,wkI⟩
  ·dsimp only
   clear g5;have J:=a9W h9 g1 g2 g3 g4;have ew:(w.map a0p).length=w.length:=List.length_map _;have el:w.length+1=(w++[dv (x.drop (x.length - 9))]).length:=by rw [List.length_append];rfl
   refine OkS.seq ?_;refine sZ 500 ?_;refine nwI (ff2 hsz ht) ?_;refine ifI ?_;refine skI ?_;refine OkS.block ?_;refine sZ 600 ?_;refine gwI (ff5 hsz wk wr kN e1) ?_;refine a0l.same _ cv inferInstance ?_;refine stI ?_;rw [b6I,el];refine OkS.reg w1 700 (by kernel_rfl) ?_;refine gwI (ff4 hsz wk wr kN) ?_;refine gwI e2 ?_;exact ⟨(true,x.take (x.length - 9),w++[dv (x.drop (x.length - 9))],n2+11,_),⟨J.1,J.2.1,J.2.2.1,J.2.2.2,fun h=>by cases h⟩,by dsimp only;rw [List.length_take];omega,wkI⟩
 ·have ht:decide ((x.length:Int)>9)=false:=decide_eq_false (by omega)
  have cv:=b1n x g1 (by omega);obtain ⟨r1,r2⟩:=b8W (by omega) g1 g3 g4;have cs:=a7A neg (w++[dv x]) r1 (by rw [List.length_append,List.length_singleton];omega);rw [r2] at cs;cases t
  ·dsimp only
   obtain rfl:=g5 rfl;refine OkS.seq ?_;refine sZ 500 ?_;refine nwI (ff2 hsz ht) ?_;refine ifI ?_;refine exI ?_;refine sR 800 ?_;refine a0l.same _ cv inferInstance ?_;refine stI ?_;refine a0l.own _ (a0m.give [b5C] cs (.drop (.keep .nil)) ⟨.refl _,b0G rfl,trivial⟩ inferInstance) ?_;rintro d H' n' ⟨rfl,rfl,rfl⟩;refine stI ?_;refine rtI ?_;exact a0a rfl IsPure.out
  ·dsimp only
   clear g5;have ew:(w.map a0p).length=w.length:=List.length_map _;have el:w.length+1=(w++[dv x]).length:=by rw [List.length_append];rfl
   refine OkS.seq ?_;refine sZ 500 ?_;refine nwI (ff2 hsz ht) ?_;refine ifI ?_;refine exI ?_;refine sR 800 ?_;refine a0l.same _ cv inferInstance ?_;refine stI ?_;rw [b6I,el];refine a0l.own _ (a0m.give [b5C] cs (.drop (.keep .nil)) ⟨.refl _,b0G rfl,trivial⟩ inferInstance) ?_;rintro d H' n' ⟨rfl,rfl,rfl⟩;refine stI ?_;refine rtI ?_;exact a0a rfl IsPure.out
end Go.Ide
