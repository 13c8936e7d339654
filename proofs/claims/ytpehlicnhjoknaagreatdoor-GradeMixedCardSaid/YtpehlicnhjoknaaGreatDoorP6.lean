/- The layer of own lemmas and contracts, part 6. -/
import Derived.Test.YtpehlicnhjoknaaGreatDoorP4
import Derived.Test.YtpehlicnhjoknaaGreatDoorP3
import Derived.Test.YtpehlicnhjoknaaGreatDoorP5
import Derived.Lib.AppendIntMem
import Derived.Lib.SmallJoins
import Derived.Shelf.Spec.BitsCarry
import Derived.Laws.StandIn
set_option linter.unusedVariables false
set_option linter.unusedSimpArgs false
namespace Go.Ide
open Go Go.Ide Go.Proofs Go.RowKit
set_option maxRecDepth 100000
def G0 (w:World):Prop:=Lib.TabIs Tryz.prog w "internal/strconv.uint64pow10" .u64 Lib.pow10Tab
theorem b9i:Tryz.prog.globalNamed "internal/strconv.uint64pow10" = some 3:=by kernel_rfl
theorem c0c {w w':World}(h:G0 w)(b:Below (3+1) w w'):G0 w':=by
 unfold G0 Lib.TabIs World.var? at h ⊢;rw [b9i] at h ⊢;simp only [Option.bind_some] at h ⊢;rw [b.block _ (by decide)];exact h
noncomputable def C0:Ctx:={P:=Tryz.prog,G:=G0,nG:=3+1,hG:=fun _ _=>c0c}
def b0m:D:=.mp [.prim (.string ⟨#[108,105,110,101]⟩),.prim (.string ⟨#[122,105,103,122,97,103]⟩),.prim (.string ⟨#[103,114,105,100]⟩),.prim (.string ⟨#[113,117,105,110,99,117,110,120]⟩)]
 [.agg [.prim (.int .i64 1),.prim (.int .i64 64),.clo (.func 109) [] []],.agg [.prim (.int .i64 1),.prim (.int .i64 64),.clo (.func 111) [] []],.agg [.prim (.int .i64 1),.prim (.int .i64 8),.clo (.func 112) [] []],.agg [.prim (.int .i64 5),.prim (.int .i64 5),.clo (.func 113) [] []]]
theorem b1v (a b:Value)(fn:Fn):a6p (.agg [.prim a,.prim b,.clo fn [] []]):=a6p.agg fun d hd=>by
 simp only [List.mem_cons,List.not_mem_nil,or_false] at hd;rcases hd with rfl|rfl|rfl
 ·exact .prim _
 ·exact .prim _
 ·exact .clo
theorem a8T:a0b C0 46 [] b0m:=by
 refine a0c.intro tab Tryz.func46 rfl (by kernel_rfl) (by kernel_rfl) (by kernel_rfl) fun F=>?_
 refine Ok.seq (Ok.region ?_);refine OkL.p tab rfl rfl trivial ?_;refine OkL.nil ?_;refine Ok.seq (Ok.region ?_);refine OkM.start (m:=1) rfl rfl rfl ?_;refine OkM.pB (C:=C0) tab (.agg [.prim (.int .i64 1),.prim (.int .i64 64),.clo (.func 109) [] []]) rfl (by kernel_rfl) (b1v _ _ _) rfl (by decide) ?_;refine OkM.ins (C:=C0) (k:=9) (e:=102) (z:=.agg #[.int .i64 0,.int .i64 0,.nilFunc]) b3N (by kernel_rfl) rfl rfl rfl (by kernel_rfl) rfl (fun _ _ _ _ h _ _ _=>b1v _ _ _ _ _ _ _ _ _ _ h) ?_;refine OkM.pB (C:=C0) tab (.agg [.prim (.int .i64 1),.prim (.int .i64 64),.clo (.func 111) [] []]) rfl (by kernel_rfl) (b1v _ _ _) rfl (by decide) ?_;refine OkM.ins (C:=C0) (k:=9) (e:=102) (z:=.agg #[.int .i64 0,.int .i64 0,.nilFunc]) b3N (by kernel_rfl) rfl rfl rfl (by kernel_rfl) rfl (fun _ _ _ _ h _ _ _=>b1v _ _ _ _ _ _ _ _ _ _ h) ?_;refine OkM.pB (C:=C0) tab (.agg [.prim (.int .i64 1),.prim (.int .i64 8),.clo (.func 112) [] []]) rfl (by kernel_rfl) (b1v _ _ _) rfl (by decide) ?_;refine OkM.ins (C:=C0) (k:=9) (e:=102) (z:=.agg #[.int .i64 0,.int .i64 0,.nilFunc]) b3N (by kernel_rfl) rfl rfl rfl (by kernel_rfl) rfl (fun _ _ _ _ h _ _ _=>b1v _ _ _ _ _ _ _ _ _ _ h) ?_;refine OkM.pB (C:=C0) tab (.agg [.prim (.int .i64 5),.prim (.int .i64 5),.clo (.func 113) [] []]) rfl (by kernel_rfl) (b1v _ _ _) rfl (by decide) ?_;refine OkM.ins (C:=C0) (k:=9) (e:=102) (z:=.agg #[.int .i64 0,.int .i64 0,.nilFunc]) b3N (by kernel_rfl) rfl rfl rfl (by kernel_rfl) rfl (fun _ _ _ _ h _ _ _=>b1v _ _ _ _ _ _ _ _ _ _ h) ?_;refine OkM.done ?_;refine OkL.p tab rfl rfl trivial ?_;refine OkL.p tab rfl rfl trivial ?_;refine OkL.nil ?_;refine Ok.ret ?_;exact ⟨.inr rfl,_,_,rfl,⟨trivial,trivial⟩,b0m,.refl _,a0T (n:=20) (by kernel_rfl),rfl⟩
def b6O:D:=.mp [.prim (.string ⟨#[100,111,119,110]⟩),.prim (.string ⟨#[117,112]⟩),.prim (.string ⟨#[104,97,108,102,45,117,112]⟩),.prim (.string ⟨#[104,97,108,102,45,101,118,101,110]⟩)]
 [.agg [.clo (.func 207) [] []],.agg [.clo (.func 208) [] []],.agg [.clo (.func 209) [] []],.agg [.clo (.func 210) [] []]]
theorem b1g (fn:Fn):a6p (.agg [.clo fn [] []]):=a6p.agg fun d hd=>by
 simp only [List.mem_cons,List.not_mem_nil,or_false] at hd;subst hd;exact .clo
theorem b3S:a0b C0 145 [] b6O:=by
 refine a0c.intro tab Tryz.func145 rfl (by kernel_rfl) (by kernel_rfl) (by kernel_rfl) fun F=>?_
 refine Ok.seq (Ok.region ?_);refine OkL.p tab rfl rfl trivial ?_;refine OkL.nil ?_;refine Ok.seq (Ok.region ?_);refine OkM.start (m:=1) rfl rfl rfl ?_;refine OkM.pB (C:=C0) tab (.agg [.clo (.func 207) [] []]) rfl (by kernel_rfl) (b1g _) rfl (by decide) ?_;refine OkM.ins (C:=C0) (k:=9) (e:=220) (z:=.agg #[.nilFunc]) b3N (by kernel_rfl) rfl rfl rfl (by kernel_rfl) rfl (fun _ _ _ _ h _ _ _=>b1g _ _ _ _ _ _ _ _ h) ?_;refine OkM.pB (C:=C0) tab (.agg [.clo (.func 208) [] []]) rfl (by kernel_rfl) (b1g _) rfl (by decide) ?_;refine OkM.ins (C:=C0) (k:=9) (e:=220) (z:=.agg #[.nilFunc]) b3N (by kernel_rfl) rfl rfl rfl (by kernel_rfl) rfl (fun _ _ _ _ h _ _ _=>b1g _ _ _ _ _ _ _ _ h) ?_;refine OkM.pB (C:=C0) tab (.agg [.clo (.func 209) [] []]) rfl (by kernel_rfl) (b1g _) rfl (by decide) ?_;refine OkM.ins (C:=C0) (k:=9) (e:=220) (z:=.agg #[.nilFunc]) b3N (by kernel_rfl) rfl rfl rfl (by kernel_rfl) rfl (fun _ _ _ _ h _ _ _=>b1g _ _ _ _ _ _ _ _ h) ?_;refine OkM.pB (C:=C0) tab (.agg [.clo (.func 210) [] []]) rfl (by kernel_rfl) (b1g _) rfl (by decide) ?_;refine OkM.ins (C:=C0) (k:=9) (e:=220) (z:=.agg #[.nilFunc]) b3N (by kernel_rfl) rfl rfl rfl (by kernel_rfl) rfl (fun _ _ _ _ h _ _ _=>b1g _ _ _ _ _ _ _ _ h) ?_;refine OkM.done ?_;refine OkL.p tab rfl rfl trivial ?_;refine OkL.p tab rfl rfl trivial ?_;refine OkL.nil ?_;refine Ok.ret ?_;exact ⟨.inr rfl,_,_,rfl,⟨trivial,trivial⟩,b6O,.refl _,a0T (n:=20) (by kernel_rfl),rfl⟩
theorem c6g {ρ:Lk}{O:Nat→Prop}{w:World}{a b c:Value}{vs:Array Value}(hn:vs.size=3)(h:∀ (i:Nat) (x:D),[D.prim a,.prim b,.prim c][i]? = some x→Rep ρ O w x (vs.getD i undef)):vs = #[a,b,c]:=by
 match vs,hn with
 | ⟨[u,v,x]⟩,_ =>
  have h0:=h 0 _ rfl;have h1:=h 1 _ rfl;have h2:=h 2 _ rfl;simp at h0 h1 h2;cases h0;cases h1;cases h2;rfl
theorem b5C (x y c:Nat)(hc:c≤1):a4o C0 254 [.prim (.int .u64 x),.prim (.int .u64 y),.prim (.int .u64 c)]
  (.tup [.prim (.int .u64 (((x+y+c)%18446744073709551616:Nat):Int)),.prim (.int .u64 (((x+y+c) / 18446744073709551616:Nat):Int))]):=fun ρ O w vs hn h=>by
 have:=c6g hn h
 subst this;refine ⟨.tuple #[.int .u64 (((x+y+c)%18446744073709551616:Nat):Int),.int .u64 (((x+y+c) / 18446744073709551616:Nat):Int)],?_,.tup rfl fun i d hd=>?_⟩
 ·show (callFunc 254 _).run Tryz.prog w=_
  rw [run_callFunc_extern Tryz.func254 (by kernel_rfl) (by kernel_rfl) (by kernel_rfl) (e:=add64Entry) (by kernel_rfl),run_add64 x y c (by omega) (by omega) (by omega) (by omega)];simp only [Result.andThen]
  congr 5<;>omega
 ·match i with
  | 0=>simp at hd;subst hd;exact .prim _
  | 1=>simp at hd;subst hd;exact .prim _
  | n+2=>simp at hd
theorem d0J {ρ:Lk}{O:Nat→Prop}{w:World}{a b:Value}{vs:Array Value}(hn:vs.size=2)(h:∀ (i:Nat) (x:D),[D.prim a,.prim b][i]? = some x→Rep ρ O w x (vs.getD i undef)):vs = #[a,b]:=by
 match vs,hn with
 | ⟨[u,v]⟩,_ =>
  have h0:=h 0 _ rfl;have h1:=h 1 _ rfl;simp at h0 h1;cases h0;cases h1;rfl
theorem b0c (s:ByteArray)(c:Int):a4o C0 296 [.prim (.string s),.prim (.int .u8 c)] (.prim (.int .i64 (firstIdx s c.toNat.toUInt8))):=fun ρ O w vs hn h=>by
 have:=d0J hn h
 subst this;refine ⟨_,?_,.prim _⟩;show (callFunc 296 _).run Tryz.prog w=_;rw [run_callFunc_indexByte Tryz.func296 (by kernel_rfl) (by kernel_rfl) (by kernel_rfl) (by kernel_rfl),run_indexByte_string];rfl
theorem b7t (x y b:Nat)(hb:b≤1):a4o C0 255 [.prim (.int .u64 x),.prim (.int .u64 y),.prim (.int .u64 b)]
  (.tup [.prim (.int .u64 (((x+18446744073709551616 - y - b)%18446744073709551616:Nat):Int)),.prim (.int .u64 ((if x<y+b then 1 else 0:Nat):Int))]):=fun ρ O w vs hn h=>by
 have:=c6g hn h
 subst this;refine ⟨.tuple #[.int .u64 (((x+18446744073709551616 - y - b)%18446744073709551616:Nat):Int),.int .u64 ((if x<y+b then 1 else 0:Nat):Int)],?_,.tup rfl fun i d hd=>?_⟩
 ·show (callFunc 255 _).run Tryz.prog w=_
  rw [run_callFunc_extern Tryz.func255 (by kernel_rfl) (by kernel_rfl) (by kernel_rfl) (e:=sub64Entry) (by kernel_rfl),run_sub64 x y b hb];rfl
 ·match i with
  | 0=>simp at hd;subst hd;exact .prim _
  | 1=>simp at hd;subst hd;exact .prim _
  | n+2=>simp at hd
theorem a6R {O:Nat→Prop}{w:World}{v:Value}{vs:Array Value}(hn:vs.size=1)(h:∀ (i:Nat) (x:D),[D.prim v][i]? = some x→Rep nol O w x (vs.getD i undef)):vs = #[v]:=by
 match vs,hn with
 | ⟨[u]⟩,_ =>
  have h0:=h 0 _ rfl;simp at h0;cases h0;rfl
theorem b2I (n:Int)(h0 : -9223372036854775808≤n)(h1:n≤9223372036854775807):a0b C0 183 [i64 n] (str ⟨(Lib.itoa n).toArray⟩):=by
 refine ⟨⟨_,_,Tryz.func183,rfl,by kernel_rfl⟩,fun Y w vs hG hnG hX hvs hr=>?_⟩
 have:=a6R hvs hr
 subst this;refine (Tryz.strconv_Itoa n h0 h1 w hG).mono ?_;rintro e w' ⟨rfl,k,os,rfl⟩;exact ⟨_,_,rfl,Lib.below_grow _ _ (Nat.le_refl _) _ _,rfl,.prim _⟩
theorem b2M (s:ByteArray)(n:Int)(hl:s.size≤18)(h:Lib.atoi s.data.toList=some n):a0b C0 199 [str s] (.tup [i64 n,.prim .nilIface]):=by
 refine ⟨⟨_,_,Tryz.func199,rfl,by kernel_rfl⟩,fun Y w vs hG hnG hX hvs hr=>?_⟩
 have:=a6R hvs hr
 subst this;refine (Tryz.strconv_Atoi s n hl h w).mono ?_;rintro e w' ⟨rfl,t,rfl⟩;exact ⟨_,_,rfl,Joins.below_bytesWorld _ _ _ _ (Nat.le_refl _),rfl,.tup rfl fun i d hd=>by
  match i with
  | 0=>simp at hd;subst hd;exact .prim _
  | 1=>simp at hd;subst hd;exact .prim _
  | n+2=>simp at hd⟩
def b9c (f:Nat)(ds:List D):Option D:=match Nat.beq f 254 with
 | true=>match ds with
  | [.prim (.int .u64 (.ofNat a)),.prim (.int .u64 (.ofNat b)),.prim (.int .u64 (.ofNat c))]=>match Nat.ble c 1 with
   | true=>some (.tup [.prim (.int .u64 (((a+b+c)%18446744073709551616:Nat):Int)),.prim (.int .u64 (((a+b+c) / 18446744073709551616:Nat):Int))])
   | false=>none
  | _=>none
 | false=>match Nat.beq f 255 with
  | true=>match ds with
   | [.prim (.int .u64 (.ofNat a)),.prim (.int .u64 (.ofNat b)),.prim (.int .u64 (.ofNat c))]=>match Nat.ble c 1 with
    | true=>some (.tup [.prim (.int .u64 (((a+18446744073709551616 - b - c)%18446744073709551616:Nat):Int)),.prim (.int .u64 ((if a<b+c then 1 else 0:Nat):Int))])
    | false=>none
   | _=>none
  | false=>match Nat.beq f 296 with
   | true=>match ds with
    | [.prim (.string s),.prim (.int .u8 c)]=>some (.prim (.int .i64 (firstIdx s c.toNat.toUInt8)))
    | _=>none
   | false=>none
theorem a6b (f:Nat)(ds:List D)(d:D)(h:b9c f ds=some d):a4o C0 f ds d:=by
 unfold b9c at h;split at h
 ·rename_i hf
  obtain rfl:=Nat.eq_of_beq_eq_true hf;split at h<;>first|(cases h;done)|skip
  split at h<;>first|(cases h;done)|skip
  rename_i hc;cases h;exact b5C _ _ _ (Nat.le_of_ble_eq_true hc)
 ·split at h
  ·rename_i hf
   obtain rfl:=Nat.eq_of_beq_eq_true hf;split at h<;>first|(cases h;done)|skip
   split at h<;>first|(cases h;done)|skip
   rename_i hc;cases h;exact b7t _ _ _ (Nat.le_of_ble_eq_true hc)
  ·split at h
   ·rename_i hf
    obtain rfl:=Nat.eq_of_beq_eq_true hf;split at h<;>first|(cases h;done)|skip
    cases h;exact b0c _ _
   ·cases h
noncomputable def X1:EV:=⟨tbt.get,xbt.get,fbt.get,fun _=>false,fun _ _=>none,fun _ _=>none,b9c⟩
theorem a3P:a9k C0 X1:=⟨tab,b3N,ftab,fun _ _ _ h=>by simp [X1] at h,by kernel_rfl,fun _ _ _ h=>by simp [X1] at h,a6b⟩
theorem w1:WOk C0 X1:=a3P.w
theorem wI {z:Int}(h1 : -9223372036854775808≤z)(h2:z≤9223372036854775807):IntKind.i64.wrap z=z:=by
 have e1:(2:Int)^IntKind.i64.bits=18446744073709551616:=rfl;have e2:(2:Int)^(IntKind.i64.bits - 1)=9223372036854775808:=rfl;unfold IntKind.wrap;simp only [e1,e2];have e3:IntKind.i64.signed=true:=rfl;rw [e3];simp only [Bool.true_and,decide_eq_true_eq];split<;>omega
theorem wN {n:Nat}(h:n≤9223372036854775807):IntKind.i64.wrap (n:Int)=n:=wI (by omega) (by omega)
set_option maxRecDepth 20000
theorem b5I (n:Int):a0b C0 156 [i64 n] (smI n):=by
 refine a0c.walk w1 c1X rfl fun F=>?_
 refine fR 0 ?_;refine fR 100 ?_;refine rtI ?_;exact a0a rfl (IsPure.out (d:=smI n))
theorem a7t (z:Int):a0b C0 144 [smI z] (i64 (max (-1) (min 1 z))):=by
 refine a0c.walk w1 b8V rfl fun F=>?_
 refine fR 0 ?_;refine fR 100 ?_;refine rtI ?_;exact a0a rfl IsPure.out
theorem b7i (a b:Nat)(hb:0<b)(h1:a≤9223372036854775807)(h2:b≤9223372036854775807):a0b C0 197 [smI a,smI b] (.tup [smI (a / b:Nat),smI (a%b:Nat)]):=by
 refine a0c.walk w1 b3n rfl fun F=>?_
 refine fR 0 ?_;refine OkS.seq ?_;refine sZ 100 ?_
 repeat' (first|(refine And.intro (by exact sdI) ?_;refine dsI ?_)|((refine brI (fun hb=>?_) (fun hb=>?_))<;>(try simp only [Bool.not_eq_true',Bool.not_eq_false'] at hb)<;>(try simp only [hb])<;>(refine dsI ?_)))
 have e0:((a:Int) != -9223372036854775808)=true:=by first|(simp;done)|(simp;omega)
 rw [e0];refine ifI ?_;refine OkS.seq ?_;refine OkS.regD w1 200 [0,1,2,3,4,5,6,7,8,9,10] [11] (by kernel_rfl) ?_;refine nxI ?_;have q1:(a:Int).tdiv b=((a / b:Nat):Int):=rfl;have q2:(a:Int).tmod b=((a%b:Nat):Int):=rfl;have hq:a / b≤9223372036854775807:=Nat.le_trans (Nat.div_le_self a b) h1;simp (disch:=assumption) only [q1,q2,wN];refine OkS.seq ?_;refine fR 300 ?_;refine ifI ?_;have e1:decide (((a%b:Nat):Int)<0)=false:=by first|(simp;done)|(simp;omega)
 rw [e1];refine skI ?_;refine fR 500 ?_;refine rtI ?_;exact a0a rfl IsPure.out
theorem a4D (a b:Int):a0b C0 114 [smF a b] (boo (b==1)):=by
 refine a0c.walk w1 b8H rfl fun F=>?_
 refine fR 0 ?_;refine sZ 100 ?_
 repeat' (first|(refine And.intro (by exact sdI) ?_;refine dsI ?_)|((refine brI (fun hb=>?_) (fun hb=>?_))<;>(try simp only [Bool.not_eq_true',Bool.not_eq_false'] at hb)<;>(try simp only [hb])<;>(refine dsI ?_)))
 refine rtI ?_;exact a0a rfl IsPure.out
theorem a1q:∀ (k u:Nat),u<10^(k+1)→(Lib.decDigits u).length≤k+1
 | 0,u,h=>by
  unfold Lib.decDigits;rw [dif_pos (by simpa using h)];simp
 | k+1,u,h=>by
  unfold Lib.decDigits;split
  ·simp
  ·rw [List.length_append]
   have:=a1q k (u / 10) (by
    rw [Nat.pow_succ] at h;omega)
   simp only [List.length_cons,List.length_nil];omega
theorem a3U (a b:List UInt8):(⟨a.toArray⟩:ByteArray)++⟨b.toArray⟩=⟨(a++b).toArray⟩:=by
 apply ByteArray.ext;simp [ByteArray.data_append]
theorem a7T (l:List UInt8):(⟨l.toArray⟩:ByteArray).size=l.length:=by simp [ByteArray.size]
theorem c3E (a b:Nat)(ha:a≤9223372036854775807)(hb:b≤9223372036854775807):a0b C0 85 [i64 a,i64 b] (i64 (Nat.gcd a b:Nat)):=by
 refine a0c.walk w1 d2g rfl fun F=>?_
 refine fR 0 ?_;refine OkS.seq ?_;refine OkS.block ?_;refine OkS.loop (α:=Nat × Nat × Nat) (fun p=>⟨[(0,i64 p.1),(1,i64 p.2.1)],[],p.2.2⟩) (fun p=>p.2.1) (fun p=>Nat.gcd p.1 p.2.1=Nat.gcd a b∧p.1≤9223372036854775807∧p.2.1≤9223372036854775807) (a,b,_) ⟨rfl,ha,hb⟩ wkI ?_;rintro ⟨x,y,n⟩ F ⟨h1,h2,h3⟩;dsimp only at h1 h2 h3 ⊢;refine OkS.seq ?_;refine fR 100 ?_;refine ifI ?_
 (refine brI (fun hy=>?_) (fun hy=>?_))<;>(try simp only [Bool.not_eq_true',Bool.not_eq_false'] at hy)<;>(try simp only [hy])
 ·have hy':(y:Int)>0:=by simpa using hy
  refine skI ?_;refine OkS.block ?_;refine OkS.regD w1 200 [0,1,2,3,4] [5] (by kernel_rfl) ?_;refine nxI ?_
  have:(x:Int).tmod y=((x%y:Nat):Int):=rfl
  rw [this];refine ⟨(y,x%y,_),⟨?_,h3,?_⟩,?_,wkI⟩
  ·rw [← h1,Nat.gcd_comm x y,Nat.gcd_rec y x,Nat.gcd_comm]
  ·have:=Nat.mod_lt x (show y>0 by omega);dsimp only;omega
  ·exact Nat.mod_lt x (show y>0 by omega)
 ·have hy':y=0:=by simp at hy;omega
  subst hy';refine exI ?_;refine fR 300 ?_;refine rtI ?_;refine a0a ?_ IsPure.out;rw [← h1,Nat.gcd_zero_right]
def c3M (least:Nat)(l:List UInt8):List UInt8:=List.replicate (least - l.length) 48++l
def a1T (least m:Nat)(s:List UInt8):List UInt8:=c3M least (if m=0 then s else Lib.decDigits m++s)
theorem a7M (least m:Nat)(s:List UInt8)(h:0<m∨s.length<least):a1T least (m / 10) (UInt8.ofNat (48+m%10)::s)=a1T least m s:=by
 unfold a1T
 by_cases h0:m=0
 ·subst h0
  have hl:s.length<least:=h.resolve_left (by omega);rw [if_pos (by omega),if_pos rfl];unfold c3M;obtain ⟨k,hk⟩:∃ k,least - s.length=k+1:=⟨least - s.length - 1,by omega⟩
  rw [hk,show least - (UInt8.ofNat (48+0%10)::s).length=k from by simp;omega,List.replicate_succ'];simp
 ·rw [if_neg h0]
  by_cases h1:m<10
  ·rw [if_pos (by omega)]
   have:Lib.decDigits m=[UInt8.ofNat (48+m)]:=by unfold Lib.decDigits;rw [dif_pos h1]
   rw [this,show m%10=m from by omega];rfl
  ·rw [if_neg (by omega)]
   have:Lib.decDigits m=Lib.decDigits (m / 10)++[UInt8.ofNat (48+m%10)]:=by rw [Lib.decDigits];rw [dif_neg h1]
   rw [this,List.append_assoc];rfl
theorem b9x (k:Nat)(hk:k<10):(⟨#[48,49,50,51,52,53,54,55,56,57]⟩:ByteArray).extract k (k+1)=⟨([UInt8.ofNat (48+k)]:List UInt8).toArray⟩:=by
 match k,hk with
 | 0,_=>rfl
 | 1,_=>rfl
 | 2,_=>rfl
 | 3,_=>rfl
 | 4,_=>rfl
 | 5,_=>rfl
 | 6,_=>rfl
 | 7,_=>rfl
 | 8,_=>rfl
 | 9,_=>rfl
theorem a4t (a least:Nat)(ha:a+least≤9223372036854775807):a0b C0 86 [i64 a,i64 least] (str ⟨(a1T least a []).toArray⟩):=by
 refine a0c.walk w1 d1A rfl fun F=>?_
 refine fR 0 ?_;refine fR 100 ?_;refine OkS.seq ?_;refine OkS.block ?_;refine OkS.loop (α:=Nat × List UInt8 × Nat) (fun p=>⟨[(0,i64 p.1),(1,i64 least),(5,str ⟨p.2.1.toArray⟩)],[],p.2.2⟩) (fun p=>p.1+(least - p.2.1.length))
  (fun p=>a1T least p.1 p.2.1=a1T least a []∧p.1+p.2.1.length≤a+least) (a,[],_) ⟨rfl,by simp⟩ wkI ?_
 rintro ⟨m,s,n⟩ F ⟨h1,h2⟩;dsimp only at h1 h2 ⊢;have hsz:=a7T s;refine OkS.seq ?_;refine OkS.seqW ⟨[(0,i64 m),(1,i64 least),(5,str ⟨s.toArray⟩),(13,boo (decide ((m:Int)>0)||decide ((s.length:Int)<least)))],[],n+30⟩ (OkS.reg w1 200 (by kernel_rfl) ?_) ?_
 ·repeat' (first|(refine And.intro (by exact sdI) ?_;refine dsI ?_)|((refine brI (fun hb=>?_) (fun hb=>?_))<;>(try simp only [Bool.not_eq_true',Bool.not_eq_false'] at hb)<;>(try simp only [hb])<;>(refine dsI ?_)))
  all_goals exact wkI
 refine ifI ?_
 (refine brI (fun hc=>?_) (fun hc=>?_))<;>(try simp only [Bool.not_eq_true',Bool.not_eq_false'] at hc)<;>(try simp only [hc])
 ·have hc:0<m∨s.length<least:=by
   simp at hc;omega
  refine skI ?_;refine OkS.block ?_;refine OkS.seq ?_;have hm:(m:Int).tmod 10=((m%10:Nat):Int):=rfl;have e2:IntKind.i64.wrap (((m%10:Nat):Int)+1)=((m%10+1:Nat):Int):=wI (by omega) (by omega);have hd:=b9x (m%10) (by omega);have hs1:(⟨([UInt8.ofNat (48+m%10)]:List UInt8).toArray⟩:ByteArray).size=1:=rfl;have hlen:s.length+1≤9223372036854775807:=by omega
  have hs10:(⟨#[48,49,50,51,52,53,54,55,56,57]⟩:ByteArray).size=10:=rfl;refine OkS.reg w1 300 (by kernel_rfl) ?_;refine mwI (ff4 hm e2 kN hd) ?_;refine fI 400 ?_;have hm4:(m:Int).tdiv 10=((m / 10:Nat):Int):=rfl;have hm5:m / 10≤9223372036854775807:=by omega
  rw [hm4,wN hm5,a3U,List.cons_append,List.nil_append];refine ⟨(m / 10,UInt8.ofNat (48+m%10)::s,_),⟨(a7M least m s hc).trans h1,?_⟩,?_,wkI⟩
  ·simp only [List.length_cons];omega
  ·simp only [List.length_cons];omega
 ·have hc:m=0∧least≤s.length:=by
   simp at hc;omega
  obtain ⟨rfl,hl⟩:=hc;refine exI ?_;refine fR 500 ?_;refine rtI ?_;refine a0a ?_ IsPure.out;rw [← h1];unfold a1T c3M;rw [if_pos rfl,Nat.sub_eq_zero_of_le hl];rfl
theorem b6A (a:Nat):a1T 1 a []=Lib.decDigits a:=by
 unfold a1T c3M
 by_cases h:a=0
 ·subst h
  have:Lib.decDigits 0=[48]:=by unfold Lib.decDigits;rw [dif_pos (by decide)];rfl
  rw [if_pos rfl,this];rfl
 ·rw [if_neg h,List.append_nil]
  have:(Lib.decDigits a).length≠0:=by
   unfold Lib.decDigits;split<;>simp
  rw [show 1 - (Lib.decDigits a).length=0 from by omega];rfl
theorem a2M (b:Bool)(e:Int):a0b C0 48 [boo b,i64 e] (i64 (if b then e else 0)):=by
 refine a0c.walk w1 c7F rfl fun F=>?_
 refine fR 0 ?_;refine OkS.seq ?_;refine fR 100 ?_;cases b
 ·refine ifI ?_
  refine skI ?_;refine fR 300 ?_;refine rtI ?_;exact a0a rfl IsPure.out
 ·refine ifI ?_
  refine fR 200 ?_;refine rtI ?_;exact a0a rfl IsPure.out
def a6T (K g sz:Nat):List D→D
 | []=>a2a
 | _::l=>.osl K g sz 0 (l.length+1)
def a5j (K g T sz:Nat):List D→Hp
 | []=>[]
 | x::l=>[⟨K,g,T,sz,x::l⟩]
theorem a3a (K g sz:Nat):a6T K g sz []=a2a:=rfl
theorem a1X (K g sz:Nat)(x:D)(l:List D):a6T K g sz (x::l)=.osl K g sz 0 (l.length+1):=rfl
theorem a2V (K g T sz:Nat):a5j K g T sz []=[]:=rfl
theorem a1W (K g T sz:Nat)(x:D)(l:List D):a5j K g T sz (x::l)=[⟨K,g,T,sz,x::l⟩]:=rfl
theorem a2u (K g sz:Nat)(x y:D)(l:List D):a6T K g sz (x::l++[y])=.osl K g sz 0 (l.length+1+1):=by simp [a6T]
theorem b5Z (K g T sz:Nat)(l:List D):Fz (a5j K g T sz l) [] (a6T K g sz l) (.sl false sz l):=by
 cases l with
 | nil=>exact .nil sz
 | cons x l =>
  refine .osl (e:=⟨K,g,T,sz,x::l⟩) (by simp [a5j,Hp.get]) rfl rfl rfl (by simp) (by simp) (fun j d d' h1 h2=>?_) fun j d d' q c c' h1 h2 h3 h4=>?_
  ·rw [Nat.zero_add] at h1;rw [h1] at h2;cases h2;rfl
  ·rw [Nat.zero_add] at h1;rw [h1] at h2;cases h2;rw [h3] at h4;cases h4;exact Fz.refl _
def spot (a b c d:Nat):D:=.agg [i64 (a / Nat.gcd a b:Nat),a2a,i64 (b / Nat.gcd a b:Nat),a2a,i64 (c / Nat.gcd c d:Nat),a2a,i64 (d / Nat.gcd c d:Nat),a2a]
instance  (a b c d:Nat):CellsPure (spot a b c d):=by unfold spot;exact inferInstance
instance  {α:Type}(f:α→List D)(l:List α)[h:∀ x,ElemsPure (f x)]:ElemsPure (l.flatMap f):=⟨fun e he=>by
 obtain ⟨x,_,hx⟩:=List.mem_flatMap.1 he;exact (h x).out e hx⟩
set_option maxHeartbeats 2000000
set_option allowUnsafeReducibility true in
attribute [local irreducible] a1P
inductive Kd where
 | line|zig|grid|quin
def Kd.most:Kd→Int
 | .line | .zig=>64
 | .grid=>8
 | .quin=>5
def a7I (b:Nat):Bool:=((decide (97≤b)&&decide (b≤122))||(decide (65≤b)&&decide (b≤90)))||(decide (48≤b)&&decide (b≤57))||b==45||b==95||b==46
def a7C (l:List UInt8):Bool:=l.all (fun b=>a7I b.toNat)&&(decide (1≤l.length)&&decide (l.length≤24))
theorem d2C (s:ByteArray)(p:Nat)(hp:p<s.size):s.data.toList[p]? = some (s.get! p):=by
 have hp':p<s.data.size:=hp;rw [Array.getElem?_toList,Array.getElem?_eq_getElem hp']
 congr 1
 show _=s.data[p]!;rw [getElem!_pos s.data p hp']
theorem b6a (s:ByteArray)(p:Nat)(h:(s.get! p).toNat<128):Utf8.decode s p=((s.get! p).toNat,1):=by
 unfold Utf8.decode;exact if_pos h
theorem c0z (s:ByteArray)(p:Nat)(h:¬ (s.get! p).toNat<128):128≤(Utf8.decode s p).1:=by
 unfold Utf8.decode;dsimp only;simp only [Nat.add_zero];rw [if_neg h];have hv:128≤Utf8.runeError:=by decide
 repeat' split
 all_goals first|exact hv|(rename_i h1;simp only [ge_iff_le,Bool.and_eq_true,decide_eq_true_eq] at h1;dsimp only;omega)
theorem b0C (s:ByteArray):a0b C0 67 [str s] (boo (a7C s.data.toList)):=by
 refine a0c.walk w1 c6E rfl fun B=>?_
 have hsz:s.data.toList.length=s.size:=Array.length_toList;refine fR 0 ?_;refine OkS.seq ?_;refine OkS.seq ?_;refine OkS.regRange w1 100 [0] 1 rfl (by kernel_rfl) rfl ?_;refine nxI ?_;intro F hF;refine dsI ?_;refine OkS.block ?_;refine OkS.loopF (α:=Nat × Nat) (fun p=>⟨[(0,str s),(7,.optr 101 2 0 0 0)],[],p.2⟩) (fun p=>s.size - p.1) (fun p F=>a9m C0 B F 101 2 s p.1∧p.1≤s.size∧(s.data.toList.take p.1).all (fun b=>a7I b.toNat)=true) (0,3) ⟨hF,Nat.zero_le _,rfl⟩ wkI ?_;rintro ⟨p,n⟩ F ⟨hIt,hp,hall⟩;dsimp only at hIt hp hall ⊢;refine OkS.seq ?_;refine OkS.regNext w1 200 0 [1] rfl (by kernel_rfl) s p ?_;refine And.intro hIt (And.intro (fun hlt F hIt=>?_) (fun hge=>?_))
 ·refine nxI ?_
  generalize hc:(Utf8.decode s p).1=c;refine OkS.seq ?_;refine ifI ?_;refine skI ?_;refine OkS.block ?_;refine fR 300 ?_;refine OkS.seqW ⟨[(0,str s),(7,.optr 101 2 0 0 0),(4,.prim (.int .i32 c)),(5,boo ((decide ((c:Int)≥97)&&decide ((c:Int)≤122))||(decide ((c:Int)≥65)&&decide ((c:Int)≤90))))],[],n+30⟩ (OkS.reg w1 400 (by kernel_rfl) ?_) ?_
  ·repeat' (first|(refine And.intro (by exact sdI) ?_;refine dsI ?_)|((refine brI (fun hb=>?_) (fun hb=>?_))<;>(try simp only [Bool.not_eq_true',Bool.not_eq_false'] at hb)<;>(try simp only [hb])<;>(refine dsI ?_)))
   all_goals exact wkI
  generalize hL:((decide ((c:Int)≥97)&&decide ((c:Int)≤122))||(decide ((c:Int)≥65)&&decide ((c:Int)≤90)))=L;refine OkS.seqW ⟨[(0,str s),(7,.optr 101 2 0 0 0),(47,boo ((((!L && !(decide ((c:Int)≥48)&&decide ((c:Int)≤57)))&&((c:Int) != 45))&&((c:Int) != 95))&&((c:Int) != 46)))],[],n+60⟩ (OkS.reg w1 500 (by kernel_rfl) ?_) ?_
  ·repeat' (first|(refine And.intro (by exact sdI) ?_;refine dsI ?_)|((refine brI (fun hb=>?_) (fun hb=>?_))<;>(try simp only [Bool.not_eq_true',Bool.not_eq_false'] at hb)<;>(try simp only [hb])<;>(refine dsI ?_)))
   all_goals exact wkI
  have hbad:((((!L && !(decide ((c:Int)≥48)&&decide ((c:Int)≤57)))&&((c:Int) != 45))&&((c:Int) != 95))&&((c:Int) != 46)) = !(a7I c):=by
   subst hL;rw [Bool.eq_iff_iff];simp only [a7I,Bool.and_eq_true,Bool.not_eq_true',Bool.or_eq_false_iff,Bool.and_eq_false_iff,decide_eq_false_iff_not,bne_iff_ne,ne_eq,beq_eq_false_iff_ne];omega
  rw [hbad];refine ifI ?_
  (refine brI (fun hb=>?_) (fun hb=>?_))<;>(try simp only [Bool.not_eq_true',Bool.not_eq_false'] at hb)<;>(try simp only [hb])
  ·have hbf:a7I c=false:=by simpa using hb
   refine fR 600 ?_;refine rtI ?_;refine a0a ?_ IsPure.out;have hb8:a7I (s.get! p).toNat=false:=by
    by_cases hlow:(s.get! p).toNat<128
    ·rw [b6a s p hlow] at hc
     rw [show (s.get! p).toNat=c from hc];exact hbf
    ·unfold a7I;simp;omega
   have:a7C s.data.toList=false:=by
    unfold a7C
    have:s.data.toList.all (fun b=>a7I b.toNat)=false:=by
     rw [List.all_eq_false];exact ⟨_,List.mem_of_getElem? (d2C s p hlt),by rw [hb8];simp⟩
    rw [this];rfl
   rw [this]
  ·have hbt:a7I c=true:=by simpa using hb
   have hclt:c<128:=by
    unfold a7I at hbt;simp only [Bool.or_eq_true,Bool.and_eq_true,decide_eq_true_eq,beq_iff_eq] at hbt;omega
   have hlow:(s.get! p).toNat<128:=by
    apply Classical.byContradiction;intro h
    have:=c0z s p h
    omega
   rw [b6a s p hlow] at hc hIt;refine skI ?_;refine ⟨(p+1,n+60),⟨hIt,hlt,?_⟩,by dsimp only;omega,wkI⟩;rw [List.take_add_one,d2C s p hlt,List.all_append,hall];simp;rw [show (s.get! p).toNat=c from hc];exact hbt
 ·have hpe:p=s.size:=by omega
  refine nxI ?_;refine OkS.seq ?_;refine ifI ?_;refine exI ?_;refine OkS.seqW ⟨[(2,boo (decide (1≤(s.size:Int))&&decide ((s.size:Int)≤24)))],[],n+60⟩ (OkS.reg w1 700 (by kernel_rfl) ?_) ?_
  ·repeat' (first|(refine And.intro (by exact sdI) ?_;refine dsI ?_)|((refine brI (fun hb=>?_) (fun hb=>?_))<;>(try simp only [Bool.not_eq_true',Bool.not_eq_false'] at hb)<;>(try simp only [hb])<;>(refine dsI ?_)))
   all_goals exact wkI
  refine rtI ?_;refine a0a ?_ IsPure.out;have hall':s.data.toList.all (fun b=>a7I b.toNat)=true:=by rw [← hall,hpe,← hsz,List.take_length]
  unfold a7C;rw [hall',Bool.true_and,hsz];have e:(decide (1≤(s.size:Int))&&decide ((s.size:Int)≤24))=(decide (1≤s.size)&&decide (s.size≤24)):=by
   rw [Bool.eq_iff_iff];simp only [Bool.and_eq_true,decide_eq_true_eq];omega
  rw [← e]
def Sm (z:Int):Prop:=-9223372036854775808<z∧z<9223372036854775808
theorem wS {z:Int}(h:Sm z):IntKind.i64.wrap z=z:=wI (by have:=h.1;omega) (by have:=h.2;omega)
theorem c6X {z:Int}(h:Sm z):(z != -9223372036854775808)=true:=by
 have:=h.1
 simp only [bne_iff_ne,ne_eq];omega
theorem wU {z:Int}(h1:0≤z)(h2:z<18446744073709551616):IntKind.u64.wrap z=z:=by
 have e1:(2:Int)^IntKind.u64.bits=18446744073709551616:=rfl;unfold IntKind.wrap;simp only [e1];have e3:IntKind.u64.signed=false:=rfl;rw [e3];simp only [Bool.false_and,Bool.false_eq_true,if_false];omega
theorem b2F (z:Int)(h:Sm z):a0b C0 228 [i64 z] (u64 (z.natAbs:Nat)):=by
 refine a0c.walk w1 c1s rfl fun F=>?_
 obtain ⟨h1,h2⟩:=h;refine fR 0 ?_;refine OkS.seq ?_;refine fR 100 ?_;refine ifI ?_
 (refine brI (fun h4=>?_) (fun h4=>?_))<;>(try simp only [Bool.not_eq_true',Bool.not_eq_false'] at h4)<;>(try simp only [h4])
 ·have hz:z<0:=by simpa using h4
  have e1:IntKind.i64.wrap (0 - z)=(z.natAbs:Nat):=by rw [wI (by omega) (by omega)];omega
  have e2:IntKind.u64.wrap ((z.natAbs:Nat):Int)=(z.natAbs:Nat):=wU (by omega) (by omega);refine sZ 200 ?_;refine mwI (ff2 e1 e2) ?_;refine rtI ?_;exact a0a rfl IsPure.out
 ·have hz:¬ z<0:=by simpa using h4
  have e2:IntKind.u64.wrap z=(z.natAbs:Nat):=by rw [wU (by omega) (by omega)];omega
  refine skI ?_;refine sZ 300 ?_;refine mwI e2 ?_;refine rtI ?_;exact a0a rfl IsPure.out
theorem b0Y (z:Int)(h:Sm z):a0b C0 177 [smI z] (smI (-z)):=by
 refine a0c.walk w1 b8C rfl fun F=>?_
 refine fR 0 ?_;refine OkS.seq ?_;refine sZ 100 ?_
 repeat' (first|(refine And.intro (by exact sdI) ?_;refine dsI ?_)|((refine brI (fun hb=>?_) (fun hb=>?_))<;>(try simp only [Bool.not_eq_true',Bool.not_eq_false'] at hb)<;>(try simp only [hb])<;>(refine dsI ?_)))
 rw [c6X h];refine ifI ?_;have e1:IntKind.i64.wrap (0 - z) = -z:=by
  have:=h.1;have:=h.2
  rw [wI (by omega) (by omega)];omega
 refine sZ 200 ?_;refine mwI e1 ?_;refine rtI ?_;exact a0a rfl IsPure.out
theorem b8x (a b:Int)(hc:Sm (a+b)):a0b C0 178 [smI a,smI b] (smI (a+b)):=by
 refine a0c.walk w1 b3G rfl fun F=>?_
 refine fR 0 ?_;refine OkS.seq ?_;refine sZ 100 ?_
 repeat' (first|(refine And.intro (by exact sdI) ?_;refine dsI ?_)|((refine brI (fun hb=>?_) (fun hb=>?_))<;>(try simp only [Bool.not_eq_true',Bool.not_eq_false'] at hb)<;>(try simp only [hb])<;>(refine dsI ?_)))
 refine ifI ?_;have e1:=wS hc;have e2:(decide (a+b>a)==decide (b>0))=true:=by
  rw [beq_iff_eq,decide_eq_decide];omega
 refine sZ 200 ?_;refine mwI e1 ?_;refine fR 300 ?_;rw [e2];refine ifI ?_;refine fR 400 ?_;refine rtI ?_;exact a0a rfl IsPure.out
theorem a4B (x y:Nat)(hx:x<18446744073709551616)(hy:y<18446744073709551616):a0b C0 227 [u64 x,u64 y] (.tup [u64 (x*y / 18446744073709551616:Nat),u64 (x*y%18446744073709551616:Nat)]):=by
 refine ⟨⟨_,_,Tryz.func227,rfl,by kernel_rfl⟩,fun Y w vs hG hnG hX hvs hr=>?_⟩;obtain ⟨v1,v2,rfl⟩:∃ a b,vs = #[a,b]:=by
  match vs,hvs with
  | ⟨[a,b]⟩,_=>exact ⟨a,b,rfl⟩
 have h0:=hr 0 _ rfl;have h1:=hr 1 _ rfl;simp at h0 h1;cases h0;cases h1;refine (Tryz.bits_Mul64 x y hx hy w).mono ?_;rintro e w' ⟨rfl,rfl⟩;exact ⟨_,_,rfl,.refl _ _,rfl,.tup rfl fun i d hd=>by
  match i with
  | 0=>simp at hd;subst hd;exact .prim _
  | 1=>simp at hd;subst hd;exact .prim _
  | n+2=>simp at hd⟩
theorem a4T (a b:Int)(hc:Sm (a*b))(ha:Sm a)(hb:Sm b):a0b C0 180 [smI a,smI b] (smI (a*b)):=by
 refine a0c.walk w1 b3W rfl fun F=>?_
 have hab:a.natAbs*b.natAbs=(a*b).natAbs:=(Int.natAbs_mul a b).symm;have h1:a.natAbs*b.natAbs / 18446744073709551616=0:=by rw [hab];have:=hc.1;have:=hc.2;omega
 have h2:a.natAbs*b.natAbs%18446744073709551616=(a*b).natAbs:=by rw [hab];have:=hc.1;have:=hc.2;omega
 have c0:=a4B a.natAbs b.natAbs (by have:=ha.1;have:=ha.2;omega) (by have:=hb.1;have:=hb.2;omega);rw [h1,h2] at c0;refine fR 0 ?_;refine OkS.seq ?_;refine sZ 100 ?_
 repeat' (first|(refine And.intro (by exact sdI) ?_;refine dsI ?_)|((refine brI (fun hb=>?_) (fun hb=>?_))<;>(try simp only [Bool.not_eq_true',Bool.not_eq_false'] at hb)<;>(try simp only [hb])<;>(refine dsI ?_)))
 refine ifI ?_;refine OkS.seq ?_;refine OkS.regD w1 200 [0,1,2,3,4,5,6,7,8,9,10] [11] (by kernel_rfl) ?_;refine nxI ?_;refine a0p.same _ (b2F a ha) inferInstance ?_;refine nxI ?_;refine a0p.same _ (b2F b hb) inferInstance ?_;refine nxI ?_;refine a0p.same _ (c0) inferInstance ?_;refine nxI ?_;refine sZ 300 ?_
 repeat' (first|(refine And.intro (by exact sdI) ?_;refine dsI ?_)|((refine brI (fun hb=>?_) (fun hb=>?_))<;>(try simp only [Bool.not_eq_true',Bool.not_eq_false'] at hb)<;>(try simp only [hb])<;>(refine dsI ?_)))
 have e3:decide ((((a*b).natAbs:Nat):Int)≤9223372036854775807)=true:=decide_eq_true (by have:=hc.1;have:=hc.2;omega);rw [e3];refine ifI ?_;refine OkS.seq ?_;refine fR 400 ?_;refine ifI ?_;have e4:IntKind.i64.wrap (((a*b).natAbs:Nat):Int)=((a*b).natAbs:Nat):=wN (by have:=hc.1;have:=hc.2;omega)
 (refine brI (fun h41=>?_) (fun h41=>?_))<;>(try simp only [Bool.not_eq_true',Bool.not_eq_false'] at h41)<;>(try simp only [h41])
 ·have e5:IntKind.i64.wrap (0 - (((a*b).natAbs:Nat):Int)) = -((a*b).natAbs:Nat):=by
   rw [wI (by have:=hc.1;have:=hc.2;omega) (by have:=hc.1;have:=hc.2;omega)];omega
  have e6 : -(((a*b).natAbs:Nat):Int)=a*b:=by
   have hs:(a<0)≠(b<0):=by simpa using h41
   have:a*b≤0:=by
    by_cases h1:a<0
    ·have h2:¬ b<0:=fun h2=>hs (by simp [h1,h2])
     exact Int.mul_nonpos_of_nonpos_of_nonneg (by omega) (by omega)
    ·have h2:b<0:=Classical.byContradiction fun h2=>hs (by simp [h1,h2])
     exact Int.mul_nonpos_of_nonneg_of_nonpos (by omega) (by omega)
   omega
  refine sZ 500 ?_;refine mwI (ff3 e4 e5 e6) ?_;refine rtI ?_;exact a0a rfl IsPure.out
 ·have e6:(((a*b).natAbs:Nat):Int)=a*b:=by
   have hs:¬ ((a<0)≠(b<0)):=by simpa using h41
   have:0≤a*b:=by
    by_cases h1:a<0
    ·have h2:b<0:=Classical.byContradiction fun h2=>hs (by simp [h1,h2])
     exact Int.mul_nonneg_of_nonpos_of_nonpos (by omega) (by omega)
    ·have h2:¬ b<0:=fun h2=>hs (by simp [h1,h2])
     exact Int.mul_nonneg (by omega) (by omega)
   omega
  rw [e6] at e4;refine skI ?_;refine sZ 600 ?_;refine mwI (ff2 e6 e4) ?_;refine rtI ?_;exact a0a rfl IsPure.out
theorem c4D {a b:Int}(hb:0<b):(a.tmod b<0→a.tdiv b - 1=a / b∧a.tmod b+b=a%b)∧(¬ a.tmod b<0→a.tdiv b=a / b∧a.tmod b=a%b):=by
 have h1:=Int.mul_tdiv_add_tmod a b;have h2:=Int.tmod_lt_of_pos a hb;have h3:=Int.lt_tmod_of_pos a hb;constructor
 ·intro h
  have:=(Int.ediv_emod_unique (a:=a) (r:=a.tmod b+b) (q:=a.tdiv b - 1) hb).2 ⟨by rw [Int.mul_sub,Int.mul_one];omega,by omega,by omega⟩
  exact ⟨this.1.symm,this.2.symm⟩
 ·intro h
  have:=(Int.ediv_emod_unique (a:=a) (r:=a.tmod b) (q:=a.tdiv b) hb).2 ⟨by omega,by omega,by omega⟩
  exact ⟨this.1.symm,this.2.symm⟩
theorem b6q {a b:Int}(ha:Sm a):Sm (a.tdiv b):=by
 have h:(a.tdiv b).natAbs≤a.natAbs:=by rw [Int.natAbs_tdiv];exact Nat.div_le_self _ _
 have:=ha.1;have:=ha.2
 exact ⟨by omega,by omega⟩
theorem b1A (a b:Int)(hb0:0<b)(ha:Sm a)(hb:Sm b):a0b C0 197 [smI a,smI b] (.tup [smI (a / b),smI (a%b)]):=by
 refine a0c.walk w1 b3n rfl fun F=>?_
 obtain ⟨t1,t2⟩:=c4D (a:=a) hb0;have h2:=Int.tmod_lt_of_pos a hb0;have h3:=Int.lt_tmod_of_pos a hb0;have q1:=wS (b6q (b:=b) ha);have q2:IntKind.i64.wrap (a.tmod b)=a.tmod b:=wI (by have:=hb.2;omega) (by have:=hb.2;omega);have q0:=b6q (b:=b) ha;refine fR 0 ?_;refine OkS.seq ?_;refine sZ 100 ?_
 repeat' (first|(refine And.intro (by exact sdI) ?_;refine dsI ?_)|((refine brI (fun hb=>?_) (fun hb=>?_))<;>(try simp only [Bool.not_eq_true',Bool.not_eq_false'] at hb)<;>(try simp only [hb])<;>(refine dsI ?_)))
 rw [c6X ha];refine ifI ?_;refine OkS.seq ?_;refine OkS.regD w1 200 [0,1,2,3,4,5,6,7,8,9,10] [11] (by kernel_rfl) ?_;refine And.intro (by (refine dsI ?_);(try simp only [q1,q2]);all_goals exact sdI) ?_;refine dsI ?_
 try simp only [q1,q2]
 refine OkS.seq ?_;refine fR 300 ?_;refine ifI ?_
 (refine brI (fun h40=>?_) (fun h40=>?_))<;>(try simp only [Bool.not_eq_true',Bool.not_eq_false'] at h40)<;>(try simp only [h40])
 ·obtain ⟨e1,e2⟩:=t1 (by simpa using h40)
  have q3:IntKind.i64.wrap (a.tdiv b - 1)=a / b:=by rw [wI (by have:=q0.1;omega) (by have:=q0.2;omega)];exact e1
  have q4:IntKind.i64.wrap (a.tmod b+b)=a%b:=by rw [wI (by have:=hb.2;omega) (by have:=hb.2;omega)];exact e2
  refine OkS.regD w1 400 [0,1,2,3,4,5,6] [7] (by kernel_rfl) ?_;refine And.intro (by (refine dsI ?_);(try simp only [q3,q4]);all_goals exact sdI) ?_;refine dsI ?_
  try simp only [q3,q4]
  refine fR 500 ?_;refine rtI ?_;exact a0a rfl IsPure.out
 ·obtain ⟨e1,e2⟩:=t2 (by simpa using h40)
  refine skI ?_;refine OkS.seq ?_;rw [e1,e2];refine fI 500 ?_;refine rtI ?_;exact a0a rfl IsPure.out
theorem b3t (a b:Int)(hb0:0<b)(ha:Sm a)(hb:Sm b):a0b C0 226 [smI a,smI b] (smI (a / b)):=by
 refine a0c.walk w1 b8U rfl fun F=>?_
 refine fR 0 ?_;refine OkS.seq ?_;refine fR 100 ?_;refine dI (a7t b) ?_;have e1:decide (max (-1) (min 1 b)<0)=false:=decide_eq_false (by omega);rw [e1];refine ifI ?_;refine skI ?_;refine fR 300 ?_;refine dI (b1A a b hb0 ha hb) ?_;refine fR 400 ?_;refine rtI ?_;exact a0a rfl IsPure.out
theorem c2m (z:Int)(h:Sm z):a0b C0 196 [smI z] (smI (z.natAbs:Nat)):=by
 refine a0c.walk w1 b6h rfl fun F=>?_
 refine fR 0 ?_;refine OkS.seq ?_;refine fR 100 ?_;refine ifI ?_
 (refine brI (fun h5=>?_) (fun h5=>?_))<;>(try simp only [Bool.not_eq_true',Bool.not_eq_false'] at h5)<;>(try simp only [h5])
 ·have hz:z<0:=by simpa using h5
  have e : -z=(z.natAbs:Nat):=by omega
  refine fR 200 ?_;refine dI (b0Y z h) ?_;rw [e];refine rtI ?_;exact a0a rfl IsPure.out
 ·have hz:¬ z<0:=by simpa using h5
  have e:z=(z.natAbs:Nat):=by omega
  refine skI ?_;refine fR 300 ?_;refine rtI ?_;exact a0a (by rw [← e]) IsPure.out
theorem c2M (a b:Int)(ha:Sm a)(hb:Sm b):a0b C0 127 [smI a,smI b] (smI (Nat.gcd a.natAbs b.natAbs:Nat)):=by
 refine a0c.walk w1 b8n rfl fun F=>?_
 have h1:a.natAbs≤9223372036854775807:=by have:=ha.1;have:=ha.2;omega
 have h2:b.natAbs≤9223372036854775807:=by have:=hb.1;have:=hb.2;omega
 refine fR 0 ?_;refine OkS.seq ?_;refine OkS.regD w1 100 [0,1,2] [3,4,5] (by kernel_rfl) ?_;refine nxI ?_;refine a0p.same _ (c2m a ha) inferInstance ?_;refine nxI ?_;refine dI (c2m b hb) ?_;refine OkS.seq ?_;refine OkS.block ?_;refine OkS.loop (α:=Nat × Nat × Nat) (fun p=>⟨[(2,.optr 0 0 2 0 0),(3,.optr 1 1 2 0 0),(4,.optr 2 2 2 0 0)],[⟨2,2,112,2,[smI 0]⟩,⟨1,1,112,2,[smI p.2.1]⟩,⟨0,0,112,2,[smI p.1]⟩],p.2.2⟩) (fun p=>p.2.1)
  (fun p=>Nat.gcd p.1 p.2.1=Nat.gcd a.natAbs b.natAbs∧p.1≤9223372036854775807∧p.2.1≤9223372036854775807) (a.natAbs,b.natAbs,_) ⟨rfl,h1,h2⟩ wkI ?_
 rintro ⟨x,y,n⟩ F ⟨g1,g2,g3⟩;dsimp only at g1 g2 g3 ⊢;refine OkS.seq ?_;refine fR 200 ?_;refine dI (a7t y) ?_;refine ifI ?_
 (refine brI (fun h13=>?_) (fun h13=>?_))<;>(try simp only [Bool.not_eq_true',Bool.not_eq_false'] at h13)<;>(try simp only [h13])
 ·have hy:0<y:=by
   simp at h13;omega
  refine skI ?_;refine OkS.block ?_;refine fR 300 ?_;refine dI (b7i x y hy g2 g3) ?_;refine OkS.regW w1 400 [0,1,2] [3] 2 [0] (0) (by kernel_rfl) (by kernel_rfl) ?_;refine nxI ?_;refine nxI ?_;have hm:x%y<y:=Nat.mod_lt x hy;refine ⟨(y,x%y,_),⟨?_,g3,by dsimp only;omega⟩,hm,wkI⟩;rw [← g1,Nat.gcd_comm x y,Nat.gcd_rec y x,Nat.gcd_comm]
 ·have hy:y=0:=by
   apply Classical.byContradiction;intro h0;simp at h13;omega
  subst hy;refine exI ?_;refine fR 500 ?_;refine rtI ?_;refine a0a ?_ IsPure.out;rw [← g1,Nat.gcd_zero_right]
theorem b0k (a b:Int)(hb0:0<b)(ha:Sm a)(hb:Sm b):a0b C0 179 [smI a,smI b] (smF (a / (Nat.gcd a.natAbs b.natAbs:Nat)) (b / (Nat.gcd a.natAbs b.natAbs:Nat))):=by
 refine a0c.walk w1 b3F rfl fun F=>?_
 have hg:0<Nat.gcd a.natAbs b.natAbs:=Nat.gcd_pos_of_pos_right _ (by omega);have hgl:Nat.gcd a.natAbs b.natAbs≤b.natAbs:=Nat.gcd_le_right _ (by omega);have hgs:Sm (Nat.gcd a.natAbs b.natAbs:Nat):=⟨by omega,by have:=hb.2;omega⟩
 refine fR 0 ?_;refine OkS.seq ?_;refine fR 100 ?_;refine dI (a7t b) ?_;have e1:decide (max (-1) (min 1 b)<0)=false:=decide_eq_false (by omega);rw [e1];refine ifI ?_;refine skI ?_;refine OkS.seq ?_;refine sZ 300 ?_
 repeat' (first|(refine And.intro (by exact sdI) ?_;refine dsI ?_)|((refine brI (fun hb=>?_) (fun hb=>?_))<;>(try simp only [Bool.not_eq_true',Bool.not_eq_false'] at hb)<;>(try simp only [hb])<;>(refine dsI ?_)))
 refine ifI ?_
 (refine brI (fun hb1=>?_) (fun hb1=>?_))<;>(try simp only [Bool.not_eq_true',Bool.not_eq_false'] at hb1)<;>(try simp only [hb1])
 ·have hb1:b=1:=by simpa using hb1
  subst hb1;refine fR 400 ?_;refine rtI ?_;refine a0a ?_ IsPure.out
  have:Nat.gcd a.natAbs (Int.natAbs 1)=1:=Nat.gcd_one_right _
  rw [this];simp
 ·refine skI ?_
  refine fR 500 ?_;refine dI (c2M a b ha hb) ?_;refine OkS.seq ?_;refine OkS.regD w1 600 [0,1,2,3,4] [5,6,7] (by kernel_rfl) ?_;refine nxI ?_;refine a0p.same _ (b3t a (Nat.gcd a.natAbs b.natAbs:Nat) (by omega) ha hgs) inferInstance ?_;refine nxI ?_;refine dI (b3t b (Nat.gcd a.natAbs b.natAbs:Nat) (by omega) hb hgs) ?_;refine rtI ?_;exact a0a rfl IsPure.out
structure Q2 where
 n:Int
 d:Int
abbrev Q2.D (q:Q2):D:=smF q.n q.d
def mkQ (a b:Int):Q2:=⟨a / (Nat.gcd a.natAbs b.natAbs:Nat),b / (Nat.gcd a.natAbs b.natAbs:Nat)⟩
theorem b3z (z:Int):a0b C0 105 [smI z] (smF z 1):=by
 refine a0c.walk w1 b5B rfl fun F=>?_
 refine fR 0 ?_;refine OkS.seq ?_;refine OkS.regD w1 100 [0,1] [2,3] (by kernel_rfl) ?_;refine nxI ?_;refine a0p.same _ (b5I 1) inferInstance ?_;refine nxI ?_;refine rtI ?_;exact a0a rfl IsPure.out
theorem d2o (z:Int):a0b C0 77 [i64 z] (smF z 1):=by
 refine a0c.walk w1 c7j rfl fun F=>?_
 refine fR 0 ?_;refine fR 100 ?_;refine dI (b5I z) ?_;refine dI (b3z z) ?_;refine rtI ?_;exact a0a rfl IsPure.out
def c2X (p q:Q2):Q2:=if p.d=1∧q.d=1 then ⟨p.n+q.n,1⟩ else mkQ (p.n*q.d+q.n*p.d) (p.d*q.d)
theorem b7l (p q:Q2)(hp:0<p.d)(hq:0<q.d)(h1:Sm p.n)(h2:Sm q.n)(h3:Sm p.d)(h4:Sm q.d)(h5:Sm (p.n*q.d))(h6:Sm (q.n*p.d))(h7:Sm (p.n*q.d+q.n*p.d))(h8:Sm (p.d*q.d)) :
  a0b C0 104 [p.D,q.D] (c2X p q).D:=by
 refine a0c.walk w1 b5Q rfl fun F=>?_
 obtain ⟨a,b⟩:=p;obtain ⟨c,d⟩:=q;dsimp only at *;unfold c2X Q2.D;dsimp only;have hbd:0<b*d:=Int.mul_pos hp hq
 by_cases e1:b=1
 ·have fb:(b==1)=true:=by rw [e1];rfl
  have c1:=a4D a b;rw [fb] at c1
  by_cases e2:d=1
  ·have fd:(d==1)=true:=by rw [e2];rfl
   have c2:=a4D c d;rw [fd] at c2;rw [if_pos ⟨e1,e2⟩];have h7':Sm (a+c):=by rw [e1,e2] at h7;simpa using h7
   refine fR 0 ?_;refine OkS.seq ?_;refine fR 100 ?_;refine dI c1 ?_;dsimp only [a8D];refine nxI ?_;dsimp only [a8D];refine nxI ?_;refine dI c2 ?_;refine ifI ?_;refine fR 200 ?_;refine dI (b8x a c h7') ?_;refine dI (b3z (a+c)) ?_;refine rtI ?_;exact a0a rfl IsPure.out
  ·have fd:(d==1)=false:=by simpa using e2
   have c2:=a4D c d;rw [fd] at c2;rw [if_neg fun h=>e2 h.2];refine fR 0 ?_;refine OkS.seq ?_;refine fR 100 ?_;refine dI c1 ?_;dsimp only [a8D];refine nxI ?_;dsimp only [a8D];refine nxI ?_;refine dI c2 ?_;refine ifI ?_;refine skI ?_;refine OkS.seq ?_;refine OkS.regD w1 300 [0,1,2,3,4,5,6,7,8,9,10,11,12,13,14] [15,16,17] (by kernel_rfl) ?_;refine nxI ?_;refine a0p.same _ (a4T a d h5 h1 h4) inferInstance ?_;refine nxI ?_;refine a0p.same _ (a4T c b h6 h2 h3) inferInstance ?_;refine nxI ?_;refine a0p.same _ (b8x (a*d) (c*b) h7) inferInstance ?_;refine nxI ?_;refine dI (a4T b d h8 h3 h4) ?_;refine dI (b0k (a*d+c*b) (b*d) hbd h7 h8) ?_;refine rtI ?_;exact a0a rfl IsPure.out
 ·have fb:(b==1)=false:=by simpa using e1
  have c1:=a4D a b;rw [fb] at c1;rw [if_neg fun h=>e1 h.1];refine fR 0 ?_;refine OkS.seq ?_;refine fR 100 ?_;refine dI c1 ?_;dsimp only [b5n];refine nxI ?_;dsimp only [b5n];refine nxI ?_;refine ifI ?_;refine skI ?_;refine OkS.seq ?_;refine OkS.regD w1 300 [0,1,2,3,4,5,6,7,8,9,10,11,12,13,14] [15,16,17] (by kernel_rfl) ?_;refine nxI ?_;refine a0p.same _ (a4T a d h5 h1 h4) inferInstance ?_;refine nxI ?_;refine a0p.same _ (a4T c b h6 h2 h3) inferInstance ?_;refine nxI ?_;refine a0p.same _ (b8x (a*d) (c*b) h7) inferInstance ?_;refine nxI ?_;refine dI (a4T b d h8 h3 h4) ?_;refine dI (b0k (a*d+c*b) (b*d) hbd h7 h8) ?_;refine rtI ?_;exact a0a rfl IsPure.out
theorem b5T (p q:Q2)(hp:0<p.d)(hq:0<q.d)(h1:Sm p.n)(h2:Sm q.n)(h3:Sm p.d)(h4:Sm q.d)(h5:Sm (p.n*q.n))(h8:Sm (p.d*q.d)) :
  a0b C0 106 [p.D,q.D] (mkQ (p.n*q.n) (p.d*q.d)).D:=by
 refine a0c.walk w1 b6v rfl fun F=>?_
 obtain ⟨a,b⟩:=p;obtain ⟨c,d⟩:=q;unfold Q2.D;dsimp only at *;have hbd:0<b*d:=Int.mul_pos hp hq;refine fR 0 ?_;refine OkS.seq ?_;refine OkS.regD w1 100 [0,1,2,3,4,5,6,7,8] [9,10,11] (by kernel_rfl) ?_;refine nxI ?_;refine a0p.same _ (a4T a c h5 h1 h2) inferInstance ?_;refine nxI ?_;refine dI (a4T b d h8 h3 h4) ?_;refine dI (b0k (a*c) (b*d) hbd h5 h8) ?_;refine rtI ?_;exact a0a rfl IsPure.out
def c7n (p:Q2):Q2:=⟨-p.n,p.d⟩
theorem c4Q (p:Q2)(h:Sm p.n):a0b C0 140 [p.D] (c7n p).D:=by
 refine a0c.walk w1 b7B rfl fun F=>?_
 obtain ⟨a,b⟩:=p;unfold c7n Q2.D;dsimp only at *;refine fR 0 ?_;refine OkS.seq ?_;refine OkS.regD w1 100 [0,1,2,3,4] [5,6] (by kernel_rfl) ?_;refine nxI ?_;refine a0p.same _ (b0Y a h) inferInstance ?_;refine nxI ?_;refine rtI ?_;exact a0a rfl IsPure.out
theorem b7I {z:Int}(h:Sm z):Sm (-z):=⟨by have:=h.2;omega,by have:=h.1;omega⟩
theorem c4G (p q:Q2)(hp:0<p.d)(hq:0<q.d)(h1:Sm p.n)(h2:Sm q.n)(h3:Sm p.d)(h4:Sm q.d)(h5:Sm (p.n*q.d))(h6:Sm (-q.n*p.d))(h7:Sm (p.n*q.d + -q.n*p.d))(h8:Sm (p.d*q.d)) :
  a0b C0 133 [p.D,q.D] (c2X p (c7n q)).D:=by
 refine a0c.walk w1 b7n rfl fun F=>?_
 have c1:=c4Q q h2;have c2:=b7l p (c7n q) hp hq h1 (b7I h2) h3 h4 h5 h6 h7 h8;obtain ⟨a,b⟩:=p;obtain ⟨c,d⟩:=q;unfold Q2.D at *;dsimp only at *;refine fR 0 ?_;refine OkS.seq ?_;refine OkS.regD w1 100 [0,1,2] [3,4] (by kernel_rfl) ?_;refine nxI ?_;refine a0p.same _ (c1) inferInstance ?_;refine nxI ?_;refine dI c2 ?_;refine rtI ?_;exact a0a rfl IsPure.out
def b3Y (p:Q2):Q2:=if p.n<0 then mkQ (-p.d) (-p.n) else mkQ p.d p.n
theorem c0a (a b:Int)(hb0:b≠0)(ha:Sm a)(hb:Sm b):a0b C0 179 [smI a,smI b] (if b<0 then mkQ (-a) (-b) else mkQ a b).D:=by
 by_cases hn:b<0
 ·rw [if_pos hn]
  refine a0c.walk w1 b3F rfl fun F=>?_
  unfold mkQ Q2.D;dsimp only;have ha':=b7I ha;have hb':=b7I hb;have q1:=b0Y a ha;have q2:=b0Y b hb;have hb1:0 < -b:=by omega
  have e1:decide (max (-1) (min 1 b)<0)=true:=decide_eq_true (by omega);have q3:=a7t b;generalize -a=x at *;generalize -b=y at *;have hg:0<Nat.gcd x.natAbs y.natAbs:=Nat.gcd_pos_of_pos_right _ (by omega);have hgl:Nat.gcd x.natAbs y.natAbs≤y.natAbs:=Nat.gcd_le_right _ (by omega);have hgs:Sm (Nat.gcd x.natAbs y.natAbs:Nat):=⟨by omega,by have:=hb'.2;omega⟩
  refine fR 0 ?_;refine OkS.seq ?_;refine fR 100 ?_;refine dI q3 ?_;rw [e1];refine ifI ?_;refine OkS.regD w1 200 [0,1,2] [3,4,5] (by kernel_rfl) ?_;refine nxI ?_;refine a0p.same _ (q1) inferInstance ?_;refine nxI ?_;refine dI q2 ?_;refine OkS.seq ?_;refine sZ 300 ?_
  repeat' (first|(refine And.intro (by exact sdI) ?_;refine dsI ?_)|((refine brI (fun hb=>?_) (fun hb=>?_))<;>(try simp only [Bool.not_eq_true',Bool.not_eq_false'] at hb)<;>(try simp only [hb])<;>(refine dsI ?_)))
  refine ifI ?_
  (refine brI (fun hb2=>?_) (fun hb2=>?_))<;>(try simp only [Bool.not_eq_true',Bool.not_eq_false'] at hb2)<;>(try simp only [hb2])
  ·have hb1:y=1:=by simpa using hb2
   subst hb1;refine fR 400 ?_;refine rtI ?_;refine a0a ?_ IsPure.out
   have:Nat.gcd x.natAbs (Int.natAbs 1)=1:=Nat.gcd_one_right _
   rw [this];simp
  ·refine skI ?_
   refine fR 500 ?_;refine dI (c2M x y ha' hb') ?_;refine OkS.seq ?_;refine OkS.regD w1 600 [0,1,2,3,4] [5,6,7] (by kernel_rfl) ?_;refine nxI ?_;refine a0p.same _ (b3t x (Nat.gcd x.natAbs y.natAbs:Nat) (by omega) ha' hgs) inferInstance ?_;refine nxI ?_;refine dI (b3t y (Nat.gcd x.natAbs y.natAbs:Nat) (by omega) hb' hgs) ?_;refine rtI ?_;exact a0a rfl IsPure.out
 ·rw [if_neg hn]
  exact b0k a b (by omega) ha hb
theorem c4o (p:Q2)(h0:p.n≠0)(h1:Sm p.n)(h2:Sm p.d):a0b C0 175 [p.D] (b3Y p).D:=by
 refine a0c.walk w1 b5z rfl fun F=>?_
 have c1:=c0a p.d p.n h0 h2 h1;obtain ⟨a,b⟩:=p;unfold b3Y Q2.D at *;dsimp only at *;refine fR 0 ?_;refine fR 100 ?_;refine dI c1 ?_;refine rtI ?_;exact a0a rfl IsPure.out
theorem c5a (p q:Q2)(h0:q.n≠0)(hp:0<p.d)(hq:0<(b3Y q).d)(h1:Sm p.n)(h2:Sm q.n)(h3:Sm p.d)(h4:Sm q.d)(g1:Sm (b3Y q).n)(g2:Sm (b3Y q).d)(h5:Sm (p.n*(b3Y q).n))(h8:Sm (p.d*(b3Y q).d)) :
  a0b C0 102 [p.D,q.D] (mkQ (p.n*(b3Y q).n) (p.d*(b3Y q).d)).D:=by
 refine a0c.walk w1 b8a rfl fun F=>?_
 have c1:=c4o q h0 h2 h4;have c2:=b5T p (b3Y q) hp hq h1 g1 h3 g2 h5 h8;generalize b3Y q=r at *;obtain ⟨a,b⟩:=p;obtain ⟨c,d⟩:=q;obtain ⟨e,f⟩:=r;unfold Q2.D at *;dsimp only at *;refine fR 0 ?_;refine OkS.seq ?_;refine OkS.regD w1 100 [0,1,2] [3,4] (by kernel_rfl) ?_;refine nxI ?_;refine a0p.same _ (c1) inferInstance ?_;refine nxI ?_;refine dI c2 ?_;refine rtI ?_;exact a0a rfl IsPure.out
def a5L (a b:Int):Int:=if a<b then -1 else if b<a then 1 else 0
theorem b8e (a b:Int):a0b C0 203 [smI a,smI b] (i64 (a5L a b)):=by
 refine a0c.walk w1 b6w rfl fun F=>?_
 unfold a5L;refine fR 0 ?_;refine OkS.seq ?_;refine sZ 100 ?_
 repeat' (first|(refine And.intro (by exact sdI) ?_;refine dsI ?_)|((refine brI (fun hb=>?_) (fun hb=>?_))<;>(try simp only [Bool.not_eq_true',Bool.not_eq_false'] at hb)<;>(try simp only [hb])<;>(refine dsI ?_)))
 refine ifI ?_;refine OkS.seq ?_;refine OkS.block ?_;refine fR 200 ?_;refine ifI ?_
 (refine brI (fun h13=>?_) (fun h13=>?_))<;>(try simp only [Bool.not_eq_true',Bool.not_eq_false'] at h13)<;>(try simp only [h13])
 ·have h1:a<b:=by simpa using h13
  rw [if_pos h1];refine fR 300 ?_;refine rtI ?_;exact a0a rfl IsPure.out
 ·have h1:¬ a<b:=by simpa using h13
  rw [if_neg h1];refine fR 400 ?_;refine ifI ?_
  (refine brI (fun h19=>?_) (fun h19=>?_))<;>(try simp only [Bool.not_eq_true',Bool.not_eq_false'] at h19)<;>(try simp only [h19])
  ·have h2:b<a:=by simpa using h19
   rw [if_pos h2];refine fR 500 ?_;refine rtI ?_;exact a0a rfl IsPure.out
  ·have h2:¬ b<a:=by simpa using h19
   rw [if_neg h2];refine skI ?_;refine fR 600 ?_;refine rtI ?_;exact a0a rfl IsPure.out
theorem b5J (p q:Q2)(h1:Sm p.n)(h2:Sm q.n)(h3:Sm p.d)(h4:Sm q.d)(h5:Sm (p.n*q.d))(h6:Sm (q.n*p.d)):a0b C0 141 [p.D,q.D] (i64 (a5L (p.n*q.d) (q.n*p.d))):=by
 refine a0c.walk w1 b6M rfl fun F=>?_
 obtain ⟨a,b⟩:=p;obtain ⟨c,d⟩:=q;unfold Q2.D;dsimp only at *;refine fR 0 ?_;refine OkS.seq ?_;refine OkS.regD w1 100 [0,1,2,3,4,5,6,7,8] [9,10,11] (by kernel_rfl) ?_;refine nxI ?_;refine a0p.same _ (a4T a d h5 h1 h4) inferInstance ?_;refine nxI ?_;refine dI (a4T c b h6 h2 h3) ?_;refine dI (b8e (a*d) (c*b)) ?_;refine rtI ?_;exact a0a rfl IsPure.out
theorem b9O (p:Q2):a0b C0 68 [p.D] (i64 (max (-1) (min 1 p.n))):=by
 refine a0c.walk w1 c9c rfl fun F=>?_
 obtain ⟨a,b⟩:=p;unfold Q2.D;dsimp only;refine fR 0 ?_;refine fR 100 ?_;refine dI (a7t a) ?_;refine rtI ?_;exact a0a rfl IsPure.out
theorem b3C {n k:Nat}(h:Nat.blt n k=true):n<k:=by rw [Nat.blt_eq] at h;exact h
def smB:Int→Bool
 | .ofNat n=>Nat.blt n 9223372036854775808
 | .negSucc n=>Nat.blt n 9223372036854775807
theorem a0C {z:Int}(h:smB z=true):Sm z:=by
 cases z with
 | ofNat n=>have:=b3C h;exact ⟨by rw [Int.ofNat_eq_natCast];omega,by rw [Int.ofNat_eq_natCast];omega⟩
 | negSucc n=>have:=b3C h;exact ⟨by omega,by omega⟩
def psB:Int→Bool
 | .ofNat n=>Nat.blt 0 n
 | .negSucc _=>false
theorem a6o {z:Int}(h:psB z=true):0<z:=by
 cases z with
 | ofNat n=>have:=b3C h;rw [Int.ofNat_eq_natCast];omega
 | negSucc n=>cases h
def nzB:Int→Bool
 | .ofNat n=>Nat.blt 0 n
 | .negSucc _=>true
theorem c9E {z:Int}(h:nzB z=true):z≠0:=by
 cases z with
 | ofNat n=>have:=b3C h;rw [Int.ofNat_eq_natCast];omega
 | negSucc n=>omega
def asQ:D→Option Q2
 | .agg [.prim (.int .i64 a),.prim (.slice none 0 0),.prim (.int .i64 b),.prim (.slice none 0 0)]=>some ⟨a,b⟩
 | _=>none
theorem b7F {d:D}{q:Q2}(h:asQ d=some q):d=q.D:=by
 unfold asQ at h;split at h
 ·cases h;rfl
 ·cases h
def c0g (p q:Q2):Bool:=psB p.d&&psB q.d&&smB p.n&&smB q.n&&smB p.d&&smB q.d&&smB (p.n*q.d)&&smB (q.n*p.d)&&smB (p.n*q.d+q.n*p.d)&&smB (p.d*q.d)
def b5L (p q:Q2):Bool:=psB p.d&&psB q.d&&smB p.n&&smB q.n&&smB p.d&&smB q.d&&smB (p.n*q.d)&&smB (-q.n*p.d)&&smB (p.n*q.d + -q.n*p.d)&&smB (p.d*q.d)
def b6R (p q:Q2):Bool:=psB p.d&&psB q.d&&smB p.n&&smB q.n&&smB p.d&&smB q.d&&smB (p.n*q.n)&&smB (p.d*q.d)
def c9L (p q:Q2):Bool:=smB p.n&&smB q.n&&smB p.d&&smB q.d&&smB (p.n*q.d)&&smB (q.n*p.d)
def c5Z (p q r:Q2):Bool:=nzB q.n&&psB p.d&&psB r.d&&smB p.n&&smB q.n&&smB p.d&&smB q.d&&smB r.n&&smB r.d&&smB (p.n*r.n)&&smB (p.d*r.d)
def b5x (p q:Q2):Q2:=c2X p (c7n q)
def c1z (p q:Q2):Q2:=mkQ (p.n*q.n) (p.d*q.d)
theorem b7k {p q:Q2}(hb:b5L p q=true):a0b C0 133 [p.D,q.D] (b5x p q).D:=by
 simp only [b5L,Bool.and_eq_true] at hb;obtain ⟨⟨⟨⟨⟨⟨⟨⟨⟨b1,b2⟩,b3⟩,b4⟩,b5⟩,b6⟩,b7⟩,b8⟩,b9⟩,b10⟩:=hb;exact c4G p q (a6o b1) (a6o b2) (a0C b3) (a0C b4) (a0C b5) (a0C b6) (a0C b7) (a0C b8) (a0C b9) (a0C b10)
theorem c2V {p q:Q2}(hb:c0g p q=true):a0b C0 104 [p.D,q.D] (c2X p q).D:=by
 simp only [c0g,Bool.and_eq_true] at hb;obtain ⟨⟨⟨⟨⟨⟨⟨⟨⟨b1,b2⟩,b3⟩,b4⟩,b5⟩,b6⟩,b7⟩,b8⟩,b9⟩,b10⟩:=hb;exact b7l p q (a6o b1) (a6o b2) (a0C b3) (a0C b4) (a0C b5) (a0C b6) (a0C b7) (a0C b8) (a0C b9) (a0C b10)
theorem b8w {p q:Q2}(hb:b6R p q=true):a0b C0 106 [p.D,q.D] (c1z p q).D:=by
 simp only [b6R,Bool.and_eq_true] at hb;obtain ⟨⟨⟨⟨⟨⟨⟨b1,b2⟩,b3⟩,b4⟩,b5⟩,b6⟩,b7⟩,b8⟩:=hb;exact b5T p q (a6o b1) (a6o b2) (a0C b3) (a0C b4) (a0C b5) (a0C b6) (a0C b7) (a0C b8)
abbrev ptD (x y:Q2):D:=.agg [i64 x.n,a2a,i64 x.d,a2a,i64 y.n,a2a,i64 y.d,a2a]
def c4U (dx dy:Q2):Q2:=c2X (c1z dx dx) (c1z dy dy)
def b7w (a b c d dx dy:Q2):Bool:=b5L a c&&b5L b d&&b6R dx dx&&b6R dy dy&&c0g (c1z dx dx) (c1z dy dy)
theorem c4F {a b c d:Q2}(hb:b7w a b c d (b5x a c) (b5x b d)=true):a0b C0 79 [ptD a b,ptD c d] (c4U (b5x a c) (b5x b d)).D:=by
 simp only [b7w,Bool.and_eq_true] at hb;obtain ⟨⟨⟨⟨b1,b2⟩,b3⟩,b4⟩,b5⟩:=hb;have c1:=b7k b1;have c2:=b7k b2;have c3:=b8w b3;have c4:=b8w b4;have c5:=c2V b5;unfold c4U;generalize b5x a c=dx at *;generalize b5x b d=dy at *;generalize c1z dx dx=px at *;generalize c1z dy dy=py at *;generalize c2X px py=s at *;obtain ⟨a1,a2⟩:=a;obtain ⟨b1,b2⟩:=b;obtain ⟨c1',c2'⟩:=c;obtain ⟨d1,d2⟩:=d;obtain ⟨x1,x2⟩:=dx;obtain ⟨y1,y2⟩:=dy;obtain ⟨p1,p2⟩:=px;obtain ⟨q1,q2⟩:=py;obtain ⟨s1,s2⟩:=s;unfold Q2.D ptD at *;dsimp only at *;refine a0c.walk w1 c9s rfl fun F=>?_
 refine fR 0 ?_;refine OkS.seq ?_;refine OkS.regD w1 100 [0,1,2,3,4,5,6,7,8,9,10,11] [12,13] (by kernel_rfl) ?_;refine nxI ?_;refine a0p.same _ (c1) inferInstance ?_;refine nxI ?_;refine a0p.same _ (c2) inferInstance ?_;refine nxI ?_;refine OkS.seq ?_;refine OkS.regD w1 200 [0,1,2,3,4] [5,6,7] (by kernel_rfl) ?_;refine nxI ?_;refine a0p.same _ (c3) inferInstance ?_;refine nxI ?_;refine dI c4 ?_;refine dI c5 ?_;refine rtI ?_;exact a0a rfl IsPure.out
def d0d:D→Option (Q2 × Q2)
 | .agg [.prim (.int .i64 a),.prim (.slice none 0 0),.prim (.int .i64 b),.prim (.slice none 0 0),.prim (.int .i64 c),.prim (.slice none 0 0),.prim (.int .i64 d),.prim (.slice none 0 0)]=>some (⟨a,b⟩,⟨c,d⟩)
 | _=>none
theorem b8N {d:D}{q:Q2 × Q2}(h:d0d d=some q):d=ptD q.1 q.2:=by
 unfold d0d at h;split at h
 ·cases h;rfl
 ·cases h
instance  (a b:Q2):CellsPure (ptD a b):=inferInstance
def c4M (b:Bool)(d:D):Option D:=match b with
 | true=>some d
 | false=>none
theorem a5Q {b:Bool}{d d':D}(h:c4M b d=some d'):b=true∧d=d':=by
 cases b
 ·cases h
 ·cases h;exact ⟨rfl,rfl⟩
def d1l (f:Nat)(ds:List D):Option D:=match ds with
 | [x,y]=>match Nat.beq f 79 with
  | true=>match d0d x with
   | some (a,b)=>match d0d y with
    | some (c,d)=>c4M (b7w a b c d (b5x a c) (b5x b d)) (c4U (b5x a c) (b5x b d)).D
    | none=>none
   | none=>none
  | false=>match asQ x with
   | some p=>match asQ y with
    | some q=>match Nat.beq f 104 with
     | true=>c4M (c0g p q) (c2X p q).D
     | false=>match Nat.beq f 133 with
      | true=>c4M (b5L p q) (b5x p q).D
      | false=>match Nat.beq f 106 with
       | true=>c4M (b6R p q) (c1z p q).D
       | false=>match Nat.beq f 141 with
        | true=>c4M (c9L p q) (i64 (a5L (p.n*q.d) (q.n*p.d)))
        | false=>match Nat.beq f 102 with
         | true=>c4M (c5Z p q (b3Y q)) (mkQ (p.n*(b3Y q).n) (p.d*(b3Y q).d)).D
         | false=>none
    | none=>none
   | none=>none
 | [x]=>match Nat.beq f 68 with
  | true=>match asQ x with
   | some p=>some (i64 (max (-1) (min 1 p.n)))
   | none=>none
  | false=>match Nat.beq f 77 with
   | true=>match x with
    | .prim (.int .i64 z)=>some (smF z 1)
    | _=>none
   | false=>none
 | _=>none
theorem c5Q (p q:Q2):ArePure [p.D,q.D]:=inferInstance
theorem c3f {f:Nat}{ds:List D}{d:D}(h:d1l f ds=some d):a0b C0 f ds d∧ArePure ds:=by
 unfold d1l at h;split at h<;>first|(cases h;done)|skip
 ·split at h
  ·rename_i hf
   obtain rfl:=Nat.eq_of_beq_eq_true hf;split at h<;>first|(cases h;done)|skip
   rename_i ha;split at h<;>first|(cases h;done)|skip
   rename_i hb;obtain rfl:=b8N ha;obtain rfl:=b8N hb;obtain ⟨hk,rfl⟩:=a5Q h;exact ⟨c4F hk,inferInstance⟩
  split at h<;>first|(cases h;done)|skip
  rename_i p hp;split at h<;>first|(cases h;done)|skip
  rename_i q hq;obtain rfl:=b7F hp;obtain rfl:=b7F hq;refine ⟨?_,c5Q p q⟩;split at h
  ·rename_i hf
   obtain rfl:=Nat.eq_of_beq_eq_true hf;obtain ⟨hb,rfl⟩:=a5Q h;exact c2V hb
  split at h
  ·rename_i hf
   obtain rfl:=Nat.eq_of_beq_eq_true hf;obtain ⟨hb,rfl⟩:=a5Q h;exact b7k hb
  split at h
  ·rename_i hf
   obtain rfl:=Nat.eq_of_beq_eq_true hf;obtain ⟨hb,rfl⟩:=a5Q h;exact b8w hb
  split at h
  ·rename_i hf
   obtain rfl:=Nat.eq_of_beq_eq_true hf;obtain ⟨hb,rfl⟩:=a5Q h;simp only [c9L,Bool.and_eq_true] at hb;obtain ⟨⟨⟨⟨⟨b1,b2⟩,b3⟩,b4⟩,b5⟩,b6⟩:=hb;exact b5J p q (a0C b1) (a0C b2) (a0C b3) (a0C b4) (a0C b5) (a0C b6)
  split at h<;>first|(cases h;done)|skip
  rename_i hf;obtain rfl:=Nat.eq_of_beq_eq_true hf;obtain ⟨hb,rfl⟩:=a5Q h;simp only [c5Z,Bool.and_eq_true] at hb;obtain ⟨⟨⟨⟨⟨⟨⟨⟨⟨⟨b1,b2⟩,b3⟩,b4⟩,b5⟩,b6⟩,b7⟩,b8⟩,b9⟩,b10⟩,b11⟩:=hb;exact c5a p q (c9E b1) (a6o b2) (a6o b3) (a0C b4) (a0C b5) (a0C b6) (a0C b7) (a0C b8) (a0C b9) (a0C b10) (a0C b11)
 ·split at h
  ·rename_i hf
   obtain rfl:=Nat.eq_of_beq_eq_true hf;split at h<;>first|(cases h;done)|skip
   rename_i p hp;obtain rfl:=b7F hp;cases h;exact ⟨b9O p,inferInstance⟩
  split at h<;>first|(cases h;done)|skip
  rename_i hf;obtain rfl:=Nat.eq_of_beq_eq_true hf;split at h<;>first|(cases h;done)|skip
  cases h;exact ⟨d2o _,inferInstance⟩
def c9x (o:Nat→List D→Option D)(f:Nat)(ds:List D):Option D:=match d1l f ds with
 | some d=>some d
 | none=>o f ds
theorem b2V {o:Nat→List D→Option D}(ho:∀ f ds d,o f ds=some d→a0b C0 f ds d∧ArePure ds)(f:Nat)(ds:List D)(d:D)(h:c9x o f ds=some d):a0b C0 f ds d∧ArePure ds:=by
 unfold c9x at h;split at h
 ·rename_i hf;cases h;exact c3f hf
 ·exact ho _ _ _ h
def c3w:Value→Value→Bool
 | .int .i64 a,.int .i64 b=>a==b
 | .string a,.string b=>a.data.toList==b.data.toList
 | .bool a,.bool b=>a==b
 | .slice none 0 0,.slice none 0 0=>true
 | _,_=>false
theorem c0s {a b:Value}(h:c3w a b=true):a=b:=by
 unfold c3w at h;split at h
 ·rw [eq_of_beq h]
 ·rename_i a b
  have:=eq_of_beq h
  congr 1
  exact ByteArray.ext (Array.toList_inj.1 this)
 ·rw [eq_of_beq h]
 ·rfl
 ·cases h
def eqL (f:D→D→Bool):List D→List D→Bool
 | [],[]=>true
 | a::l,b::m=>f a b&&eqL f l m
 | _,_=>false
theorem b0R {f:D→D→Bool}(hf:∀ a b,f a b=true→a=b):∀ {l m:List D},eqL f l m=true→l=m
 | [],[],_=>rfl
 | a::l,b::m,h=>by
  simp only [eqL,Bool.and_eq_true] at h;rw [hf a b h.1,b0R hf h.2]
 | [],_::_,h=>by simp [eqL] at h
 | _::_,[],h=>by simp [eqL] at h
def eqD:Nat→D→D→Bool
 | 0,_,_=>false
 | n+1,a,b=>match a,b with
  | .prim a,.prim b=>c3w a b
  | .agg l,.agg m=>eqL (eqD n) l m
  | .sl x y l,.sl x' y' m=>(x==x')&&Nat.beq y y'&&eqL (eqD n) l m
  | _,_=>false
theorem b0K:∀ (n:Nat) (a b:D),eqD n a b=true→a=b
 | 0,_,_,h=>by simp [eqD] at h
 | n+1,a,b,h=>by
  unfold eqD at h;split at h
  ·rw [c0s h]
  ·rw [b0R (b0K n) h]
  ·simp only [Bool.and_eq_true] at h
   rw [eq_of_beq h.1.1,Nat.eq_of_beq_eq_true h.1.2,b0R (b0K n) h.2]
  ·cases h
def dig:Nat→Nat→List UInt8
 | 0,_=>[]
 | k+1,u=>match Nat.blt u 10 with
  | true=>[UInt8.ofNat (48+u)]
  | false=>dig k (u / 10)++[UInt8.ofNat (48+u%10)]
theorem b7b:∀ (k u:Nat),u<10^k→dig k u=Lib.decDigits u∨k=0
 | 0,_,_=>.inr rfl
 | k+1,u,h=>by
  left;unfold dig Lib.decDigits
  by_cases hu:u<10
  ·rw [dif_pos hu,show Nat.blt u 10=true from by rw [Nat.blt_eq];exact hu]
  ·rw [dif_neg hu,show Nat.blt u 10=false from by rw [← Bool.not_eq_true,Nat.blt_eq];exact hu]
   dsimp only;rw [Nat.pow_succ] at h;rcases b7b k (u / 10) (by omega) with h1|h1
   ·rw [h1]
   ·subst h1;simp at h;omega
def a1w:D:=.agg [.sl true 4 [.agg [.prim (.string ⟨#[109,111,105,115,116,117,114,101]⟩),.prim (.string ⟨#[49,47,53]⟩),.prim (.string ⟨#[104,97,108,102,45,117,112]⟩),.prim (.string ⟨#[49,47,49,48]⟩)],.agg [.prim (.string ⟨#[119,101,105,103,104,116]⟩),.prim (.string ⟨#[49,47,50]⟩),.prim (.string ⟨#[104,97,108,102,45,101,118,101,110]⟩),.prim (.string ⟨#[49,47,50]⟩)]],.sl true 3 [.agg [.prim (.string ⟨#[111,110,101]⟩),.sl true 1 [.prim (.string ⟨#[]⟩),.prim (.string ⟨#[55,56]⟩)],.sl true 1 [.prim (.string ⟨#[49,51]⟩),.prim (.string ⟨#[]⟩)]],.agg [.prim (.string ⟨#[116,119,111]⟩),.sl true 1 [.prim (.string ⟨#[]⟩),.prim (.string ⟨#[55,53]⟩)],.sl true 1 [.prim (.string ⟨#[49,52]⟩),.prim (.string ⟨#[]⟩)]],.agg [.prim (.string ⟨#[116,104,114,101,101]⟩),.sl true 1 [.prim (.string ⟨#[]⟩),.prim (.string ⟨#[]⟩)],.sl true 1 [.prim (.string ⟨#[49,54]⟩),.prim (.string ⟨#[]⟩)]]]]
def c5j:List D:=[.agg [i64 67,a2a,i64 5,a2a],.agg [i64 69,a2a,i64 5,a2a],.agg [i64 68,a2a,i64 5,a2a]]
def d2p:D:=.agg [i64 68,a2a,i64 5,a2a]
def c5U (f:Nat)(ds:List D):Option D:=match Nat.beq f 46 with
 | true=>match ds with
  | []=>some b0m
  | _=>none
 | false=>match Nat.beq f 145 with
  | true=>match ds with
   | []=>some b6O
   | _=>none
  | false=>match Nat.beq f 27 with
   | true=>match ds with
    | [d]=>match eqD 30 d a1w with
     | true=>some (i64 0)
     | false=>none
    | _=>none
   | false=>match Nat.beq f 67 with
    | true=>match ds with
     | [.prim (.string s)]=>some (boo (a7C s.data.toList))
     | _=>none
    | false=>match Nat.beq f 183 with
     | true=>match ds with
      | [.prim (.int .i64 (.ofNat z))]=>match Nat.ble z 9223372036854775807 with
       | true=>some (str ⟨(dig 19 z).toArray⟩)
       | false=>none
      | _=>none
     | false=>match Nat.beq f 199 with
      | true=>match ds with
       | [.prim (.string s)]=>match Nat.ble s.size 18 with
        | true=>match Lib.atoi s.data.toList with
         | some n=>some (.tup [i64 n,.prim .nilIface])
         | none=>none
        | false=>none
       | _=>none
      | false=>match Nat.beq f 64 with
       | true=>match ds with
        | [.sl _ z es]=>match Nat.beq z 4&&eqL (eqD 30) es c5j with
         | true=>some d2p
         | false=>none
        | _=>none
       | false=>none
def Kn:Prop:=a0b C0 27 [a1w] (i64 0)∧∀ b,a0b C0 64 [.sl b 4 c5j] d2p
theorem a6l:a1S a1w:=a0T (n:=30) (by kernel_rfl)
theorem c0L (b:Bool):a1S (.sl b 4 c5j):=by cases b<;>exact a0T (n:=30) (by kernel_rfl)
theorem b3h {d:D}(h:a1S d):ArePure [d]:=⟨fun x hx=>by simp at hx;subst hx;exact h⟩
theorem c4T (K:Kn)(f:Nat)(ds:List D)(d:D)(h:c5U f ds=some d):a0b C0 f ds d∧ArePure ds:=by
 unfold c5U at h;split at h
 ·rename_i hf
  obtain rfl:=Nat.eq_of_beq_eq_true hf;split at h<;>first|(cases h;done)|skip
  cases h;exact ⟨a8T,inferInstance⟩
 split at h
 ·rename_i hf
  obtain rfl:=Nat.eq_of_beq_eq_true hf;split at h<;>first|(cases h;done)|skip
  cases h;exact ⟨b3S,inferInstance⟩
 split at h
 ·rename_i hf
  obtain rfl:=Nat.eq_of_beq_eq_true hf;split at h<;>first|(cases h;done)|skip
  split at h<;>first|(cases h;done)|skip
  rename_i hd;obtain rfl:=b0K _ _ _ hd;cases h;exact ⟨K.1,b3h a6l⟩
 split at h
 ·rename_i hf
  obtain rfl:=Nat.eq_of_beq_eq_true hf;split at h<;>first|(cases h;done)|skip
  cases h;exact ⟨b0C _,inferInstance⟩
 split at h
 ·rename_i hf
  obtain rfl:=Nat.eq_of_beq_eq_true hf;split at h<;>first|(cases h;done)|skip
  split at h<;>first|(cases h;done)|skip
  rename_i z x hz;have hz:=Nat.le_of_ble_eq_true hz;cases h;refine ⟨?_,inferInstance⟩
  have:=b2I (z:Int) (by omega) (by omega)
  have e:Lib.itoa (z:Int)=dig 19 z:=by
   rcases b7b 19 z (Nat.lt_of_le_of_lt hz (by decide)) with h1|h1
   ·rw [h1];rfl
   ·cases h1
  rw [e] at this;exact this
 split at h
 ·rename_i hf
  obtain rfl:=Nat.eq_of_beq_eq_true hf;split at h<;>first|(cases h;done)|skip
  split at h<;>first|(cases h;done)|skip
  split at h<;>first|(cases h;done)|skip
  rename_i s b hs o n hn;cases h;exact ⟨b2M _ n (Nat.le_of_ble_eq_true hs) hn,inferInstance⟩
 split at h
 ·rename_i hf
  obtain rfl:=Nat.eq_of_beq_eq_true hf;split at h<;>first|(cases h;done)|skip
  split at h<;>first|(cases h;done)|skip
  rename_i hd;simp only [Bool.and_eq_true] at hd;obtain rfl:=Nat.eq_of_beq_eq_true hd.1;obtain rfl:=b0R (b0K _) hd.2;cases h;exact ⟨K.2 _,b3h (c0L _)⟩
 ·cases h
def mtA (t:Nat)(name:String):Option Nat:=match Nat.beq t 114 with
 | true=>match decide (name = "Cmp") with
  | true=>some 141
  | false=>none
 | false=>none
theorem b3H (t:Nat)(name:String)(f:Nat)(h:mtA t name=some f)(v:Value)(w:World):(method (C0.P.types.size+Made.depth) t v name).run C0.P w=.ok (f,v) w:=by
 unfold mtA at h;split at h<;>first|(cases h;done)|skip
 rename_i ht;split at h<;>first|(cases h;done)|skip
 rename_i hn;obtain rfl:=Nat.eq_of_beq_eq_true ht;obtain rfl:=of_decide_eq_true hn;cases h
 kernel_rfl
def d4a:a0k:=⟨.arr 256 1 false,256,256,true,.agg (Array.replicate 256 (.bool false))⟩
noncomputable def tt2 (t:Nat):Option a0k:=match Nat.beq t 340 with
 | true=>some d4a
 | false=>tbt.get t
theorem c5J:Tab C0.P tt2:=fun t i h=>by
 unfold tt2 at h;split at h
 ·rename_i ht
  obtain rfl:=Nat.eq_of_beq_eq_true ht;cases h
  kernel_rfl
 ·exact tab t i h
end Go.Ide
