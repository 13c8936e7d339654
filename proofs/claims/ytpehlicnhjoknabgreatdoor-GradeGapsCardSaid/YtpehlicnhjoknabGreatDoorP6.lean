/- The layer of own lemmas and contracts, part 6. -/
import Derived.Test.YtpehlicnhjoknabGreatDoorP4
import Derived.Test.YtpehlicnhjoknabGreatDoorP3
import Derived.Test.YtpehlicnhjoknabGreatDoorP5
import Derived.Lib.AppendIntMem
import Derived.Lib.SmallJoins
import Derived.Shelf.Spec.BitsCarry
import Derived.Laws.StandIn
set_option linter.unusedVariables false
set_option linter.unusedSimpArgs false
namespace Go.Ide
open Go Go.Ide Go.Proofs Go.RowKit
set_option maxRecDepth 100000
def G0 (w:World):Prop:=Lib.TabIs Tryz.prog w "internal/strconv.uint64pow10" .u64 Lib.pow10Tab
theorem c0Q:Tryz.prog.globalNamed "internal/strconv.uint64pow10" = some 5:=by kernel_rfl
theorem c1u {w w':World}(h:G0 w)(b:Below (5+1) w w'):G0 w':=by
 unfold G0 Lib.TabIs World.var? at h ⊢;rw [c0Q] at h ⊢;simp only [Option.bind_some] at h ⊢;rw [b.block _ (by decide)];exact h
noncomputable def C0:Ctx:={P:=Tryz.prog,G:=G0,nG:=5+1,hG:=fun _ _=>c1u}
def a9W:D:=.mp [.prim (.string ⟨#[108,105,110,101]⟩),.prim (.string ⟨#[122,105,103,122,97,103]⟩),.prim (.string ⟨#[103,114,105,100]⟩),.prim (.string ⟨#[113,117,105,110,99,117,110,120]⟩)]
 [.agg [.prim (.int .i64 1),.prim (.int .i64 64),.clo (.func 178) [] []],.agg [.prim (.int .i64 1),.prim (.int .i64 64),.clo (.func 180) [] []],.agg [.prim (.int .i64 1),.prim (.int .i64 8),.clo (.func 181) [] []],.agg [.prim (.int .i64 5),.prim (.int .i64 5),.clo (.func 182) [] []]]
theorem b1g (a b:Value)(fn:Fn):a9c (.agg [.prim a,.prim b,.clo fn [] []]):=a9c.agg fun d hd=>by
 simp only [List.mem_cons,List.not_mem_nil,or_false] at hd;rcases hd with rfl|rfl|rfl
 ·exact .prim _
 ·exact .prim _
 ·exact .clo
theorem a9q:a0b C0 112 [] a9W:=by
 refine a0c.intro tab Tryz.func112 rfl (by kernel_rfl) (by kernel_rfl) (by kernel_rfl) fun F=>?_
 refine Ok.seq (Ok.region ?_);refine OkL.p tab rfl rfl trivial ?_;refine OkL.nil ?_;refine Ok.seq (Ok.region ?_);refine OkM.start (m:=1) rfl rfl rfl ?_;refine OkM.pB (C:=C0) tab (.agg [.prim (.int .i64 1),.prim (.int .i64 64),.clo (.func 178) [] []]) rfl (by kernel_rfl) (b1g _ _ _) rfl (by decide) ?_;refine OkM.ins (C:=C0) (k:=9) (e:=185) (z:=.agg #[.int .i64 0,.int .i64 0,.nilFunc]) b2Y (by kernel_rfl) rfl rfl rfl (by kernel_rfl) rfl (fun _ _ _ _ h _ _ _=>b1g _ _ _ _ _ _ _ _ _ _ h) ?_;refine OkM.pB (C:=C0) tab (.agg [.prim (.int .i64 1),.prim (.int .i64 64),.clo (.func 180) [] []]) rfl (by kernel_rfl) (b1g _ _ _) rfl (by decide) ?_;refine OkM.ins (C:=C0) (k:=9) (e:=185) (z:=.agg #[.int .i64 0,.int .i64 0,.nilFunc]) b2Y (by kernel_rfl) rfl rfl rfl (by kernel_rfl) rfl (fun _ _ _ _ h _ _ _=>b1g _ _ _ _ _ _ _ _ _ _ h) ?_;refine OkM.pB (C:=C0) tab (.agg [.prim (.int .i64 1),.prim (.int .i64 8),.clo (.func 181) [] []]) rfl (by kernel_rfl) (b1g _ _ _) rfl (by decide) ?_;refine OkM.ins (C:=C0) (k:=9) (e:=185) (z:=.agg #[.int .i64 0,.int .i64 0,.nilFunc]) b2Y (by kernel_rfl) rfl rfl rfl (by kernel_rfl) rfl (fun _ _ _ _ h _ _ _=>b1g _ _ _ _ _ _ _ _ _ _ h) ?_;refine OkM.pB (C:=C0) tab (.agg [.prim (.int .i64 5),.prim (.int .i64 5),.clo (.func 182) [] []]) rfl (by kernel_rfl) (b1g _ _ _) rfl (by decide) ?_;refine OkM.ins (C:=C0) (k:=9) (e:=185) (z:=.agg #[.int .i64 0,.int .i64 0,.nilFunc]) b2Y (by kernel_rfl) rfl rfl rfl (by kernel_rfl) rfl (fun _ _ _ _ h _ _ _=>b1g _ _ _ _ _ _ _ _ _ _ h) ?_;refine OkM.done ?_;refine OkL.p tab rfl rfl trivial ?_;refine OkL.p tab rfl rfl trivial ?_;refine OkL.nil ?_;refine Ok.ret ?_;exact ⟨.inr rfl,_,_,rfl,⟨trivial,trivial⟩,a9W,.refl _,a0X (n:=20) (by kernel_rfl),rfl⟩
def b8Y:D:=.mp [.prim (.string ⟨#[100,111,119,110]⟩),.prim (.string ⟨#[117,112]⟩),.prim (.string ⟨#[104,97,108,102,45,117,112]⟩),.prim (.string ⟨#[104,97,108,102,45,101,118,101,110]⟩)]
 [.agg [.clo (.func 244) [] []],.agg [.clo (.func 245) [] []],.agg [.clo (.func 246) [] []],.agg [.clo (.func 247) [] []]]
theorem b1x (fn:Fn):a9c (.agg [.clo fn [] []]):=a9c.agg fun d hd=>by
 simp only [List.mem_cons,List.not_mem_nil,or_false] at hd;subst hd;exact .clo
theorem b4m:a0b C0 216 [] b8Y:=by
 refine a0c.intro tab Tryz.func216 rfl (by kernel_rfl) (by kernel_rfl) (by kernel_rfl) fun F=>?_
 refine Ok.seq (Ok.region ?_);refine OkL.p tab rfl rfl trivial ?_;refine OkL.nil ?_;refine Ok.seq (Ok.region ?_);refine OkM.start (m:=1) rfl rfl rfl ?_;refine OkM.pB (C:=C0) tab (.agg [.clo (.func 244) [] []]) rfl (by kernel_rfl) (b1x _) rfl (by decide) ?_;refine OkM.ins (C:=C0) (k:=9) (e:=289) (z:=.agg #[.nilFunc]) b2Y (by kernel_rfl) rfl rfl rfl (by kernel_rfl) rfl (fun _ _ _ _ h _ _ _=>b1x _ _ _ _ _ _ _ _ h) ?_;refine OkM.pB (C:=C0) tab (.agg [.clo (.func 245) [] []]) rfl (by kernel_rfl) (b1x _) rfl (by decide) ?_;refine OkM.ins (C:=C0) (k:=9) (e:=289) (z:=.agg #[.nilFunc]) b2Y (by kernel_rfl) rfl rfl rfl (by kernel_rfl) rfl (fun _ _ _ _ h _ _ _=>b1x _ _ _ _ _ _ _ _ h) ?_;refine OkM.pB (C:=C0) tab (.agg [.clo (.func 246) [] []]) rfl (by kernel_rfl) (b1x _) rfl (by decide) ?_;refine OkM.ins (C:=C0) (k:=9) (e:=289) (z:=.agg #[.nilFunc]) b2Y (by kernel_rfl) rfl rfl rfl (by kernel_rfl) rfl (fun _ _ _ _ h _ _ _=>b1x _ _ _ _ _ _ _ _ h) ?_;refine OkM.pB (C:=C0) tab (.agg [.clo (.func 247) [] []]) rfl (by kernel_rfl) (b1x _) rfl (by decide) ?_;refine OkM.ins (C:=C0) (k:=9) (e:=289) (z:=.agg #[.nilFunc]) b2Y (by kernel_rfl) rfl rfl rfl (by kernel_rfl) rfl (fun _ _ _ _ h _ _ _=>b1x _ _ _ _ _ _ _ _ h) ?_;refine OkM.done ?_;refine OkL.p tab rfl rfl trivial ?_;refine OkL.p tab rfl rfl trivial ?_;refine OkL.nil ?_;refine Ok.ret ?_;exact ⟨.inr rfl,_,_,rfl,⟨trivial,trivial⟩,b8Y,.refl _,a0X (n:=20) (by kernel_rfl),rfl⟩
theorem c9q {ρ:Lk}{O:Nat→Prop}{w:World}{a b c:Value}{vs:Array Value}(hn:vs.size=3)(h:∀ (i:Nat) (x:D),[D.prim a,.prim b,.prim c][i]? = some x→Rep ρ O w x (vs.getD i undef)):vs = #[a,b,c]:=by
 match vs,hn with
 | ⟨[u,v,x]⟩,_ =>
  have h0:=h 0 _ rfl;have h1:=h 1 _ rfl;have h2:=h 2 _ rfl;simp at h0 h1 h2;cases h0;cases h1;cases h2;rfl
theorem b7B (x y c:Nat)(hc:c≤1):a4f C0 235 [.prim (.int .u64 x),.prim (.int .u64 y),.prim (.int .u64 c)]
  (.tup [.prim (.int .u64 (((x+y+c)%18446744073709551616:Nat):Int)),.prim (.int .u64 (((x+y+c) / 18446744073709551616:Nat):Int))]):=fun ρ O w vs hn h=>by
 have:=c9q hn h
 subst this;refine ⟨.tuple #[.int .u64 (((x+y+c)%18446744073709551616:Nat):Int),.int .u64 (((x+y+c) / 18446744073709551616:Nat):Int)],?_,.tup rfl fun i d hd=>?_⟩
 ·show (callFunc 235 _).run Tryz.prog w=_
  rw [run_callFunc_extern Tryz.func235 (by kernel_rfl) (by kernel_rfl) (by kernel_rfl) (e:=add64Entry) (by kernel_rfl),run_add64 x y c (by omega) (by omega) (by omega) (by omega)];simp only [Result.andThen]
  congr 5<;>omega
 ·match i with
  | 0=>simp at hd;subst hd;exact .prim _
  | 1=>simp at hd;subst hd;exact .prim _
  | n+2=>simp at hd
theorem d2I {ρ:Lk}{O:Nat→Prop}{w:World}{a b:Value}{vs:Array Value}(hn:vs.size=2)(h:∀ (i:Nat) (x:D),[D.prim a,.prim b][i]? = some x→Rep ρ O w x (vs.getD i undef)):vs = #[a,b]:=by
 match vs,hn with
 | ⟨[u,v]⟩,_ =>
  have h0:=h 0 _ rfl;have h1:=h 1 _ rfl;simp at h0 h1;cases h0;cases h1;rfl
theorem b0A (s:ByteArray)(c:Int):a4f C0 299 [.prim (.string s),.prim (.int .u8 c)] (.prim (.int .i64 (firstIdx s c.toNat.toUInt8))):=fun ρ O w vs hn h=>by
 have:=d2I hn h
 subst this;refine ⟨_,?_,.prim _⟩;show (callFunc 299 _).run Tryz.prog w=_;rw [run_callFunc_indexByte Tryz.func299 (by kernel_rfl) (by kernel_rfl) (by kernel_rfl) (by kernel_rfl),run_indexByte_string];rfl
theorem b8B (x y b:Nat)(hb:b≤1):a4f C0 237 [.prim (.int .u64 x),.prim (.int .u64 y),.prim (.int .u64 b)]
  (.tup [.prim (.int .u64 (((x+18446744073709551616 - y - b)%18446744073709551616:Nat):Int)),.prim (.int .u64 ((if x<y+b then 1 else 0:Nat):Int))]):=fun ρ O w vs hn h=>by
 have:=c9q hn h
 subst this;refine ⟨.tuple #[.int .u64 (((x+18446744073709551616 - y - b)%18446744073709551616:Nat):Int),.int .u64 ((if x<y+b then 1 else 0:Nat):Int)],?_,.tup rfl fun i d hd=>?_⟩
 ·show (callFunc 237 _).run Tryz.prog w=_
  rw [run_callFunc_extern Tryz.func237 (by kernel_rfl) (by kernel_rfl) (by kernel_rfl) (e:=sub64Entry) (by kernel_rfl),run_sub64 x y b hb];rfl
 ·match i with
  | 0=>simp at hd;subst hd;exact .prim _
  | 1=>simp at hd;subst hd;exact .prim _
  | n+2=>simp at hd
theorem a7p {O:Nat→Prop}{w:World}{v:Value}{vs:Array Value}(hn:vs.size=1)(h:∀ (i:Nat) (x:D),[D.prim v][i]? = some x→Rep nol O w x (vs.getD i undef)):vs = #[v]:=by
 match vs,hn with
 | ⟨[u]⟩,_ =>
  have h0:=h 0 _ rfl;simp at h0;cases h0;rfl
theorem b3y (n:Int)(h0 : -9223372036854775808≤n)(h1:n≤9223372036854775807):a0b C0 221 [i64 n] (str ⟨(Lib.itoa n).toArray⟩):=by
 refine ⟨⟨_,_,Tryz.func221,rfl,by kernel_rfl⟩,fun Y w vs hG hnG hX hvs hr=>?_⟩
 have:=a7p hvs hr
 subst this;refine (Tryz.strconv_Itoa n h0 h1 w hG).mono ?_;rintro e w' ⟨rfl,k,os,rfl⟩;exact ⟨_,_,rfl,Lib.below_grow _ _ (Nat.le_refl _) _ _,rfl,.prim _⟩
theorem b2C (s:ByteArray)(n:Int)(hl:s.size≤18)(h:Lib.atoi s.data.toList=some n):a0b C0 194 [str s] (.tup [i64 n,.prim .nilIface]):=by
 refine ⟨⟨_,_,Tryz.func194,rfl,by kernel_rfl⟩,fun Y w vs hG hnG hX hvs hr=>?_⟩
 have:=a7p hvs hr
 subst this;refine (Tryz.strconv_Atoi s n hl h w).mono ?_;rintro e w' ⟨rfl,t,rfl⟩;exact ⟨_,_,rfl,Joins.below_bytesWorld _ _ _ _ (Nat.le_refl _),rfl,.tup rfl fun i d hd=>by
  match i with
  | 0=>simp at hd;subst hd;exact .prim _
  | 1=>simp at hd;subst hd;exact .prim _
  | n+2=>simp at hd⟩
def b5Q (f:Nat)(ds:List D):Option D:=match Nat.beq f 235 with
 | true=>match ds with
  | [.prim (.int .u64 (.ofNat a)),.prim (.int .u64 (.ofNat b)),.prim (.int .u64 (.ofNat c))]=>match Nat.ble c 1 with
   | true=>some (.tup [.prim (.int .u64 (((a+b+c)%18446744073709551616:Nat):Int)),.prim (.int .u64 (((a+b+c) / 18446744073709551616:Nat):Int))])
   | false=>none
  | _=>none
 | false=>match Nat.beq f 237 with
  | true=>match ds with
   | [.prim (.int .u64 (.ofNat a)),.prim (.int .u64 (.ofNat b)),.prim (.int .u64 (.ofNat c))]=>match Nat.ble c 1 with
    | true=>some (.tup [.prim (.int .u64 (((a+18446744073709551616 - b - c)%18446744073709551616:Nat):Int)),.prim (.int .u64 ((if a<b+c then 1 else 0:Nat):Int))])
    | false=>none
   | _=>none
  | false=>match Nat.beq f 299 with
   | true=>match ds with
    | [.prim (.string s),.prim (.int .u8 c)]=>some (.prim (.int .i64 (firstIdx s c.toNat.toUInt8)))
    | _=>none
   | false=>none
theorem a5q (f:Nat)(ds:List D)(d:D)(h:b5Q f ds=some d):a4f C0 f ds d:=by
 unfold b5Q at h;split at h
 ·rename_i hf
  obtain rfl:=Nat.eq_of_beq_eq_true hf;split at h<;>first|(cases h;done)|skip
  split at h<;>first|(cases h;done)|skip
  rename_i hc;cases h;exact b7B _ _ _ (Nat.le_of_ble_eq_true hc)
 ·split at h
  ·rename_i hf
   obtain rfl:=Nat.eq_of_beq_eq_true hf;split at h<;>first|(cases h;done)|skip
   split at h<;>first|(cases h;done)|skip
   rename_i hc;cases h;exact b8B _ _ _ (Nat.le_of_ble_eq_true hc)
  ·split at h
   ·rename_i hf
    obtain rfl:=Nat.eq_of_beq_eq_true hf;split at h<;>first|(cases h;done)|skip
    cases h;exact b0A _ _
   ·cases h
noncomputable def X1:EV:=⟨tbt.get,xbt.get,fbt.get,fun _=>false,fun _ _=>none,fun _ _=>none,b5Q⟩
theorem a3W:a9b C0 X1:=⟨tab,b2Y,ftab,fun _ _ _ h=>by simp [X1] at h,by kernel_rfl,fun _ _ _ h=>by simp [X1] at h,a5q⟩
theorem w1:WOk C0 X1:=a3W.w
theorem wI {z:Int}(h1 : -9223372036854775808≤z)(h2:z≤9223372036854775807):IntKind.i64.wrap z=z:=by
 have e1:(2:Int)^IntKind.i64.bits=18446744073709551616:=rfl;have e2:(2:Int)^(IntKind.i64.bits - 1)=9223372036854775808:=rfl;unfold IntKind.wrap;simp only [e1,e2];have e3:IntKind.i64.signed=true:=rfl;rw [e3];simp only [Bool.true_and,decide_eq_true_eq];split<;>omega
theorem wN {n:Nat}(h:n≤9223372036854775807):IntKind.i64.wrap (n:Int)=n:=wI (by omega) (by omega)
set_option maxRecDepth 20000
theorem b6u (n:Int):a0b C0 120 [i64 n] (smI n):=by
 refine a0c.walk w1 c3v rfl fun F=>?_
 refine fR 0 ?_;refine fR 100 ?_;refine rtI ?_;exact a0a rfl (IsPure.out (d:=smI n))
theorem a8C (z:Int):a0b C0 190 [smI z] (i64 (max (-1) (min 1 z))):=by
 refine a0c.walk w1 b8R rfl fun F=>?_
 refine fR 0 ?_;refine fR 100 ?_;refine rtI ?_;exact a0a rfl IsPure.out
theorem b9F (a b:Nat)(hb:0<b)(h1:a≤9223372036854775807)(h2:b≤9223372036854775807):a0b C0 196 [smI a,smI b] (.tup [smI (a / b:Nat),smI (a%b:Nat)]):=by
 refine a0c.walk w1 b3N rfl fun F=>?_
 refine fR 0 ?_;refine OkS.seq ?_;refine sZ 100 ?_
 repeat' (first|(refine And.intro (by exact sdI) ?_;refine dsI ?_)|((refine brI (fun hb=>?_) (fun hb=>?_))<;>(try simp only [Bool.not_eq_true',Bool.not_eq_false'] at hb)<;>(try simp only [hb])<;>(refine dsI ?_)))
 have e0:((a:Int) != -9223372036854775808)=true:=by first|(simp;done)|(simp;omega)
 rw [e0];refine ifI ?_;refine OkS.seq ?_;refine OkS.regD w1 200 [0,1,2,3,4,5,6,7,8,9,10] [11] (by kernel_rfl) ?_;refine nxI ?_;have q1:(a:Int).tdiv b=((a / b:Nat):Int):=rfl;have q2:(a:Int).tmod b=((a%b:Nat):Int):=rfl;have hq:a / b≤9223372036854775807:=Nat.le_trans (Nat.div_le_self a b) h1;simp (disch:=assumption) only [q1,q2,wN];refine OkS.seq ?_;refine fR 300 ?_;refine ifI ?_;have e1:decide (((a%b:Nat):Int)<0)=false:=by first|(simp;done)|(simp;omega)
 rw [e1];refine skI ?_;refine fR 500 ?_;refine rtI ?_;exact a0a rfl IsPure.out
theorem a4H (a b:Int):a0b C0 137 [smF a b] (boo (b==1)):=by
 refine a0c.walk w1 b7q rfl fun F=>?_
 refine fR 0 ?_;refine sZ 100 ?_
 repeat' (first|(refine And.intro (by exact sdI) ?_;refine dsI ?_)|((refine brI (fun hb=>?_) (fun hb=>?_))<;>(try simp only [Bool.not_eq_true',Bool.not_eq_false'] at hb)<;>(try simp only [hb])<;>(refine dsI ?_)))
 refine rtI ?_;exact a0a rfl IsPure.out
theorem a1x:∀ (k u:Nat),u<10^(k+1)→(Lib.decDigits u).length≤k+1
 | 0,u,h=>by
  unfold Lib.decDigits;rw [dif_pos (by simpa using h)];simp
 | k+1,u,h=>by
  unfold Lib.decDigits;split
  ·simp
  ·rw [List.length_append]
   have:=a1x k (u / 10) (by
    rw [Nat.pow_succ] at h;omega)
   simp only [List.length_cons,List.length_nil];omega
theorem a4p (a b:List UInt8):(⟨a.toArray⟩:ByteArray)++⟨b.toArray⟩=⟨(a++b).toArray⟩:=by
 apply ByteArray.ext;simp [ByteArray.data_append]
theorem a8m (l:List UInt8):(⟨l.toArray⟩:ByteArray).size=l.length:=by simp [ByteArray.size]
theorem c5r (a b:Nat)(ha:a≤9223372036854775807)(hb:b≤9223372036854775807):a0b C0 151 [i64 a,i64 b] (i64 (Nat.gcd a b:Nat)):=by
 refine a0c.walk w1 c7v rfl fun F=>?_
 refine fR 0 ?_;refine OkS.seq ?_;refine OkS.block ?_;refine OkS.loop (α:=Nat × Nat × Nat) (fun p=>⟨[(0,i64 p.1),(1,i64 p.2.1)],[],p.2.2⟩) (fun p=>p.2.1) (fun p=>Nat.gcd p.1 p.2.1=Nat.gcd a b∧p.1≤9223372036854775807∧p.2.1≤9223372036854775807) (a,b,_) ⟨rfl,ha,hb⟩ wkI ?_;rintro ⟨x,y,n⟩ F ⟨h1,h2,h3⟩;dsimp only at h1 h2 h3 ⊢;refine OkS.seq ?_;refine fR 100 ?_;refine ifI ?_
 (refine brI (fun hy=>?_) (fun hy=>?_))<;>(try simp only [Bool.not_eq_true',Bool.not_eq_false'] at hy)<;>(try simp only [hy])
 ·have hy':(y:Int)>0:=by simpa using hy
  refine skI ?_;refine OkS.block ?_;refine OkS.regD w1 200 [0,1,2,3,4] [5] (by kernel_rfl) ?_;refine nxI ?_
  have:(x:Int).tmod y=((x%y:Nat):Int):=rfl
  rw [this];refine ⟨(y,x%y,_),⟨?_,h3,?_⟩,?_,wkI⟩
  ·rw [← h1,Nat.gcd_comm x y,Nat.gcd_rec y x,Nat.gcd_comm]
  ·have:=Nat.mod_lt x (show y>0 by omega);dsimp only;omega
  ·exact Nat.mod_lt x (show y>0 by omega)
 ·have hy':y=0:=by simp at hy;omega
  subst hy';refine exI ?_;refine fR 300 ?_;refine rtI ?_;refine a0a ?_ IsPure.out;rw [← h1,Nat.gcd_zero_right]
def c4b (least:Nat)(l:List UInt8):List UInt8:=List.replicate (least - l.length) 48++l
def a2l (least m:Nat)(s:List UInt8):List UInt8:=c4b least (if m=0 then s else Lib.decDigits m++s)
theorem a7M (least m:Nat)(s:List UInt8)(h:0<m∨s.length<least):a2l least (m / 10) (UInt8.ofNat (48+m%10)::s)=a2l least m s:=by
 unfold a2l
 by_cases h0:m=0
 ·subst h0
  have hl:s.length<least:=h.resolve_left (by omega);rw [if_pos (by omega),if_pos rfl];unfold c4b;obtain ⟨k,hk⟩:∃ k,least - s.length=k+1:=⟨least - s.length - 1,by omega⟩
  rw [hk,show least - (UInt8.ofNat (48+0%10)::s).length=k from by simp;omega,List.replicate_succ'];simp
 ·rw [if_neg h0]
  by_cases h1:m<10
  ·rw [if_pos (by omega)]
   have:Lib.decDigits m=[UInt8.ofNat (48+m)]:=by unfold Lib.decDigits;rw [dif_pos h1]
   rw [this,show m%10=m from by omega];rfl
  ·rw [if_neg (by omega)]
   have:Lib.decDigits m=Lib.decDigits (m / 10)++[UInt8.ofNat (48+m%10)]:=by rw [Lib.decDigits];rw [dif_neg h1]
   rw [this,List.append_assoc];rfl
theorem c0a (k:Nat)(hk:k<10):(⟨#[48,49,50,51,52,53,54,55,56,57]⟩:ByteArray).extract k (k+1)=⟨([UInt8.ofNat (48+k)]:List UInt8).toArray⟩:=by
 match k,hk with
 | 0,_=>rfl
 | 1,_=>rfl
 | 2,_=>rfl
 | 3,_=>rfl
 | 4,_=>rfl
 | 5,_=>rfl
 | 6,_=>rfl
 | 7,_=>rfl
 | 8,_=>rfl
 | 9,_=>rfl
theorem a4E (a least:Nat)(ha:a+least≤9223372036854775807):a0b C0 152 [i64 a,i64 least] (str ⟨(a2l least a []).toArray⟩):=by
 refine a0c.walk w1 c7B rfl fun F=>?_
 refine fR 0 ?_;refine fR 100 ?_;refine OkS.seq ?_;refine OkS.block ?_;refine OkS.loop (α:=Nat × List UInt8 × Nat) (fun p=>⟨[(0,i64 p.1),(1,i64 least),(5,str ⟨p.2.1.toArray⟩)],[],p.2.2⟩) (fun p=>p.1+(least - p.2.1.length))
  (fun p=>a2l least p.1 p.2.1=a2l least a []∧p.1+p.2.1.length≤a+least) (a,[],_) ⟨rfl,by simp⟩ wkI ?_
 rintro ⟨m,s,n⟩ F ⟨h1,h2⟩;dsimp only at h1 h2 ⊢;have hsz:=a8m s;refine OkS.seq ?_;refine OkS.seqW ⟨[(0,i64 m),(1,i64 least),(5,str ⟨s.toArray⟩),(13,boo (decide ((m:Int)>0)||decide ((s.length:Int)<least)))],[],n+30⟩ (OkS.reg w1 200 (by kernel_rfl) ?_) ?_
 ·repeat' (first|(refine And.intro (by exact sdI) ?_;refine dsI ?_)|((refine brI (fun hb=>?_) (fun hb=>?_))<;>(try simp only [Bool.not_eq_true',Bool.not_eq_false'] at hb)<;>(try simp only [hb])<;>(refine dsI ?_)))
  all_goals exact wkI
 refine ifI ?_
 (refine brI (fun hc=>?_) (fun hc=>?_))<;>(try simp only [Bool.not_eq_true',Bool.not_eq_false'] at hc)<;>(try simp only [hc])
 ·have hc:0<m∨s.length<least:=by
   simp at hc;omega
  refine skI ?_;refine OkS.block ?_;refine OkS.seq ?_;have hm:(m:Int).tmod 10=((m%10:Nat):Int):=rfl;have e2:IntKind.i64.wrap (((m%10:Nat):Int)+1)=((m%10+1:Nat):Int):=wI (by omega) (by omega);have hd:=c0a (m%10) (by omega);have hs1:(⟨([UInt8.ofNat (48+m%10)]:List UInt8).toArray⟩:ByteArray).size=1:=rfl;have hlen:s.length+1≤9223372036854775807:=by omega
  have hs10:(⟨#[48,49,50,51,52,53,54,55,56,57]⟩:ByteArray).size=10:=rfl;refine OkS.reg w1 300 (by kernel_rfl) ?_;refine mwI (ff4 hm e2 kN hd) ?_;refine fI 400 ?_;have hm4:(m:Int).tdiv 10=((m / 10:Nat):Int):=rfl;have hm5:m / 10≤9223372036854775807:=by omega
  rw [hm4,wN hm5,a4p,List.cons_append,List.nil_append];refine ⟨(m / 10,UInt8.ofNat (48+m%10)::s,_),⟨(a7M least m s hc).trans h1,?_⟩,?_,wkI⟩
  ·simp only [List.length_cons];omega
  ·simp only [List.length_cons];omega
 ·have hc:m=0∧least≤s.length:=by
   simp at hc;omega
  obtain ⟨rfl,hl⟩:=hc;refine exI ?_;refine fR 500 ?_;refine rtI ?_;refine a0a ?_ IsPure.out;rw [← h1];unfold a2l c4b;rw [if_pos rfl,Nat.sub_eq_zero_of_le hl];rfl
theorem b8j (a:Nat):a2l 1 a []=Lib.decDigits a:=by
 unfold a2l c4b
 by_cases h:a=0
 ·subst h
  have:Lib.decDigits 0=[48]:=by unfold Lib.decDigits;rw [dif_pos (by decide)];rfl
  rw [if_pos rfl,this];rfl
 ·rw [if_neg h,List.append_nil]
  have:(Lib.decDigits a).length≠0:=by
   unfold Lib.decDigits;split<;>simp
  rw [show 1 - (Lib.decDigits a).length=0 from by omega];rfl
theorem a2E (b:Bool)(e:Int):a0b C0 107 [boo b,i64 e] (i64 (if b then e else 0)):=by
 refine a0c.walk w1 c2R rfl fun F=>?_
 refine fR 0 ?_;refine OkS.seq ?_;refine fR 100 ?_;cases b
 ·refine ifI ?_
  refine skI ?_;refine fR 300 ?_;refine rtI ?_;exact a0a rfl IsPure.out
 ·refine ifI ?_
  refine fR 200 ?_;refine rtI ?_;exact a0a rfl IsPure.out
def a8b (l w:Int):Bool:=decide (l<1)||decide (l>100000)||decide (w<1)||decide (w>100000)
theorem c0C (l w:Int):a0b C0 113 [i64 l,i64 w] (i64 (if a8b l w then 3 else 0)):=by
 refine a0c.walk w1 c2w rfl fun F=>?_
 refine fR 0 ?_;refine OkS.seq ?_;unfold a8b;obtain ⟨b1,e1⟩:∃ b,decide (l<1)=b:=⟨_,rfl⟩
 obtain ⟨b2,e2⟩:∃ b,decide (l>100000)=b:=⟨_,rfl⟩
 obtain ⟨b3,e3⟩:∃ b,decide (w<1)=b:=⟨_,rfl⟩
 obtain ⟨b4,e4⟩:∃ b,decide (w>100000)=b:=⟨_,rfl⟩
 rw [e1,e2,e3,e4];rcases b1 with _|_<;>rcases b2 with _|_<;>rcases b3 with _|_<;>rcases b4 with _|_
 all_goals
  refine OkS.reg w1 100 (by kernel_rfl) ?_
  repeat' (first|(refine And.intro (by exact sdI) ?_;(refine dsI ?_);(try simp only [a6U,b1z,e1,e2,e3,e4]))|((refine brI (fun hb=>?_) (fun hb=>?_))<;>(try simp only [Bool.not_eq_true',Bool.not_eq_false'] at hb)<;>(try simp only [hb])<;>(refine dsI ?_)))
  refine dI (a2E _ 3) ?_;refine rtI ?_;exact a0a rfl IsPure.out
theorem b7D (l w:Int):a0b C0 54 [i64 l,i64 w] (i64 (if a8b l w then 3 else 0)):=by
 refine a0c.walk w1 d2D rfl fun F=>?_
 refine fR 0 ?_;refine OkS.seq ?_;unfold a8b;obtain ⟨b1,e1⟩:∃ b,decide (l<1)=b:=⟨_,rfl⟩
 obtain ⟨b2,e2⟩:∃ b,decide (l>100000)=b:=⟨_,rfl⟩
 obtain ⟨b3,e3⟩:∃ b,decide (w<1)=b:=⟨_,rfl⟩
 obtain ⟨b4,e4⟩:∃ b,decide (w>100000)=b:=⟨_,rfl⟩
 rw [e1,e2,e3,e4];rcases b1 with _|_<;>rcases b2 with _|_<;>rcases b3 with _|_<;>rcases b4 with _|_
 all_goals
  refine sZ 100 ?_
  repeat' (first|(refine And.intro (by exact sdI) ?_;(refine dsI ?_);(try simp only [a6U,b1z,e1,e2,e3,e4]))|((refine brI (fun hb=>?_) (fun hb=>?_))<;>(try simp only [Bool.not_eq_true',Bool.not_eq_false'] at hb)<;>(try simp only [hb])<;>(refine dsI ?_)))
  refine ifI ?_
 ·refine skI ?_
  refine fR 300 ?_;refine rtI ?_;exact a0a rfl IsPure.out
 all_goals
  refine fR 200 ?_;refine rtI ?_;exact a0a rfl IsPure.out
def b0e (K g sz:Nat):List D→D
 | []=>a2k
 | _::l=>.osl K g sz 0 (l.length+1)
def a8T (K g T sz:Nat):List D→Hp
 | []=>[]
 | x::l=>[⟨K,g,T,sz,x::l⟩]
theorem a5B (K g sz:Nat):b0e K g sz []=a2k:=rfl
theorem a4v (K g sz:Nat)(x:D)(l:List D):b0e K g sz (x::l)=.osl K g sz 0 (l.length+1):=rfl
theorem a5C (K g T sz:Nat):a8T K g T sz []=[]:=rfl
theorem a4o (K g T sz:Nat)(x:D)(l:List D):a8T K g T sz (x::l)=[⟨K,g,T,sz,x::l⟩]:=rfl
theorem a4e (K g sz:Nat)(x y:D)(l:List D):b0e K g sz (x::l++[y])=.osl K g sz 0 (l.length+1+1):=by simp [b0e]
theorem b9l (K g T sz:Nat)(l:List D):Fz (a8T K g T sz l) [] (b0e K g sz l) (.sl false sz l):=by
 cases l with
 | nil=>exact .nil sz
 | cons x l =>
  refine .osl (e:=⟨K,g,T,sz,x::l⟩) (by simp [a8T,Hp.get]) rfl rfl rfl (by simp) (by simp) (fun j d d' h1 h2=>?_) fun j d d' q c c' h1 h2 h3 h4=>?_
  ·rw [Nat.zero_add] at h1;rw [h1] at h2;cases h2;rfl
  ·rw [Nat.zero_add] at h1;rw [h1] at h2;cases h2;rw [h3] at h4;cases h4;exact Fz.refl _
def spot (a b c d:Nat):D:=.agg [i64 (a / Nat.gcd a b:Nat),a2k,i64 (b / Nat.gcd a b:Nat),a2k,i64 (c / Nat.gcd c d:Nat),a2k,i64 (d / Nat.gcd c d:Nat),a2k]
instance  (a b c d:Nat):CellsPure (spot a b c d):=by unfold spot;exact inferInstance
instance  {α:Type}(f:α→List D)(l:List α)[h:∀ x,ElemsPure (f x)]:ElemsPure (l.flatMap f):=⟨fun e he=>by
 obtain ⟨x,_,hx⟩:=List.mem_flatMap.1 he;exact (h x).out e hx⟩
set_option maxHeartbeats 2000000
set_option allowUnsafeReducibility true in
attribute [local irreducible] a1X
inductive Kd where
 | line|zig|grid|quin
def Kd.most:Kd→Int
 | .line | .zig=>64
 | .grid=>8
 | .quin=>5
def a7v (b:Nat):Bool:=((decide (97≤b)&&decide (b≤122))||(decide (65≤b)&&decide (b≤90)))||(decide (48≤b)&&decide (b≤57))||b==45||b==95||b==46
def a7H (l:List UInt8):Bool:=l.all (fun b=>a7v b.toNat)&&(decide (1≤l.length)&&decide (l.length≤24))
theorem d4a (s:ByteArray)(p:Nat)(hp:p<s.size):s.data.toList[p]? = some (s.get! p):=by
 have hp':p<s.data.size:=hp;rw [Array.getElem?_toList,Array.getElem?_eq_getElem hp']
 congr 1
 show _=s.data[p]!;rw [getElem!_pos s.data p hp']
theorem b6Q (s:ByteArray)(p:Nat)(h:(s.get! p).toNat<128):Utf8.decode s p=((s.get! p).toNat,1):=by
 unfold Utf8.decode;exact if_pos h
theorem b9T (s:ByteArray)(p:Nat)(h:¬ (s.get! p).toNat<128):128≤(Utf8.decode s p).1:=by
 unfold Utf8.decode;dsimp only;simp only [Nat.add_zero];rw [if_neg h];have hv:128≤Utf8.runeError:=by decide
 repeat' split
 all_goals first|exact hv|(rename_i h1;simp only [ge_iff_le,Bool.and_eq_true,decide_eq_true_eq] at h1;dsimp only;omega)
theorem b1K (s:ByteArray):a0b C0 170 [str s] (boo (a7H s.data.toList)):=by
 refine a0c.walk w1 c3c rfl fun B=>?_
 have hsz:s.data.toList.length=s.size:=Array.length_toList;refine fR 0 ?_;refine OkS.seq ?_;refine OkS.seq ?_;refine OkS.regRange w1 100 [0] 1 rfl (by kernel_rfl) rfl ?_;refine nxI ?_;intro F hF;refine dsI ?_;refine OkS.block ?_;refine OkS.loopF (α:=Nat × Nat) (fun p=>⟨[(0,str s),(7,.optr 101 2 0 0 0)],[],p.2⟩) (fun p=>s.size - p.1) (fun p F=>a9B C0 B F 101 2 s p.1∧p.1≤s.size∧(s.data.toList.take p.1).all (fun b=>a7v b.toNat)=true) (0,3) ⟨hF,Nat.zero_le _,rfl⟩ wkI ?_;rintro ⟨p,n⟩ F ⟨hIt,hp,hall⟩;dsimp only at hIt hp hall ⊢;refine OkS.seq ?_;refine OkS.regNext w1 200 0 [1] rfl (by kernel_rfl) s p ?_;refine And.intro hIt (And.intro (fun hlt F hIt=>?_) (fun hge=>?_))
 ·refine nxI ?_
  generalize hc:(Utf8.decode s p).1=c;refine OkS.seq ?_;refine ifI ?_;refine skI ?_;refine OkS.block ?_;refine fR 300 ?_;refine OkS.seqW ⟨[(0,str s),(7,.optr 101 2 0 0 0),(4,.prim (.int .i32 c)),(5,boo ((decide ((c:Int)≥97)&&decide ((c:Int)≤122))||(decide ((c:Int)≥65)&&decide ((c:Int)≤90))))],[],n+30⟩ (OkS.reg w1 400 (by kernel_rfl) ?_) ?_
  ·repeat' (first|(refine And.intro (by exact sdI) ?_;refine dsI ?_)|((refine brI (fun hb=>?_) (fun hb=>?_))<;>(try simp only [Bool.not_eq_true',Bool.not_eq_false'] at hb)<;>(try simp only [hb])<;>(refine dsI ?_)))
   all_goals exact wkI
  generalize hL:((decide ((c:Int)≥97)&&decide ((c:Int)≤122))||(decide ((c:Int)≥65)&&decide ((c:Int)≤90)))=L;refine OkS.seqW ⟨[(0,str s),(7,.optr 101 2 0 0 0),(47,boo ((((!L && !(decide ((c:Int)≥48)&&decide ((c:Int)≤57)))&&((c:Int) != 45))&&((c:Int) != 95))&&((c:Int) != 46)))],[],n+60⟩ (OkS.reg w1 500 (by kernel_rfl) ?_) ?_
  ·repeat' (first|(refine And.intro (by exact sdI) ?_;refine dsI ?_)|((refine brI (fun hb=>?_) (fun hb=>?_))<;>(try simp only [Bool.not_eq_true',Bool.not_eq_false'] at hb)<;>(try simp only [hb])<;>(refine dsI ?_)))
   all_goals exact wkI
  have hbad:((((!L && !(decide ((c:Int)≥48)&&decide ((c:Int)≤57)))&&((c:Int) != 45))&&((c:Int) != 95))&&((c:Int) != 46)) = !(a7v c):=by
   subst hL;rw [Bool.eq_iff_iff];simp only [a7v,Bool.and_eq_true,Bool.not_eq_true',Bool.or_eq_false_iff,Bool.and_eq_false_iff,decide_eq_false_iff_not,bne_iff_ne,ne_eq,beq_eq_false_iff_ne];omega
  rw [hbad];refine ifI ?_
  (refine brI (fun hb=>?_) (fun hb=>?_))<;>(try simp only [Bool.not_eq_true',Bool.not_eq_false'] at hb)<;>(try simp only [hb])
  ·have hbf:a7v c=false:=by simpa using hb
   refine fR 600 ?_;refine rtI ?_;refine a0a ?_ IsPure.out;have hb8:a7v (s.get! p).toNat=false:=by
    by_cases hlow:(s.get! p).toNat<128
    ·rw [b6Q s p hlow] at hc
     rw [show (s.get! p).toNat=c from hc];exact hbf
    ·unfold a7v;simp;omega
   have:a7H s.data.toList=false:=by
    unfold a7H
    have:s.data.toList.all (fun b=>a7v b.toNat)=false:=by
     rw [List.all_eq_false];exact ⟨_,List.mem_of_getElem? (d4a s p hlt),by rw [hb8];simp⟩
    rw [this];rfl
   rw [this]
  ·have hbt:a7v c=true:=by simpa using hb
   have hclt:c<128:=by
    unfold a7v at hbt;simp only [Bool.or_eq_true,Bool.and_eq_true,decide_eq_true_eq,beq_iff_eq] at hbt;omega
   have hlow:(s.get! p).toNat<128:=by
    apply Classical.byContradiction;intro h
    have:=b9T s p h
    omega
   rw [b6Q s p hlow] at hc hIt;refine skI ?_;refine ⟨(p+1,n+60),⟨hIt,hlt,?_⟩,by dsimp only;omega,wkI⟩;rw [List.take_add_one,d4a s p hlt,List.all_append,hall];simp;rw [show (s.get! p).toNat=c from hc];exact hbt
 ·have hpe:p=s.size:=by omega
  refine nxI ?_;refine OkS.seq ?_;refine ifI ?_;refine exI ?_;refine OkS.seqW ⟨[(2,boo (decide (1≤(s.size:Int))&&decide ((s.size:Int)≤24)))],[],n+60⟩ (OkS.reg w1 700 (by kernel_rfl) ?_) ?_
  ·repeat' (first|(refine And.intro (by exact sdI) ?_;refine dsI ?_)|((refine brI (fun hb=>?_) (fun hb=>?_))<;>(try simp only [Bool.not_eq_true',Bool.not_eq_false'] at hb)<;>(try simp only [hb])<;>(refine dsI ?_)))
   all_goals exact wkI
  refine rtI ?_;refine a0a ?_ IsPure.out;have hall':s.data.toList.all (fun b=>a7v b.toNat)=true:=by rw [← hall,hpe,← hsz,List.take_length]
  unfold a7H;rw [hall',Bool.true_and,hsz];have e:(decide (1≤(s.size:Int))&&decide ((s.size:Int)≤24))=(decide (1≤s.size)&&decide (s.size≤24)):=by
   rw [Bool.eq_iff_iff];simp only [Bool.and_eq_true,decide_eq_true_eq];omega
  rw [← e]
def Sm (z:Int):Prop:=-9223372036854775808<z∧z<9223372036854775808
theorem wS {z:Int}(h:Sm z):IntKind.i64.wrap z=z:=wI (by have:=h.1;omega) (by have:=h.2;omega)
theorem c9K {z:Int}(h:Sm z):(z != -9223372036854775808)=true:=by
 have:=h.1
 simp only [bne_iff_ne,ne_eq];omega
theorem wU {z:Int}(h1:0≤z)(h2:z<18446744073709551616):IntKind.u64.wrap z=z:=by
 have e1:(2:Int)^IntKind.u64.bits=18446744073709551616:=rfl;unfold IntKind.wrap;simp only [e1];have e3:IntKind.u64.signed=false:=rfl;rw [e3];simp only [Bool.false_and,Bool.false_eq_true,if_false];omega
theorem b3A (z:Int)(h:Sm z):a0b C0 204 [i64 z] (u64 (z.natAbs:Nat)):=by
 refine a0c.walk w1 c2s rfl fun F=>?_
 obtain ⟨h1,h2⟩:=h;refine fR 0 ?_;refine OkS.seq ?_;refine fR 100 ?_;refine ifI ?_
 (refine brI (fun h4=>?_) (fun h4=>?_))<;>(try simp only [Bool.not_eq_true',Bool.not_eq_false'] at h4)<;>(try simp only [h4])
 ·have hz:z<0:=by simpa using h4
  have e1:IntKind.i64.wrap (0 - z)=(z.natAbs:Nat):=by rw [wI (by omega) (by omega)];omega
  have e2:IntKind.u64.wrap ((z.natAbs:Nat):Int)=(z.natAbs:Nat):=wU (by omega) (by omega);refine sZ 200 ?_;refine mwI (ff2 e1 e2) ?_;refine rtI ?_;exact a0a rfl IsPure.out
 ·have hz:¬ z<0:=by simpa using h4
  have e2:IntKind.u64.wrap z=(z.natAbs:Nat):=by rw [wU (by omega) (by omega)];omega
  refine skI ?_;refine sZ 300 ?_;refine mwI e2 ?_;refine rtI ?_;exact a0a rfl IsPure.out
theorem b1N (z:Int)(h:Sm z):a0b C0 136 [smI z] (smI (-z)):=by
 refine a0c.walk w1 b8d rfl fun F=>?_
 refine fR 0 ?_;refine OkS.seq ?_;refine sZ 100 ?_
 repeat' (first|(refine And.intro (by exact sdI) ?_;refine dsI ?_)|((refine brI (fun hb=>?_) (fun hb=>?_))<;>(try simp only [Bool.not_eq_true',Bool.not_eq_false'] at hb)<;>(try simp only [hb])<;>(refine dsI ?_)))
 rw [c9K h];refine ifI ?_;have e1:IntKind.i64.wrap (0 - z) = -z:=by
  have:=h.1;have:=h.2
  rw [wI (by omega) (by omega)];omega
 refine sZ 200 ?_;refine mwI e1 ?_;refine rtI ?_;exact a0a rfl IsPure.out
theorem b6t (a b:Int)(hc:Sm (a+b)):a0b C0 138 [smI a,smI b] (smI (a+b)):=by
 refine a0c.walk w1 b4Q rfl fun F=>?_
 refine fR 0 ?_;refine OkS.seq ?_;refine sZ 100 ?_
 repeat' (first|(refine And.intro (by exact sdI) ?_;refine dsI ?_)|((refine brI (fun hb=>?_) (fun hb=>?_))<;>(try simp only [Bool.not_eq_true',Bool.not_eq_false'] at hb)<;>(try simp only [hb])<;>(refine dsI ?_)))
 refine ifI ?_;have e1:=wS hc;have e2:(decide (a+b>a)==decide (b>0))=true:=by
  rw [beq_iff_eq,decide_eq_decide];omega
 refine sZ 200 ?_;refine mwI e1 ?_;refine fR 300 ?_;rw [e2];refine ifI ?_;refine fR 400 ?_;refine rtI ?_;exact a0a rfl IsPure.out
theorem a4Q (x y:Nat)(hx:x<18446744073709551616)(hy:y<18446744073709551616):a0b C0 203 [u64 x,u64 y] (.tup [u64 (x*y / 18446744073709551616:Nat),u64 (x*y%18446744073709551616:Nat)]):=by
 refine ⟨⟨_,_,Tryz.func203,rfl,by kernel_rfl⟩,fun Y w vs hG hnG hX hvs hr=>?_⟩;obtain ⟨v1,v2,rfl⟩:∃ a b,vs = #[a,b]:=by
  match vs,hvs with
  | ⟨[a,b]⟩,_=>exact ⟨a,b,rfl⟩
 have h0:=hr 0 _ rfl;have h1:=hr 1 _ rfl;simp at h0 h1;cases h0;cases h1;refine (Tryz.bits_Mul64 x y hx hy w).mono ?_;rintro e w' ⟨rfl,rfl⟩;exact ⟨_,_,rfl,.refl _ _,rfl,.tup rfl fun i d hd=>by
  match i with
  | 0=>simp at hd;subst hd;exact .prim _
  | 1=>simp at hd;subst hd;exact .prim _
  | n+2=>simp at hd⟩
theorem a5b (a b:Int)(hc:Sm (a*b))(ha:Sm a)(hb:Sm b):a0b C0 140 [smI a,smI b] (smI (a*b)):=by
 refine a0c.walk w1 b4l rfl fun F=>?_
 have hab:a.natAbs*b.natAbs=(a*b).natAbs:=(Int.natAbs_mul a b).symm;have h1:a.natAbs*b.natAbs / 18446744073709551616=0:=by rw [hab];have:=hc.1;have:=hc.2;omega
 have h2:a.natAbs*b.natAbs%18446744073709551616=(a*b).natAbs:=by rw [hab];have:=hc.1;have:=hc.2;omega
 have c0:=a4Q a.natAbs b.natAbs (by have:=ha.1;have:=ha.2;omega) (by have:=hb.1;have:=hb.2;omega);rw [h1,h2] at c0;refine fR 0 ?_;refine OkS.seq ?_;refine sZ 100 ?_
 repeat' (first|(refine And.intro (by exact sdI) ?_;refine dsI ?_)|((refine brI (fun hb=>?_) (fun hb=>?_))<;>(try simp only [Bool.not_eq_true',Bool.not_eq_false'] at hb)<;>(try simp only [hb])<;>(refine dsI ?_)))
 refine ifI ?_;refine OkS.seq ?_;refine OkS.regD w1 200 [0,1,2,3,4,5,6,7,8,9,10] [11] (by kernel_rfl) ?_;refine nxI ?_;refine a0r.same _ (b3A a ha) inferInstance ?_;refine nxI ?_;refine a0r.same _ (b3A b hb) inferInstance ?_;refine nxI ?_;refine a0r.same _ (c0) inferInstance ?_;refine nxI ?_;refine sZ 300 ?_
 repeat' (first|(refine And.intro (by exact sdI) ?_;refine dsI ?_)|((refine brI (fun hb=>?_) (fun hb=>?_))<;>(try simp only [Bool.not_eq_true',Bool.not_eq_false'] at hb)<;>(try simp only [hb])<;>(refine dsI ?_)))
 have e3:decide ((((a*b).natAbs:Nat):Int)≤9223372036854775807)=true:=decide_eq_true (by have:=hc.1;have:=hc.2;omega);rw [e3];refine ifI ?_;refine OkS.seq ?_;refine fR 400 ?_;refine ifI ?_;have e4:IntKind.i64.wrap (((a*b).natAbs:Nat):Int)=((a*b).natAbs:Nat):=wN (by have:=hc.1;have:=hc.2;omega)
 (refine brI (fun h41=>?_) (fun h41=>?_))<;>(try simp only [Bool.not_eq_true',Bool.not_eq_false'] at h41)<;>(try simp only [h41])
 ·have e5:IntKind.i64.wrap (0 - (((a*b).natAbs:Nat):Int)) = -((a*b).natAbs:Nat):=by
   rw [wI (by have:=hc.1;have:=hc.2;omega) (by have:=hc.1;have:=hc.2;omega)];omega
  have e6 : -(((a*b).natAbs:Nat):Int)=a*b:=by
   have hs:(a<0)≠(b<0):=by simpa using h41
   have:a*b≤0:=by
    by_cases h1:a<0
    ·have h2:¬ b<0:=fun h2=>hs (by simp [h1,h2])
     exact Int.mul_nonpos_of_nonpos_of_nonneg (by omega) (by omega)
    ·have h2:b<0:=Classical.byContradiction fun h2=>hs (by simp [h1,h2])
     exact Int.mul_nonpos_of_nonneg_of_nonpos (by omega) (by omega)
   omega
  refine sZ 500 ?_;refine mwI (ff3 e4 e5 e6) ?_;refine rtI ?_;exact a0a rfl IsPure.out
 ·have e6:(((a*b).natAbs:Nat):Int)=a*b:=by
   have hs:¬ ((a<0)≠(b<0)):=by simpa using h41
   have:0≤a*b:=by
    by_cases h1:a<0
    ·have h2:b<0:=Classical.byContradiction fun h2=>hs (by simp [h1,h2])
     exact Int.mul_nonneg_of_nonpos_of_nonpos (by omega) (by omega)
    ·have h2:¬ b<0:=fun h2=>hs (by simp [h1,h2])
     exact Int.mul_nonneg (by omega) (by omega)
   omega
  rw [e6] at e4;refine skI ?_;refine sZ 600 ?_;refine mwI (ff2 e6 e4) ?_;refine rtI ?_;exact a0a rfl IsPure.out
theorem c5Q {a b:Int}(hb:0<b):(a.tmod b<0→a.tdiv b - 1=a / b∧a.tmod b+b=a%b)∧(¬ a.tmod b<0→a.tdiv b=a / b∧a.tmod b=a%b):=by
 have h1:=Int.mul_tdiv_add_tmod a b;have h2:=Int.tmod_lt_of_pos a hb;have h3:=Int.lt_tmod_of_pos a hb;constructor
 ·intro h
  have:=(Int.ediv_emod_unique (a:=a) (r:=a.tmod b+b) (q:=a.tdiv b - 1) hb).2 ⟨by rw [Int.mul_sub,Int.mul_one];omega,by omega,by omega⟩
  exact ⟨this.1.symm,this.2.symm⟩
 ·intro h
  have:=(Int.ediv_emod_unique (a:=a) (r:=a.tmod b) (q:=a.tdiv b) hb).2 ⟨by omega,by omega,by omega⟩
  exact ⟨this.1.symm,this.2.symm⟩
theorem b7O {a b:Int}(ha:Sm a):Sm (a.tdiv b):=by
 have h:(a.tdiv b).natAbs≤a.natAbs:=by rw [Int.natAbs_tdiv];exact Nat.div_le_self _ _
 have:=ha.1;have:=ha.2
 exact ⟨by omega,by omega⟩
theorem b1H (a b:Int)(hb0:0<b)(ha:Sm a)(hb:Sm b):a0b C0 196 [smI a,smI b] (.tup [smI (a / b),smI (a%b)]):=by
 refine a0c.walk w1 b3N rfl fun F=>?_
 obtain ⟨t1,t2⟩:=c5Q (a:=a) hb0;have h2:=Int.tmod_lt_of_pos a hb0;have h3:=Int.lt_tmod_of_pos a hb0;have q1:=wS (b7O (b:=b) ha);have q2:IntKind.i64.wrap (a.tmod b)=a.tmod b:=wI (by have:=hb.2;omega) (by have:=hb.2;omega);have q0:=b7O (b:=b) ha;refine fR 0 ?_;refine OkS.seq ?_;refine sZ 100 ?_
 repeat' (first|(refine And.intro (by exact sdI) ?_;refine dsI ?_)|((refine brI (fun hb=>?_) (fun hb=>?_))<;>(try simp only [Bool.not_eq_true',Bool.not_eq_false'] at hb)<;>(try simp only [hb])<;>(refine dsI ?_)))
 rw [c9K ha];refine ifI ?_;refine OkS.seq ?_;refine OkS.regD w1 200 [0,1,2,3,4,5,6,7,8,9,10] [11] (by kernel_rfl) ?_;refine And.intro (by (refine dsI ?_);(try simp only [q1,q2]);all_goals exact sdI) ?_;refine dsI ?_
 try simp only [q1,q2]
 refine OkS.seq ?_;refine fR 300 ?_;refine ifI ?_
 (refine brI (fun h40=>?_) (fun h40=>?_))<;>(try simp only [Bool.not_eq_true',Bool.not_eq_false'] at h40)<;>(try simp only [h40])
 ·obtain ⟨e1,e2⟩:=t1 (by simpa using h40)
  have q3:IntKind.i64.wrap (a.tdiv b - 1)=a / b:=by rw [wI (by have:=q0.1;omega) (by have:=q0.2;omega)];exact e1
  have q4:IntKind.i64.wrap (a.tmod b+b)=a%b:=by rw [wI (by have:=hb.2;omega) (by have:=hb.2;omega)];exact e2
  refine OkS.regD w1 400 [0,1,2,3,4,5,6] [7] (by kernel_rfl) ?_;refine And.intro (by (refine dsI ?_);(try simp only [q3,q4]);all_goals exact sdI) ?_;refine dsI ?_
  try simp only [q3,q4]
  refine fR 500 ?_;refine rtI ?_;exact a0a rfl IsPure.out
 ·obtain ⟨e1,e2⟩:=t2 (by simpa using h40)
  refine skI ?_;refine OkS.seq ?_;rw [e1,e2];refine fI 500 ?_;refine rtI ?_;exact a0a rfl IsPure.out
theorem b3E (a b:Int)(hb0:0<b)(ha:Sm a)(hb:Sm b):a0b C0 202 [smI a,smI b] (smI (a / b)):=by
 refine a0c.walk w1 b7I rfl fun F=>?_
 refine fR 0 ?_;refine OkS.seq ?_;refine fR 100 ?_;refine dI (a8C b) ?_;have e1:decide (max (-1) (min 1 b)<0)=false:=decide_eq_false (by omega);rw [e1];refine ifI ?_;refine skI ?_;refine fR 300 ?_;refine dI (b1H a b hb0 ha hb) ?_;refine fR 400 ?_;refine rtI ?_;exact a0a rfl IsPure.out
theorem c3A (z:Int)(h:Sm z):a0b C0 213 [smI z] (smI (z.natAbs:Nat)):=by
 refine a0c.walk w1 b7Z rfl fun F=>?_
 refine fR 0 ?_;refine OkS.seq ?_;refine fR 100 ?_;refine ifI ?_
 (refine brI (fun h5=>?_) (fun h5=>?_))<;>(try simp only [Bool.not_eq_true',Bool.not_eq_false'] at h5)<;>(try simp only [h5])
 ·have hz:z<0:=by simpa using h5
  have e : -z=(z.natAbs:Nat):=by omega
  refine fR 200 ?_;refine dI (b1N z h) ?_;rw [e];refine rtI ?_;exact a0a rfl IsPure.out
 ·have hz:¬ z<0:=by simpa using h5
  have e:z=(z.natAbs:Nat):=by omega
  refine skI ?_;refine fR 300 ?_;refine rtI ?_;exact a0a (by rw [← e]) IsPure.out
theorem c1N (a b:Int)(ha:Sm a)(hb:Sm b):a0b C0 166 [smI a,smI b] (smI (Nat.gcd a.natAbs b.natAbs:Nat)):=by
 refine a0c.walk w1 b9C rfl fun F=>?_
 have h1:a.natAbs≤9223372036854775807:=by have:=ha.1;have:=ha.2;omega
 have h2:b.natAbs≤9223372036854775807:=by have:=hb.1;have:=hb.2;omega
 refine fR 0 ?_;refine OkS.seq ?_;refine OkS.regD w1 100 [0,1,2] [3,4,5] (by kernel_rfl) ?_;refine nxI ?_;refine a0r.same _ (c3A a ha) inferInstance ?_;refine nxI ?_;refine dI (c3A b hb) ?_;refine OkS.seq ?_;refine OkS.block ?_;refine OkS.loop (α:=Nat × Nat × Nat) (fun p=>⟨[(2,.optr 0 0 2 0 0),(3,.optr 1 1 2 0 0),(4,.optr 2 2 2 0 0)],[⟨2,2,111,2,[smI 0]⟩,⟨1,1,111,2,[smI p.2.1]⟩,⟨0,0,111,2,[smI p.1]⟩],p.2.2⟩) (fun p=>p.2.1)
  (fun p=>Nat.gcd p.1 p.2.1=Nat.gcd a.natAbs b.natAbs∧p.1≤9223372036854775807∧p.2.1≤9223372036854775807) (a.natAbs,b.natAbs,_) ⟨rfl,h1,h2⟩ wkI ?_
 rintro ⟨x,y,n⟩ F ⟨g1,g2,g3⟩;dsimp only at g1 g2 g3 ⊢;refine OkS.seq ?_;refine fR 200 ?_;refine dI (a8C y) ?_;refine ifI ?_
 (refine brI (fun h13=>?_) (fun h13=>?_))<;>(try simp only [Bool.not_eq_true',Bool.not_eq_false'] at h13)<;>(try simp only [h13])
 ·have hy:0<y:=by
   simp at h13;omega
  refine skI ?_;refine OkS.block ?_;refine fR 300 ?_;refine dI (b9F x y hy g2 g3) ?_;refine OkS.regW w1 400 [0,1,2] [3] 2 [0] (0) (by kernel_rfl) (by kernel_rfl) ?_;refine nxI ?_;refine nxI ?_;have hm:x%y<y:=Nat.mod_lt x hy;refine ⟨(y,x%y,_),⟨?_,g3,by dsimp only;omega⟩,hm,wkI⟩;rw [← g1,Nat.gcd_comm x y,Nat.gcd_rec y x,Nat.gcd_comm]
 ·have hy:y=0:=by
   apply Classical.byContradiction;intro h0;simp at h13;omega
  subst hy;refine exI ?_;refine fR 500 ?_;refine rtI ?_;refine a0a ?_ IsPure.out;rw [← g1,Nat.gcd_zero_right]
theorem b0s (a b:Int)(hb0:0<b)(ha:Sm a)(hb:Sm b):a0b C0 139 [smI a,smI b] (smF (a / (Nat.gcd a.natAbs b.natAbs:Nat)) (b / (Nat.gcd a.natAbs b.natAbs:Nat))):=by
 refine a0c.walk w1 b4E rfl fun F=>?_
 have hg:0<Nat.gcd a.natAbs b.natAbs:=Nat.gcd_pos_of_pos_right _ (by omega);have hgl:Nat.gcd a.natAbs b.natAbs≤b.natAbs:=Nat.gcd_le_right _ (by omega);have hgs:Sm (Nat.gcd a.natAbs b.natAbs:Nat):=⟨by omega,by have:=hb.2;omega⟩
 refine fR 0 ?_;refine OkS.seq ?_;refine fR 100 ?_;refine dI (a8C b) ?_;have e1:decide (max (-1) (min 1 b)<0)=false:=decide_eq_false (by omega);rw [e1];refine ifI ?_;refine skI ?_;refine OkS.seq ?_;refine sZ 300 ?_
 repeat' (first|(refine And.intro (by exact sdI) ?_;refine dsI ?_)|((refine brI (fun hb=>?_) (fun hb=>?_))<;>(try simp only [Bool.not_eq_true',Bool.not_eq_false'] at hb)<;>(try simp only [hb])<;>(refine dsI ?_)))
 refine ifI ?_
 (refine brI (fun hb1=>?_) (fun hb1=>?_))<;>(try simp only [Bool.not_eq_true',Bool.not_eq_false'] at hb1)<;>(try simp only [hb1])
 ·have hb1:b=1:=by simpa using hb1
  subst hb1;refine fR 400 ?_;refine rtI ?_;refine a0a ?_ IsPure.out
  have:Nat.gcd a.natAbs (Int.natAbs 1)=1:=Nat.gcd_one_right _
  rw [this];simp
 ·refine skI ?_
  refine fR 500 ?_;refine dI (c1N a b ha hb) ?_;refine OkS.seq ?_;refine OkS.regD w1 600 [0,1,2,3,4] [5,6,7] (by kernel_rfl) ?_;refine nxI ?_;refine a0r.same _ (b3E a (Nat.gcd a.natAbs b.natAbs:Nat) (by omega) ha hgs) inferInstance ?_;refine nxI ?_;refine dI (b3E b (Nat.gcd a.natAbs b.natAbs:Nat) (by omega) hb hgs) ?_;refine rtI ?_;exact a0a rfl IsPure.out
structure Q2 where
 n:Int
 d:Int
abbrev Q2.D (q:Q2):D:=smF q.n q.d
def mkQ (a b:Int):Q2:=⟨a / (Nat.gcd a.natAbs b.natAbs:Nat),b / (Nat.gcd a.natAbs b.natAbs:Nat)⟩
theorem b3R (z:Int):a0b C0 73 [smI z] (smF z 1):=by
 refine a0c.walk w1 c4U rfl fun F=>?_
 refine fR 0 ?_;refine OkS.seq ?_;refine OkS.regD w1 100 [0,1] [2,3] (by kernel_rfl) ?_;refine nxI ?_;refine a0r.same _ (b6u 1) inferInstance ?_;refine nxI ?_;refine rtI ?_;exact a0a rfl IsPure.out
theorem d3n (z:Int):a0b C0 57 [i64 z] (smF z 1):=by
 refine a0c.walk w1 c7M rfl fun F=>?_
 refine fR 0 ?_;refine fR 100 ?_;refine dI (b6u z) ?_;refine dI (b3R z) ?_;refine rtI ?_;exact a0a rfl IsPure.out
def c2H (p q:Q2):Q2:=if p.d=1∧q.d=1 then ⟨p.n+q.n,1⟩ else mkQ (p.n*q.d+q.n*p.d) (p.d*q.d)
theorem b6h (p q:Q2)(hp:0<p.d)(hq:0<q.d)(h1:Sm p.n)(h2:Sm q.n)(h3:Sm p.d)(h4:Sm q.d)(h5:Sm (p.n*q.d))(h6:Sm (q.n*p.d))(h7:Sm (p.n*q.d+q.n*p.d))(h8:Sm (p.d*q.d)) :
  a0b C0 72 [p.D,q.D] (c2H p q).D:=by
 refine a0c.walk w1 c5y rfl fun F=>?_
 obtain ⟨a,b⟩:=p;obtain ⟨c,d⟩:=q;dsimp only at *;unfold c2H Q2.D;dsimp only;have hbd:0<b*d:=Int.mul_pos hp hq
 by_cases e1:b=1
 ·have fb:(b==1)=true:=by rw [e1];rfl
  have c1:=a4H a b;rw [fb] at c1
  by_cases e2:d=1
  ·have fd:(d==1)=true:=by rw [e2];rfl
   have c2:=a4H c d;rw [fd] at c2;rw [if_pos ⟨e1,e2⟩];have h7':Sm (a+c):=by rw [e1,e2] at h7;simpa using h7
   refine fR 0 ?_;refine OkS.seq ?_;refine fR 100 ?_;refine dI c1 ?_;dsimp only [a6U];refine nxI ?_;dsimp only [a6U];refine nxI ?_;refine dI c2 ?_;refine ifI ?_;refine fR 200 ?_;refine dI (b6t a c h7') ?_;refine dI (b3R (a+c)) ?_;refine rtI ?_;exact a0a rfl IsPure.out
  ·have fd:(d==1)=false:=by simpa using e2
   have c2:=a4H c d;rw [fd] at c2;rw [if_neg fun h=>e2 h.2];refine fR 0 ?_;refine OkS.seq ?_;refine fR 100 ?_;refine dI c1 ?_;dsimp only [a6U];refine nxI ?_;dsimp only [a6U];refine nxI ?_;refine dI c2 ?_;refine ifI ?_;refine skI ?_;refine OkS.seq ?_;refine OkS.regD w1 300 [0,1,2,3,4,5,6,7,8,9,10,11,12,13,14] [15,16,17] (by kernel_rfl) ?_;refine nxI ?_;refine a0r.same _ (a5b a d h5 h1 h4) inferInstance ?_;refine nxI ?_;refine a0r.same _ (a5b c b h6 h2 h3) inferInstance ?_;refine nxI ?_;refine a0r.same _ (b6t (a*d) (c*b) h7) inferInstance ?_;refine nxI ?_;refine dI (a5b b d h8 h3 h4) ?_;refine dI (b0s (a*d+c*b) (b*d) hbd h7 h8) ?_;refine rtI ?_;exact a0a rfl IsPure.out
 ·have fb:(b==1)=false:=by simpa using e1
  have c1:=a4H a b;rw [fb] at c1;rw [if_neg fun h=>e1 h.1];refine fR 0 ?_;refine OkS.seq ?_;refine fR 100 ?_;refine dI c1 ?_;dsimp only [b1z];refine nxI ?_;dsimp only [b1z];refine nxI ?_;refine ifI ?_;refine skI ?_;refine OkS.seq ?_;refine OkS.regD w1 300 [0,1,2,3,4,5,6,7,8,9,10,11,12,13,14] [15,16,17] (by kernel_rfl) ?_;refine nxI ?_;refine a0r.same _ (a5b a d h5 h1 h4) inferInstance ?_;refine nxI ?_;refine a0r.same _ (a5b c b h6 h2 h3) inferInstance ?_;refine nxI ?_;refine a0r.same _ (b6t (a*d) (c*b) h7) inferInstance ?_;refine nxI ?_;refine dI (a5b b d h8 h3 h4) ?_;refine dI (b0s (a*d+c*b) (b*d) hbd h7 h8) ?_;refine rtI ?_;exact a0a rfl IsPure.out
theorem b5X (p q:Q2)(hp:0<p.d)(hq:0<q.d)(h1:Sm p.n)(h2:Sm q.n)(h3:Sm p.d)(h4:Sm q.d)(h5:Sm (p.n*q.n))(h8:Sm (p.d*q.d)) :
  a0b C0 74 [p.D,q.D] (mkQ (p.n*q.n) (p.d*q.d)).D:=by
 refine a0c.walk w1 c5V rfl fun F=>?_
 obtain ⟨a,b⟩:=p;obtain ⟨c,d⟩:=q;unfold Q2.D;dsimp only at *;have hbd:0<b*d:=Int.mul_pos hp hq;refine fR 0 ?_;refine OkS.seq ?_;refine OkS.regD w1 100 [0,1,2,3,4,5,6,7,8] [9,10,11] (by kernel_rfl) ?_;refine nxI ?_;refine a0r.same _ (a5b a c h5 h1 h2) inferInstance ?_;refine nxI ?_;refine dI (a5b b d h8 h3 h4) ?_;refine dI (b0s (a*c) (b*d) hbd h5 h8) ?_;refine rtI ?_;exact a0a rfl IsPure.out
def c7N (p:Q2):Q2:=⟨-p.n,p.d⟩
theorem c4L (p:Q2)(h:Sm p.n):a0b C0 134 [p.D] (c7N p).D:=by
 refine a0c.walk w1 b7p rfl fun F=>?_
 obtain ⟨a,b⟩:=p;unfold c7N Q2.D;dsimp only at *;refine fR 0 ?_;refine OkS.seq ?_;refine OkS.regD w1 100 [0,1,2,3,4] [5,6] (by kernel_rfl) ?_;refine nxI ?_;refine a0r.same _ (b1N a h) inferInstance ?_;refine nxI ?_;refine rtI ?_;exact a0a rfl IsPure.out
theorem b7b {z:Int}(h:Sm z):Sm (-z):=⟨by have:=h.2;omega,by have:=h.1;omega⟩
theorem c4d (p q:Q2)(hp:0<p.d)(hq:0<q.d)(h1:Sm p.n)(h2:Sm q.n)(h3:Sm p.d)(h4:Sm q.d)(h5:Sm (p.n*q.d))(h6:Sm (-q.n*p.d))(h7:Sm (p.n*q.d + -q.n*p.d))(h8:Sm (p.d*q.d)) :
  a0b C0 124 [p.D,q.D] (c2H p (c7N q)).D:=by
 refine a0c.walk w1 b6z rfl fun F=>?_
 have c1:=c4L q h2;have c2:=b6h p (c7N q) hp hq h1 (b7b h2) h3 h4 h5 h6 h7 h8;obtain ⟨a,b⟩:=p;obtain ⟨c,d⟩:=q;unfold Q2.D at *;dsimp only at *;refine fR 0 ?_;refine OkS.seq ?_;refine OkS.regD w1 100 [0,1,2] [3,4] (by kernel_rfl) ?_;refine nxI ?_;refine a0r.same _ (c1) inferInstance ?_;refine nxI ?_;refine dI c2 ?_;refine rtI ?_;exact a0a rfl IsPure.out
def b4u (p:Q2):Q2:=if p.n<0 then mkQ (-p.d) (-p.n) else mkQ p.d p.n
theorem c1t (a b:Int)(hb0:b≠0)(ha:Sm a)(hb:Sm b):a0b C0 139 [smI a,smI b] (if b<0 then mkQ (-a) (-b) else mkQ a b).D:=by
 by_cases hn:b<0
 ·rw [if_pos hn]
  refine a0c.walk w1 b4E rfl fun F=>?_
  unfold mkQ Q2.D;dsimp only;have ha':=b7b ha;have hb':=b7b hb;have q1:=b1N a ha;have q2:=b1N b hb;have hb1:0 < -b:=by omega
  have e1:decide (max (-1) (min 1 b)<0)=true:=decide_eq_true (by omega);have q3:=a8C b;generalize -a=x at *;generalize -b=y at *;have hg:0<Nat.gcd x.natAbs y.natAbs:=Nat.gcd_pos_of_pos_right _ (by omega);have hgl:Nat.gcd x.natAbs y.natAbs≤y.natAbs:=Nat.gcd_le_right _ (by omega);have hgs:Sm (Nat.gcd x.natAbs y.natAbs:Nat):=⟨by omega,by have:=hb'.2;omega⟩
  refine fR 0 ?_;refine OkS.seq ?_;refine fR 100 ?_;refine dI q3 ?_;rw [e1];refine ifI ?_;refine OkS.regD w1 200 [0,1,2] [3,4,5] (by kernel_rfl) ?_;refine nxI ?_;refine a0r.same _ (q1) inferInstance ?_;refine nxI ?_;refine dI q2 ?_;refine OkS.seq ?_;refine sZ 300 ?_
  repeat' (first|(refine And.intro (by exact sdI) ?_;refine dsI ?_)|((refine brI (fun hb=>?_) (fun hb=>?_))<;>(try simp only [Bool.not_eq_true',Bool.not_eq_false'] at hb)<;>(try simp only [hb])<;>(refine dsI ?_)))
  refine ifI ?_
  (refine brI (fun hb2=>?_) (fun hb2=>?_))<;>(try simp only [Bool.not_eq_true',Bool.not_eq_false'] at hb2)<;>(try simp only [hb2])
  ·have hb1:y=1:=by simpa using hb2
   subst hb1;refine fR 400 ?_;refine rtI ?_;refine a0a ?_ IsPure.out
   have:Nat.gcd x.natAbs (Int.natAbs 1)=1:=Nat.gcd_one_right _
   rw [this];simp
  ·refine skI ?_
   refine fR 500 ?_;refine dI (c1N x y ha' hb') ?_;refine OkS.seq ?_;refine OkS.regD w1 600 [0,1,2,3,4] [5,6,7] (by kernel_rfl) ?_;refine nxI ?_;refine a0r.same _ (b3E x (Nat.gcd x.natAbs y.natAbs:Nat) (by omega) ha' hgs) inferInstance ?_;refine nxI ?_;refine dI (b3E y (Nat.gcd x.natAbs y.natAbs:Nat) (by omega) hb' hgs) ?_;refine rtI ?_;exact a0a rfl IsPure.out
 ·rw [if_neg hn]
  exact b0s a b (by omega) ha hb
theorem c4o (p:Q2)(h0:p.n≠0)(h1:Sm p.n)(h2:Sm p.d):a0b C0 131 [p.D] (b4u p).D:=by
 refine a0c.walk w1 b7R rfl fun F=>?_
 have c1:=c1t p.d p.n h0 h2 h1;obtain ⟨a,b⟩:=p;unfold b4u Q2.D at *;dsimp only at *;refine fR 0 ?_;refine fR 100 ?_;refine dI c1 ?_;refine rtI ?_;exact a0a rfl IsPure.out
theorem c6a (p q:Q2)(h0:q.n≠0)(hp:0<p.d)(hq:0<(b4u q).d)(h1:Sm p.n)(h2:Sm q.n)(h3:Sm p.d)(h4:Sm q.d)(g1:Sm (b4u q).n)(g2:Sm (b4u q).d)(h5:Sm (p.n*(b4u q).n))(h8:Sm (p.d*(b4u q).d)) :
  a0b C0 69 [p.D,q.D] (mkQ (p.n*(b4u q).n) (p.d*(b4u q).d)).D:=by
 refine a0c.walk w1 c4g rfl fun F=>?_
 have c1:=c4o q h0 h2 h4;have c2:=b5X p (b4u q) hp hq h1 g1 h3 g2 h5 h8;generalize b4u q=r at *;obtain ⟨a,b⟩:=p;obtain ⟨c,d⟩:=q;obtain ⟨e,f⟩:=r;unfold Q2.D at *;dsimp only at *;refine fR 0 ?_;refine OkS.seq ?_;refine OkS.regD w1 100 [0,1,2] [3,4] (by kernel_rfl) ?_;refine nxI ?_;refine a0r.same _ (c1) inferInstance ?_;refine nxI ?_;refine dI c2 ?_;refine rtI ?_;exact a0a rfl IsPure.out
def a6c (a b:Int):Int:=if a<b then -1 else if b<a then 1 else 0
theorem b6F (a b:Int):a0b C0 189 [smI a,smI b] (i64 (a6c a b)):=by
 refine a0c.walk w1 b8H rfl fun F=>?_
 unfold a6c;refine fR 0 ?_;refine OkS.seq ?_;refine sZ 100 ?_
 repeat' (first|(refine And.intro (by exact sdI) ?_;refine dsI ?_)|((refine brI (fun hb=>?_) (fun hb=>?_))<;>(try simp only [Bool.not_eq_true',Bool.not_eq_false'] at hb)<;>(try simp only [hb])<;>(refine dsI ?_)))
 refine ifI ?_;refine OkS.seq ?_;refine OkS.block ?_;refine fR 200 ?_;refine ifI ?_
 (refine brI (fun h13=>?_) (fun h13=>?_))<;>(try simp only [Bool.not_eq_true',Bool.not_eq_false'] at h13)<;>(try simp only [h13])
 ·have h1:a<b:=by simpa using h13
  rw [if_pos h1];refine fR 300 ?_;refine rtI ?_;exact a0a rfl IsPure.out
 ·have h1:¬ a<b:=by simpa using h13
  rw [if_neg h1];refine fR 400 ?_;refine ifI ?_
  (refine brI (fun h19=>?_) (fun h19=>?_))<;>(try simp only [Bool.not_eq_true',Bool.not_eq_false'] at h19)<;>(try simp only [h19])
  ·have h2:b<a:=by simpa using h19
   rw [if_pos h2];refine fR 500 ?_;refine rtI ?_;exact a0a rfl IsPure.out
  ·have h2:¬ b<a:=by simpa using h19
   rw [if_neg h2];refine skI ?_;refine fR 600 ?_;refine rtI ?_;exact a0a rfl IsPure.out
theorem b7m (p q:Q2)(h1:Sm p.n)(h2:Sm q.n)(h3:Sm p.d)(h4:Sm q.d)(h5:Sm (p.n*q.d))(h6:Sm (q.n*p.d)):a0b C0 121 [p.D,q.D] (i64 (a6c (p.n*q.d) (q.n*p.d))):=by
 refine a0c.walk w1 b7s rfl fun F=>?_
 obtain ⟨a,b⟩:=p;obtain ⟨c,d⟩:=q;unfold Q2.D;dsimp only at *;refine fR 0 ?_;refine OkS.seq ?_;refine OkS.regD w1 100 [0,1,2,3,4,5,6,7,8] [9,10,11] (by kernel_rfl) ?_;refine nxI ?_;refine a0r.same _ (a5b a d h5 h1 h4) inferInstance ?_;refine nxI ?_;refine dI (a5b c b h6 h2 h3) ?_;refine dI (b6F (a*d) (c*b)) ?_;refine rtI ?_;exact a0a rfl IsPure.out
theorem c0t (p:Q2):a0b C0 122 [p.D] (i64 (max (-1) (min 1 p.n))):=by
 refine a0c.walk w1 b6c rfl fun F=>?_
 obtain ⟨a,b⟩:=p;unfold Q2.D;dsimp only;refine fR 0 ?_;refine fR 100 ?_;refine dI (a8C a) ?_;refine rtI ?_;exact a0a rfl IsPure.out
theorem b4j {n k:Nat}(h:Nat.blt n k=true):n<k:=by rw [Nat.blt_eq] at h;exact h
def smB:Int→Bool
 | .ofNat n=>Nat.blt n 9223372036854775808
 | .negSucc n=>Nat.blt n 9223372036854775807
theorem a0E {z:Int}(h:smB z=true):Sm z:=by
 cases z with
 | ofNat n=>have:=b4j h;exact ⟨by rw [Int.ofNat_eq_natCast];omega,by rw [Int.ofNat_eq_natCast];omega⟩
 | negSucc n=>have:=b4j h;exact ⟨by omega,by omega⟩
def psB:Int→Bool
 | .ofNat n=>Nat.blt 0 n
 | .negSucc _=>false
theorem a6O {z:Int}(h:psB z=true):0<z:=by
 cases z with
 | ofNat n=>have:=b4j h;rw [Int.ofNat_eq_natCast];omega
 | negSucc n=>cases h
def nzB:Int→Bool
 | .ofNat n=>Nat.blt 0 n
 | .negSucc _=>true
theorem c7l {z:Int}(h:nzB z=true):z≠0:=by
 cases z with
 | ofNat n=>have:=b4j h;rw [Int.ofNat_eq_natCast];omega
 | negSucc n=>omega
def asQ:D→Option Q2
 | .agg [.prim (.int .i64 a),.prim (.slice none 0 0),.prim (.int .i64 b),.prim (.slice none 0 0)]=>some ⟨a,b⟩
 | _=>none
theorem b8m {d:D}{q:Q2}(h:asQ d=some q):d=q.D:=by
 unfold asQ at h;split at h
 ·cases h;rfl
 ·cases h
def c0Y (p q:Q2):Bool:=psB p.d&&psB q.d&&smB p.n&&smB q.n&&smB p.d&&smB q.d&&smB (p.n*q.d)&&smB (q.n*p.d)&&smB (p.n*q.d+q.n*p.d)&&smB (p.d*q.d)
def b6s (p q:Q2):Bool:=psB p.d&&psB q.d&&smB p.n&&smB q.n&&smB p.d&&smB q.d&&smB (p.n*q.d)&&smB (-q.n*p.d)&&smB (p.n*q.d + -q.n*p.d)&&smB (p.d*q.d)
def b8N (p q:Q2):Bool:=psB p.d&&psB q.d&&smB p.n&&smB q.n&&smB p.d&&smB q.d&&smB (p.n*q.n)&&smB (p.d*q.d)
def c6K (p q:Q2):Bool:=smB p.n&&smB q.n&&smB p.d&&smB q.d&&smB (p.n*q.d)&&smB (q.n*p.d)
def c9D (p q r:Q2):Bool:=nzB q.n&&psB p.d&&psB r.d&&smB p.n&&smB q.n&&smB p.d&&smB q.d&&smB r.n&&smB r.d&&smB (p.n*r.n)&&smB (p.d*r.d)
def b5T (p q:Q2):Q2:=c2H p (c7N q)
def c3i (p q:Q2):Q2:=mkQ (p.n*q.n) (p.d*q.d)
theorem b7y {p q:Q2}(hb:b6s p q=true):a0b C0 124 [p.D,q.D] (b5T p q).D:=by
 simp only [b6s,Bool.and_eq_true] at hb;obtain ⟨⟨⟨⟨⟨⟨⟨⟨⟨b1,b2⟩,b3⟩,b4⟩,b5⟩,b6⟩,b7⟩,b8⟩,b9⟩,b10⟩:=hb;exact c4d p q (a6O b1) (a6O b2) (a0E b3) (a0E b4) (a0E b5) (a0E b6) (a0E b7) (a0E b8) (a0E b9) (a0E b10)
theorem c1K {p q:Q2}(hb:c0Y p q=true):a0b C0 72 [p.D,q.D] (c2H p q).D:=by
 simp only [c0Y,Bool.and_eq_true] at hb;obtain ⟨⟨⟨⟨⟨⟨⟨⟨⟨b1,b2⟩,b3⟩,b4⟩,b5⟩,b6⟩,b7⟩,b8⟩,b9⟩,b10⟩:=hb;exact b6h p q (a6O b1) (a6O b2) (a0E b3) (a0E b4) (a0E b5) (a0E b6) (a0E b7) (a0E b8) (a0E b9) (a0E b10)
theorem b6x {p q:Q2}(hb:b8N p q=true):a0b C0 74 [p.D,q.D] (c3i p q).D:=by
 simp only [b8N,Bool.and_eq_true] at hb;obtain ⟨⟨⟨⟨⟨⟨⟨b1,b2⟩,b3⟩,b4⟩,b5⟩,b6⟩,b7⟩,b8⟩:=hb;exact b5X p q (a6O b1) (a6O b2) (a0E b3) (a0E b4) (a0E b5) (a0E b6) (a0E b7) (a0E b8)
abbrev ptD (x y:Q2):D:=.agg [i64 x.n,a2k,i64 x.d,a2k,i64 y.n,a2k,i64 y.d,a2k]
def c5g (dx dy:Q2):Q2:=c2H (c3i dx dx) (c3i dy dy)
def b9k (a b c d dx dy:Q2):Bool:=b6s a c&&b6s b d&&b8N dx dx&&b8N dy dy&&c0Y (c3i dx dx) (c3i dy dy)
theorem c4x {a b c d:Q2}(hb:b9k a b c d (b5T a c) (b5T b d)=true):a0b C0 59 [ptD a b,ptD c d] (c5g (b5T a c) (b5T b d)).D:=by
 simp only [b9k,Bool.and_eq_true] at hb;obtain ⟨⟨⟨⟨b1,b2⟩,b3⟩,b4⟩,b5⟩:=hb;have c1:=b7y b1;have c2:=b7y b2;have c3:=b6x b3;have c4:=b6x b4;have c5:=c1K b5;unfold c5g;generalize b5T a c=dx at *;generalize b5T b d=dy at *;generalize c3i dx dx=px at *;generalize c3i dy dy=py at *;generalize c2H px py=s at *;obtain ⟨a1,a2⟩:=a;obtain ⟨b1,b2⟩:=b;obtain ⟨c1',c2'⟩:=c;obtain ⟨d1,d2⟩:=d;obtain ⟨x1,x2⟩:=dx;obtain ⟨y1,y2⟩:=dy;obtain ⟨p1,p2⟩:=px;obtain ⟨q1,q2⟩:=py;obtain ⟨s1,s2⟩:=s;unfold Q2.D ptD at *;dsimp only at *;refine a0c.walk w1 c4r rfl fun F=>?_
 refine fR 0 ?_;refine OkS.seq ?_;refine OkS.regD w1 100 [0,1,2,3,4,5,6,7,8,9,10,11] [12,13] (by kernel_rfl) ?_;refine nxI ?_;refine a0r.same _ (c1) inferInstance ?_;refine nxI ?_;refine a0r.same _ (c2) inferInstance ?_;refine nxI ?_;refine OkS.seq ?_;refine OkS.regD w1 200 [0,1,2,3,4] [5,6,7] (by kernel_rfl) ?_;refine nxI ?_;refine a0r.same _ (c3) inferInstance ?_;refine nxI ?_;refine dI c4 ?_;refine dI c5 ?_;refine rtI ?_;exact a0a rfl IsPure.out
def d1r:D→Option (Q2 × Q2)
 | .agg [.prim (.int .i64 a),.prim (.slice none 0 0),.prim (.int .i64 b),.prim (.slice none 0 0),.prim (.int .i64 c),.prim (.slice none 0 0),.prim (.int .i64 d),.prim (.slice none 0 0)]=>some (⟨a,b⟩,⟨c,d⟩)
 | _=>none
theorem b6a {d:D}{q:Q2 × Q2}(h:d1r d=some q):d=ptD q.1 q.2:=by
 unfold d1r at h;split at h
 ·cases h;rfl
 ·cases h
instance  (a b:Q2):CellsPure (ptD a b):=inferInstance
def c6c (b:Bool)(d:D):Option D:=match b with
 | true=>some d
 | false=>none
theorem a6j {b:Bool}{d d':D}(h:c6c b d=some d'):b=true∧d=d':=by
 cases b
 ·cases h
 ·cases h;exact ⟨rfl,rfl⟩
def d3E (f:Nat)(ds:List D):Option D:=match ds with
 | [x,y]=>match Nat.beq f 59 with
  | true=>match d1r x with
   | some (a,b)=>match d1r y with
    | some (c,d)=>c6c (b9k a b c d (b5T a c) (b5T b d)) (c5g (b5T a c) (b5T b d)).D
    | none=>none
   | none=>none
  | false=>match asQ x with
   | some p=>match asQ y with
    | some q=>match Nat.beq f 72 with
     | true=>c6c (c0Y p q) (c2H p q).D
     | false=>match Nat.beq f 124 with
      | true=>c6c (b6s p q) (b5T p q).D
      | false=>match Nat.beq f 74 with
       | true=>c6c (b8N p q) (c3i p q).D
       | false=>match Nat.beq f 121 with
        | true=>c6c (c6K p q) (i64 (a6c (p.n*q.d) (q.n*p.d)))
        | false=>match Nat.beq f 69 with
         | true=>c6c (c9D p q (b4u q)) (mkQ (p.n*(b4u q).n) (p.d*(b4u q).d)).D
         | false=>none
    | none=>none
   | none=>none
 | [x]=>match Nat.beq f 122 with
  | true=>match asQ x with
   | some p=>some (i64 (max (-1) (min 1 p.n)))
   | none=>none
  | false=>match Nat.beq f 57 with
   | true=>match x with
    | .prim (.int .i64 z)=>some (smF z 1)
    | _=>none
   | false=>none
 | _=>none
theorem c6X (p q:Q2):ArePure [p.D,q.D]:=inferInstance
theorem c5Y {f:Nat}{ds:List D}{d:D}(h:d3E f ds=some d):a0b C0 f ds d∧ArePure ds:=by
 unfold d3E at h;split at h<;>first|(cases h;done)|skip
 ·split at h
  ·rename_i hf
   obtain rfl:=Nat.eq_of_beq_eq_true hf;split at h<;>first|(cases h;done)|skip
   rename_i ha;split at h<;>first|(cases h;done)|skip
   rename_i hb;obtain rfl:=b6a ha;obtain rfl:=b6a hb;obtain ⟨hk,rfl⟩:=a6j h;exact ⟨c4x hk,inferInstance⟩
  split at h<;>first|(cases h;done)|skip
  rename_i p hp;split at h<;>first|(cases h;done)|skip
  rename_i q hq;obtain rfl:=b8m hp;obtain rfl:=b8m hq;refine ⟨?_,c6X p q⟩;split at h
  ·rename_i hf
   obtain rfl:=Nat.eq_of_beq_eq_true hf;obtain ⟨hb,rfl⟩:=a6j h;exact c1K hb
  split at h
  ·rename_i hf
   obtain rfl:=Nat.eq_of_beq_eq_true hf;obtain ⟨hb,rfl⟩:=a6j h;exact b7y hb
  split at h
  ·rename_i hf
   obtain rfl:=Nat.eq_of_beq_eq_true hf;obtain ⟨hb,rfl⟩:=a6j h;exact b6x hb
  split at h
  ·rename_i hf
   obtain rfl:=Nat.eq_of_beq_eq_true hf;obtain ⟨hb,rfl⟩:=a6j h;simp only [c6K,Bool.and_eq_true] at hb;obtain ⟨⟨⟨⟨⟨b1,b2⟩,b3⟩,b4⟩,b5⟩,b6⟩:=hb;exact b7m p q (a0E b1) (a0E b2) (a0E b3) (a0E b4) (a0E b5) (a0E b6)
  split at h<;>first|(cases h;done)|skip
  rename_i hf;obtain rfl:=Nat.eq_of_beq_eq_true hf;obtain ⟨hb,rfl⟩:=a6j h;simp only [c9D,Bool.and_eq_true] at hb;obtain ⟨⟨⟨⟨⟨⟨⟨⟨⟨⟨b1,b2⟩,b3⟩,b4⟩,b5⟩,b6⟩,b7⟩,b8⟩,b9⟩,b10⟩,b11⟩:=hb;exact c6a p q (c7l b1) (a6O b2) (a6O b3) (a0E b4) (a0E b5) (a0E b6) (a0E b7) (a0E b8) (a0E b9) (a0E b10) (a0E b11)
 ·split at h
  ·rename_i hf
   obtain rfl:=Nat.eq_of_beq_eq_true hf;split at h<;>first|(cases h;done)|skip
   rename_i p hp;obtain rfl:=b8m hp;cases h;exact ⟨c0t p,inferInstance⟩
  split at h<;>first|(cases h;done)|skip
  rename_i hf;obtain rfl:=Nat.eq_of_beq_eq_true hf;split at h<;>first|(cases h;done)|skip
  cases h;exact ⟨d3n _,inferInstance⟩
def c6i (o:Nat→List D→Option D)(f:Nat)(ds:List D):Option D:=match d3E f ds with
 | some d=>some d
 | none=>o f ds
theorem b3c {o:Nat→List D→Option D}(ho:∀ f ds d,o f ds=some d→a0b C0 f ds d∧ArePure ds)(f:Nat)(ds:List D)(d:D)(h:c6i o f ds=some d):a0b C0 f ds d∧ArePure ds:=by
 unfold c6i at h;split at h
 ·rename_i hf;cases h;exact c5Y hf
 ·exact ho _ _ _ h
def c4W:Value→Value→Bool
 | .int .i64 a,.int .i64 b=>a==b
 | .string a,.string b=>a.data.toList==b.data.toList
 | .bool a,.bool b=>a==b
 | .slice none 0 0,.slice none 0 0=>true
 | _,_=>false
theorem c0A {a b:Value}(h:c4W a b=true):a=b:=by
 unfold c4W at h;split at h
 ·rw [eq_of_beq h]
 ·rename_i a b
  have:=eq_of_beq h
  congr 1
  exact ByteArray.ext (Array.toList_inj.1 this)
 ·rw [eq_of_beq h]
 ·rfl
 ·cases h
def eqL (f:D→D→Bool):List D→List D→Bool
 | [],[]=>true
 | a::l,b::m=>f a b&&eqL f l m
 | _,_=>false
theorem b1n {f:D→D→Bool}(hf:∀ a b,f a b=true→a=b):∀ {l m:List D},eqL f l m=true→l=m
 | [],[],_=>rfl
 | a::l,b::m,h=>by
  simp only [eqL,Bool.and_eq_true] at h;rw [hf a b h.1,b1n hf h.2]
 | [],_::_,h=>by simp [eqL] at h
 | _::_,[],h=>by simp [eqL] at h
def eqD:Nat→D→D→Bool
 | 0,_,_=>false
 | n+1,a,b=>match a,b with
  | .prim a,.prim b=>c4W a b
  | .agg l,.agg m=>eqL (eqD n) l m
  | .sl x y l,.sl x' y' m=>(x==x')&&Nat.beq y y'&&eqL (eqD n) l m
  | _,_=>false
theorem b1o:∀ (n:Nat) (a b:D),eqD n a b=true→a=b
 | 0,_,_,h=>by simp [eqD] at h
 | n+1,a,b,h=>by
  unfold eqD at h;split at h
  ·rw [c0A h]
  ·rw [b1n (b1o n) h]
  ·simp only [Bool.and_eq_true] at h
   rw [eq_of_beq h.1.1,Nat.eq_of_beq_eq_true h.1.2,b1n (b1o n) h.2]
  ·cases h
def dig:Nat→Nat→List UInt8
 | 0,_=>[]
 | k+1,u=>match Nat.blt u 10 with
  | true=>[UInt8.ofNat (48+u)]
  | false=>dig k (u / 10)++[UInt8.ofNat (48+u%10)]
theorem b6C:∀ (k u:Nat),u<10^k→dig k u=Lib.decDigits u∨k=0
 | 0,_,_=>.inr rfl
 | k+1,u,h=>by
  left;unfold dig Lib.decDigits
  by_cases hu:u<10
  ·rw [dif_pos hu,show Nat.blt u 10=true from by rw [Nat.blt_eq];exact hu]
  ·rw [dif_neg hu,show Nat.blt u 10=false from by rw [← Bool.not_eq_true,Nat.blt_eq];exact hu]
   dsimp only;rw [Nat.pow_succ] at h;rcases b6C k (u / 10) (by omega) with h1|h1
   ·rw [h1]
   ·subst h1;simp at h;omega
def a1D:D:=.agg [.sl true 4 [.agg [.prim (.string ⟨#[109,111,105,115,116,117,114,101]⟩),.prim (.string ⟨#[49,47,53]⟩),.prim (.string ⟨#[104,97,108,102,45,117,112]⟩),.prim (.string ⟨#[49,47,49,48]⟩)],.agg [.prim (.string ⟨#[119,101,105,103,104,116]⟩),.prim (.string ⟨#[49,47,50]⟩),.prim (.string ⟨#[104,97,108,102,45,101,118,101,110]⟩),.prim (.string ⟨#[49,47,50]⟩)]],.sl true 3 [.agg [.prim (.string ⟨#[111,110,101]⟩),.sl true 1 [.prim (.string ⟨#[]⟩),.prim (.string ⟨#[55,56]⟩)],.sl true 1 [.prim (.string ⟨#[49,51]⟩),.prim (.string ⟨#[]⟩)]],.agg [.prim (.string ⟨#[116,119,111]⟩),.sl true 1 [.prim (.string ⟨#[]⟩),.prim (.string ⟨#[55,53]⟩)],.sl true 1 [.prim (.string ⟨#[49,52]⟩),.prim (.string ⟨#[]⟩)]],.agg [.prim (.string ⟨#[116,104,114,101,101]⟩),.sl true 1 [.prim (.string ⟨#[]⟩),.prim (.string ⟨#[]⟩)],.sl true 1 [.prim (.string ⟨#[49,54]⟩),.prim (.string ⟨#[]⟩)]]]]
def c6g:List D:=[.agg [i64 67,a2k,i64 5,a2k],.agg [i64 69,a2k,i64 5,a2k],.agg [i64 68,a2k,i64 5,a2k]]
def d2Z:D:=.agg [i64 68,a2k,i64 5,a2k]
def c6m (f:Nat)(ds:List D):Option D:=match Nat.beq f 112 with
 | true=>match ds with
  | []=>some a9W
  | _=>none
 | false=>match Nat.beq f 216 with
  | true=>match ds with
   | []=>some b8Y
   | _=>none
  | false=>match Nat.beq f 162 with
   | true=>match ds with
    | [d]=>match eqD 30 d a1D with
     | true=>some (i64 0)
     | false=>none
    | _=>none
   | false=>match Nat.beq f 170 with
    | true=>match ds with
     | [.prim (.string s)]=>some (boo (a7H s.data.toList))
     | _=>none
    | false=>match Nat.beq f 221 with
     | true=>match ds with
      | [.prim (.int .i64 (.ofNat z))]=>match Nat.ble z 9223372036854775807 with
       | true=>some (str ⟨(dig 19 z).toArray⟩)
       | false=>none
      | _=>none
     | false=>match Nat.beq f 194 with
      | true=>match ds with
       | [.prim (.string s)]=>match Nat.ble s.size 18 with
        | true=>match Lib.atoi s.data.toList with
         | some n=>some (.tup [i64 n,.prim .nilIface])
         | none=>none
        | false=>none
       | _=>none
      | false=>match Nat.beq f 110 with
       | true=>match ds with
        | [.sl _ z es]=>match Nat.beq z 4&&eqL (eqD 30) es c6g with
         | true=>some d2Z
         | false=>none
        | _=>none
       | false=>none
def Kn:Prop:=a0b C0 162 [a1D] (i64 0)∧∀ b,a0b C0 110 [.sl b 4 c6g] d2Z
theorem a6m:a2g a1D:=a0X (n:=30) (by kernel_rfl)
theorem c0g (b:Bool):a2g (.sl b 4 c6g):=by cases b<;>exact a0X (n:=30) (by kernel_rfl)
theorem b4B {d:D}(h:a2g d):ArePure [d]:=⟨fun x hx=>by simp at hx;subst hx;exact h⟩
theorem c4C (K:Kn)(f:Nat)(ds:List D)(d:D)(h:c6m f ds=some d):a0b C0 f ds d∧ArePure ds:=by
 unfold c6m at h;split at h
 ·rename_i hf
  obtain rfl:=Nat.eq_of_beq_eq_true hf;split at h<;>first|(cases h;done)|skip
  cases h;exact ⟨a9q,inferInstance⟩
 split at h
 ·rename_i hf
  obtain rfl:=Nat.eq_of_beq_eq_true hf;split at h<;>first|(cases h;done)|skip
  cases h;exact ⟨b4m,inferInstance⟩
 split at h
 ·rename_i hf
  obtain rfl:=Nat.eq_of_beq_eq_true hf;split at h<;>first|(cases h;done)|skip
  split at h<;>first|(cases h;done)|skip
  rename_i hd;obtain rfl:=b1o _ _ _ hd;cases h;exact ⟨K.1,b4B a6m⟩
 split at h
 ·rename_i hf
  obtain rfl:=Nat.eq_of_beq_eq_true hf;split at h<;>first|(cases h;done)|skip
  cases h;exact ⟨b1K _,inferInstance⟩
 split at h
 ·rename_i hf
  obtain rfl:=Nat.eq_of_beq_eq_true hf;split at h<;>first|(cases h;done)|skip
  split at h<;>first|(cases h;done)|skip
  rename_i z x hz;have hz:=Nat.le_of_ble_eq_true hz;cases h;refine ⟨?_,inferInstance⟩
  have:=b3y (z:Int) (by omega) (by omega)
  have e:Lib.itoa (z:Int)=dig 19 z:=by
   rcases b6C 19 z (Nat.lt_of_le_of_lt hz (by decide)) with h1|h1
   ·rw [h1];rfl
   ·cases h1
  rw [e] at this;exact this
 split at h
 ·rename_i hf
  obtain rfl:=Nat.eq_of_beq_eq_true hf;split at h<;>first|(cases h;done)|skip
  split at h<;>first|(cases h;done)|skip
  split at h<;>first|(cases h;done)|skip
  rename_i s b hs o n hn;cases h;exact ⟨b2C _ n (Nat.le_of_ble_eq_true hs) hn,inferInstance⟩
 split at h
 ·rename_i hf
  obtain rfl:=Nat.eq_of_beq_eq_true hf;split at h<;>first|(cases h;done)|skip
  split at h<;>first|(cases h;done)|skip
  rename_i hd;simp only [Bool.and_eq_true] at hd;obtain rfl:=Nat.eq_of_beq_eq_true hd.1;obtain rfl:=b1n (b1o _) hd.2;cases h;exact ⟨K.2 _,b4B (c0g _)⟩
 ·cases h
def mtA (t:Nat)(name:String):Option Nat:=match Nat.beq t 113 with
 | true=>match decide (name = "Cmp") with
  | true=>some 121
  | false=>none
 | false=>none
theorem b1p (t:Nat)(name:String)(f:Nat)(h:mtA t name=some f)(v:Value)(w:World):(method (C0.P.types.size+Made.depth) t v name).run C0.P w=.ok (f,v) w:=by
 unfold mtA at h;split at h<;>first|(cases h;done)|skip
 rename_i ht;split at h<;>first|(cases h;done)|skip
 rename_i hn;obtain rfl:=Nat.eq_of_beq_eq_true ht;obtain rfl:=of_decide_eq_true hn;cases h
 kernel_rfl
def d4P:a0k:=⟨.arr 256 1 false,256,256,true,.agg (Array.replicate 256 (.bool false))⟩
noncomputable def tt2 (t:Nat):Option a0k:=match Nat.beq t 345 with
 | true=>some d4P
 | false=>tbt.get t
theorem c9I:Tab C0.P tt2:=fun t i h=>by
 unfold tt2 at h;split at h
 ·rename_i ht
  obtain rfl:=Nat.eq_of_beq_eq_true ht;cases h
  kernel_rfl
 ·exact tab t i h
noncomputable def X2:EV:=⟨tt2,xbt.get,fbt.get,fun _=>false,c6i c6m,mtA,b5Q⟩
end Go.Ide
