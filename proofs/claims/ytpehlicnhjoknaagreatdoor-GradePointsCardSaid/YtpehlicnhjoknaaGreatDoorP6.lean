/- The layer of own lemmas and contracts, part 6. -/
import Derived.Test.YtpehlicnhjoknaaGreatDoorP4
import Derived.Test.YtpehlicnhjoknaaGreatDoorP3
import Derived.Test.YtpehlicnhjoknaaGreatDoorP5
import Derived.Lib.AppendIntMem
import Derived.Lib.SmallJoins
import Derived.Shelf.Spec.BitsCarry
import Derived.Laws.StandIn
set_option linter.unusedVariables false
set_option linter.unusedSimpArgs false
namespace Go.Ide
open Go Go.Ide Go.Proofs Go.RowKit
set_option maxRecDepth 100000
def G0 (w:World):Prop:=Lib.TabIs Tryz.prog w "internal/strconv.uint64pow10" .u64 Lib.pow10Tab
theorem c1U:Tryz.prog.globalNamed "internal/strconv.uint64pow10" = some 3:=by kernel_rfl
theorem c0x {w w':World}(h:G0 w)(b:Below (3+1) w w'):G0 w':=by
 unfold G0 Lib.TabIs World.var? at h ⊢;rw [c1U] at h ⊢;simp only [Option.bind_some] at h ⊢;rw [b.block _ (by decide)];exact h
noncomputable def C0:Ctx:={P:=Tryz.prog,G:=G0,nG:=3+1,hG:=fun _ _=>c0x}
def a1I:D:=.mp [.prim (.string ⟨#[108,105,110,101]⟩),.prim (.string ⟨#[122,105,103,122,97,103]⟩),.prim (.string ⟨#[103,114,105,100]⟩),.prim (.string ⟨#[113,117,105,110,99,117,110,120]⟩)]
 [.agg [.prim (.int .i64 1),.prim (.int .i64 64),.clo (.func 109) [] []],.agg [.prim (.int .i64 1),.prim (.int .i64 64),.clo (.func 111) [] []],.agg [.prim (.int .i64 1),.prim (.int .i64 8),.clo (.func 112) [] []],.agg [.prim (.int .i64 5),.prim (.int .i64 5),.clo (.func 113) [] []]]
theorem b1N (a b:Value)(fn:Fn):a6Z (.agg [.prim a,.prim b,.clo fn [] []]):=a6Z.agg fun d hd=>by
 simp only [List.mem_cons,List.not_mem_nil,or_false] at hd;rcases hd with rfl|rfl|rfl
 ·exact .prim _
 ·exact .prim _
 ·exact .clo
theorem a6n:a0b C0 46 [] a1I:=by
 refine a0c.intro tab Tryz.func46 rfl (by kernel_rfl) (by kernel_rfl) (by kernel_rfl) fun F=>?_
 refine Ok.seq (Ok.region ?_);refine OkL.p tab rfl rfl trivial ?_;refine OkL.nil ?_;refine Ok.seq (Ok.region ?_);refine OkM.start (m:=1) rfl rfl rfl ?_;refine OkM.pB (C:=C0) tab (.agg [.prim (.int .i64 1),.prim (.int .i64 64),.clo (.func 109) [] []]) rfl (by kernel_rfl) (b1N _ _ _) rfl (by decide) ?_;refine OkM.ins (C:=C0) (k:=9) (e:=102) (z:=.agg #[.int .i64 0,.int .i64 0,.nilFunc]) b3Q (by kernel_rfl) rfl rfl rfl (by kernel_rfl) rfl (fun _ _ _ _ h _ _ _=>b1N _ _ _ _ _ _ _ _ _ _ h) ?_;refine OkM.pB (C:=C0) tab (.agg [.prim (.int .i64 1),.prim (.int .i64 64),.clo (.func 111) [] []]) rfl (by kernel_rfl) (b1N _ _ _) rfl (by decide) ?_;refine OkM.ins (C:=C0) (k:=9) (e:=102) (z:=.agg #[.int .i64 0,.int .i64 0,.nilFunc]) b3Q (by kernel_rfl) rfl rfl rfl (by kernel_rfl) rfl (fun _ _ _ _ h _ _ _=>b1N _ _ _ _ _ _ _ _ _ _ h) ?_;refine OkM.pB (C:=C0) tab (.agg [.prim (.int .i64 1),.prim (.int .i64 8),.clo (.func 112) [] []]) rfl (by kernel_rfl) (b1N _ _ _) rfl (by decide) ?_;refine OkM.ins (C:=C0) (k:=9) (e:=102) (z:=.agg #[.int .i64 0,.int .i64 0,.nilFunc]) b3Q (by kernel_rfl) rfl rfl rfl (by kernel_rfl) rfl (fun _ _ _ _ h _ _ _=>b1N _ _ _ _ _ _ _ _ _ _ h) ?_;refine OkM.pB (C:=C0) tab (.agg [.prim (.int .i64 5),.prim (.int .i64 5),.clo (.func 113) [] []]) rfl (by kernel_rfl) (b1N _ _ _) rfl (by decide) ?_;refine OkM.ins (C:=C0) (k:=9) (e:=102) (z:=.agg #[.int .i64 0,.int .i64 0,.nilFunc]) b3Q (by kernel_rfl) rfl rfl rfl (by kernel_rfl) rfl (fun _ _ _ _ h _ _ _=>b1N _ _ _ _ _ _ _ _ _ _ h) ?_;refine OkM.done ?_;refine OkL.p tab rfl rfl trivial ?_;refine OkL.p tab rfl rfl trivial ?_;refine OkL.nil ?_;refine Ok.ret ?_;exact ⟨.inr rfl,_,_,rfl,⟨trivial,trivial⟩,a1I,.refl _,a0T (n:=20) (by kernel_rfl),rfl⟩
def b8s:D:=.mp [.prim (.string ⟨#[100,111,119,110]⟩),.prim (.string ⟨#[117,112]⟩),.prim (.string ⟨#[104,97,108,102,45,117,112]⟩),.prim (.string ⟨#[104,97,108,102,45,101,118,101,110]⟩)]
 [.agg [.clo (.func 207) [] []],.agg [.clo (.func 208) [] []],.agg [.clo (.func 209) [] []],.agg [.clo (.func 210) [] []]]
theorem b1M (fn:Fn):a6Z (.agg [.clo fn [] []]):=a6Z.agg fun d hd=>by
 simp only [List.mem_cons,List.not_mem_nil,or_false] at hd;subst hd;exact .clo
theorem b4H:a0b C0 145 [] b8s:=by
 refine a0c.intro tab Tryz.func145 rfl (by kernel_rfl) (by kernel_rfl) (by kernel_rfl) fun F=>?_
 refine Ok.seq (Ok.region ?_);refine OkL.p tab rfl rfl trivial ?_;refine OkL.nil ?_;refine Ok.seq (Ok.region ?_);refine OkM.start (m:=1) rfl rfl rfl ?_;refine OkM.pB (C:=C0) tab (.agg [.clo (.func 207) [] []]) rfl (by kernel_rfl) (b1M _) rfl (by decide) ?_;refine OkM.ins (C:=C0) (k:=9) (e:=220) (z:=.agg #[.nilFunc]) b3Q (by kernel_rfl) rfl rfl rfl (by kernel_rfl) rfl (fun _ _ _ _ h _ _ _=>b1M _ _ _ _ _ _ _ _ h) ?_;refine OkM.pB (C:=C0) tab (.agg [.clo (.func 208) [] []]) rfl (by kernel_rfl) (b1M _) rfl (by decide) ?_;refine OkM.ins (C:=C0) (k:=9) (e:=220) (z:=.agg #[.nilFunc]) b3Q (by kernel_rfl) rfl rfl rfl (by kernel_rfl) rfl (fun _ _ _ _ h _ _ _=>b1M _ _ _ _ _ _ _ _ h) ?_;refine OkM.pB (C:=C0) tab (.agg [.clo (.func 209) [] []]) rfl (by kernel_rfl) (b1M _) rfl (by decide) ?_;refine OkM.ins (C:=C0) (k:=9) (e:=220) (z:=.agg #[.nilFunc]) b3Q (by kernel_rfl) rfl rfl rfl (by kernel_rfl) rfl (fun _ _ _ _ h _ _ _=>b1M _ _ _ _ _ _ _ _ h) ?_;refine OkM.pB (C:=C0) tab (.agg [.clo (.func 210) [] []]) rfl (by kernel_rfl) (b1M _) rfl (by decide) ?_;refine OkM.ins (C:=C0) (k:=9) (e:=220) (z:=.agg #[.nilFunc]) b3Q (by kernel_rfl) rfl rfl rfl (by kernel_rfl) rfl (fun _ _ _ _ h _ _ _=>b1M _ _ _ _ _ _ _ _ h) ?_;refine OkM.done ?_;refine OkL.p tab rfl rfl trivial ?_;refine OkL.p tab rfl rfl trivial ?_;refine OkL.nil ?_;refine Ok.ret ?_;exact ⟨.inr rfl,_,_,rfl,⟨trivial,trivial⟩,b8s,.refl _,a0T (n:=20) (by kernel_rfl),rfl⟩
theorem d1Y {ρ:Lk}{O:Nat→Prop}{w:World}{a b c:Value}{vs:Array Value}(hn:vs.size=3)(h:∀ (i:Nat) (x:D),[D.prim a,.prim b,.prim c][i]? = some x→Rep ρ O w x (vs.getD i undef)):vs = #[a,b,c]:=by
 match vs,hn with
 | ⟨[u,v,x]⟩,_ =>
  have h0:=h 0 _ rfl;have h1:=h 1 _ rfl;have h2:=h 2 _ rfl;simp at h0 h1 h2;cases h0;cases h1;cases h2;rfl
theorem b6E (x y c:Nat)(hc:c≤1):a4g C0 254 [.prim (.int .u64 x),.prim (.int .u64 y),.prim (.int .u64 c)]
  (.tup [.prim (.int .u64 (((x+y+c)%18446744073709551616:Nat):Int)),.prim (.int .u64 (((x+y+c) / 18446744073709551616:Nat):Int))]):=fun ρ O w vs hn h=>by
 have:=d1Y hn h
 subst this;refine ⟨.tuple #[.int .u64 (((x+y+c)%18446744073709551616:Nat):Int),.int .u64 (((x+y+c) / 18446744073709551616:Nat):Int)],?_,.tup rfl fun i d hd=>?_⟩
 ·show (callFunc 254 _).run Tryz.prog w=_
  rw [run_callFunc_extern Tryz.func254 (by kernel_rfl) (by kernel_rfl) (by kernel_rfl) (e:=add64Entry) (by kernel_rfl),run_add64 x y c (by omega) (by omega) (by omega) (by omega)];simp only [Result.andThen]
  congr 5<;>omega
 ·match i with
  | 0=>simp at hd;subst hd;exact .prim _
  | 1=>simp at hd;subst hd;exact .prim _
  | n+2=>simp at hd
theorem d4D {ρ:Lk}{O:Nat→Prop}{w:World}{a b:Value}{vs:Array Value}(hn:vs.size=2)(h:∀ (i:Nat) (x:D),[D.prim a,.prim b][i]? = some x→Rep ρ O w x (vs.getD i undef)):vs = #[a,b]:=by
 match vs,hn with
 | ⟨[u,v]⟩,_ =>
  have h0:=h 0 _ rfl;have h1:=h 1 _ rfl;simp at h0 h1;cases h0;cases h1;rfl
theorem b0I (s:ByteArray)(c:Int):a4g C0 296 [.prim (.string s),.prim (.int .u8 c)] (.prim (.int .i64 (firstIdx s c.toNat.toUInt8))):=fun ρ O w vs hn h=>by
 have:=d4D hn h
 subst this;refine ⟨_,?_,.prim _⟩;show (callFunc 296 _).run Tryz.prog w=_;rw [run_callFunc_indexByte Tryz.func296 (by kernel_rfl) (by kernel_rfl) (by kernel_rfl) (by kernel_rfl),run_indexByte_string];rfl
theorem b9W (x y b:Nat)(hb:b≤1):a4g C0 255 [.prim (.int .u64 x),.prim (.int .u64 y),.prim (.int .u64 b)]
  (.tup [.prim (.int .u64 (((x+18446744073709551616 - y - b)%18446744073709551616:Nat):Int)),.prim (.int .u64 ((if x<y+b then 1 else 0:Nat):Int))]):=fun ρ O w vs hn h=>by
 have:=d1Y hn h
 subst this;refine ⟨.tuple #[.int .u64 (((x+18446744073709551616 - y - b)%18446744073709551616:Nat):Int),.int .u64 ((if x<y+b then 1 else 0:Nat):Int)],?_,.tup rfl fun i d hd=>?_⟩
 ·show (callFunc 255 _).run Tryz.prog w=_
  rw [run_callFunc_extern Tryz.func255 (by kernel_rfl) (by kernel_rfl) (by kernel_rfl) (e:=sub64Entry) (by kernel_rfl),run_sub64 x y b hb];rfl
 ·match i with
  | 0=>simp at hd;subst hd;exact .prim _
  | 1=>simp at hd;subst hd;exact .prim _
  | n+2=>simp at hd
theorem a7x {O:Nat→Prop}{w:World}{v:Value}{vs:Array Value}(hn:vs.size=1)(h:∀ (i:Nat) (x:D),[D.prim v][i]? = some x→Rep nol O w x (vs.getD i undef)):vs = #[v]:=by
 match vs,hn with
 | ⟨[u]⟩,_ =>
  have h0:=h 0 _ rfl;simp at h0;cases h0;rfl
theorem b0K (n:Int)(h0 : -9223372036854775808≤n)(h1:n≤9223372036854775807):a0b C0 183 [i64 n] (str ⟨(Lib.itoa n).toArray⟩):=by
 refine ⟨⟨_,_,Tryz.func183,rfl,by kernel_rfl⟩,fun Y w vs hG hnG hX hvs hr=>?_⟩
 have:=a7x hvs hr
 subst this;refine (Tryz.strconv_Itoa n h0 h1 w hG).mono ?_;rintro e w' ⟨rfl,k,os,rfl⟩;exact ⟨_,_,rfl,Lib.below_grow _ _ (Nat.le_refl _) _ _,rfl,.prim _⟩
theorem b2X (s:ByteArray)(n:Int)(hl:s.size≤18)(h:Lib.atoi s.data.toList=some n):a0b C0 199 [str s] (.tup [i64 n,.prim .nilIface]):=by
 refine ⟨⟨_,_,Tryz.func199,rfl,by kernel_rfl⟩,fun Y w vs hG hnG hX hvs hr=>?_⟩
 have:=a7x hvs hr
 subst this;refine (Tryz.strconv_Atoi s n hl h w).mono ?_;rintro e w' ⟨rfl,t,rfl⟩;exact ⟨_,_,rfl,Joins.below_bytesWorld _ _ _ _ (Nat.le_refl _),rfl,.tup rfl fun i d hd=>by
  match i with
  | 0=>simp at hd;subst hd;exact .prim _
  | 1=>simp at hd;subst hd;exact .prim _
  | n+2=>simp at hd⟩
def b6x (f:Nat)(ds:List D):Option D:=match Nat.beq f 254 with
 | true=>match ds with
  | [.prim (.int .u64 (.ofNat a)),.prim (.int .u64 (.ofNat b)),.prim (.int .u64 (.ofNat c))]=>match Nat.ble c 1 with
   | true=>some (.tup [.prim (.int .u64 (((a+b+c)%18446744073709551616:Nat):Int)),.prim (.int .u64 (((a+b+c) / 18446744073709551616:Nat):Int))])
   | false=>none
  | _=>none
 | false=>match Nat.beq f 255 with
  | true=>match ds with
   | [.prim (.int .u64 (.ofNat a)),.prim (.int .u64 (.ofNat b)),.prim (.int .u64 (.ofNat c))]=>match Nat.ble c 1 with
    | true=>some (.tup [.prim (.int .u64 (((a+18446744073709551616 - b - c)%18446744073709551616:Nat):Int)),.prim (.int .u64 ((if a<b+c then 1 else 0:Nat):Int))])
    | false=>none
   | _=>none
  | false=>match Nat.beq f 296 with
   | true=>match ds with
    | [.prim (.string s),.prim (.int .u8 c)]=>some (.prim (.int .i64 (firstIdx s c.toNat.toUInt8)))
    | _=>none
   | false=>none
theorem a5w (f:Nat)(ds:List D)(d:D)(h:b6x f ds=some d):a4g C0 f ds d:=by
 unfold b6x at h;split at h
 ·rename_i hf
  obtain rfl:=Nat.eq_of_beq_eq_true hf;split at h<;>first|(cases h;done)|skip
  split at h<;>first|(cases h;done)|skip
  rename_i hc;cases h;exact b6E _ _ _ (Nat.le_of_ble_eq_true hc)
 ·split at h
  ·rename_i hf
   obtain rfl:=Nat.eq_of_beq_eq_true hf;split at h<;>first|(cases h;done)|skip
   split at h<;>first|(cases h;done)|skip
   rename_i hc;cases h;exact b9W _ _ _ (Nat.le_of_ble_eq_true hc)
  ·split at h
   ·rename_i hf
    obtain rfl:=Nat.eq_of_beq_eq_true hf;split at h<;>first|(cases h;done)|skip
    cases h;exact b0I _ _
   ·cases h
noncomputable def X1:EV:=⟨tbt.get,xbt.get,fbt.get,fun _=>false,fun _ _=>none,fun _ _=>none,b6x⟩
theorem a4c:a9k C0 X1:=⟨tab,b3Q,ftab,fun _ _ _ h=>by simp [X1] at h,by kernel_rfl,fun _ _ _ h=>by simp [X1] at h,a5w⟩
theorem w1:WOk C0 X1:=a4c.w
theorem wI {z:Int}(h1 : -9223372036854775808≤z)(h2:z≤9223372036854775807):IntKind.i64.wrap z=z:=by
 have e1:(2:Int)^IntKind.i64.bits=18446744073709551616:=rfl;have e2:(2:Int)^(IntKind.i64.bits - 1)=9223372036854775808:=rfl;unfold IntKind.wrap;simp only [e1,e2];have e3:IntKind.i64.signed=true:=rfl;rw [e3];simp only [Bool.true_and,decide_eq_true_eq];split<;>omega
theorem wN {n:Nat}(h:n≤9223372036854775807):IntKind.i64.wrap (n:Int)=n:=wI (by omega) (by omega)
set_option maxRecDepth 20000
theorem b3F (n:Int):a0b C0 156 [i64 n] (smI n):=by
 refine a0c.walk w1 c3l rfl fun F=>?_
 refine fR 0 ?_;refine fR 100 ?_;refine rtI ?_;exact a0a rfl (IsPure.out (d:=smI n))
theorem a4B (z:Int):a0b C0 144 [smI z] (i64 (max (-1) (min 1 z))):=by
 refine a0c.walk w1 b7W rfl fun F=>?_
 refine fR 0 ?_;refine fR 100 ?_;refine rtI ?_;exact a0a rfl IsPure.out
theorem c2H (n:Nat):a0b C0 196 [smI n] (smI n):=by
 refine a0c.walk w1 b4y rfl fun F=>?_
 refine fR 0 ?_;refine OkS.seq ?_;refine fR 100 ?_;refine ifI ?_
 (refine brI (fun h5=>?_) (fun h5=>?_))<;>(try simp only [Bool.not_eq_true',Bool.not_eq_false'] at h5)<;>(try simp only [h5])
 ·have h:(n:Int)<0:=by simpa using h5
  omega
 ·refine skI ?_
  refine fR 300 ?_;refine rtI ?_;exact a0a rfl IsPure.out
theorem a7W (a b:Nat)(hb:0<b)(h1:a≤9223372036854775807)(h2:b≤9223372036854775807):a0b C0 197 [smI a,smI b] (.tup [smI (a / b:Nat),smI (a%b:Nat)]):=by
 refine a0c.walk w1 b4z rfl fun F=>?_
 refine fR 0 ?_;refine OkS.seq ?_;refine sZ 100 ?_
 repeat' (first|(refine And.intro (by exact sdI) ?_;refine dsI ?_)|((refine brI (fun hb=>?_) (fun hb=>?_))<;>(try simp only [Bool.not_eq_true',Bool.not_eq_false'] at hb)<;>(try simp only [hb])<;>(refine dsI ?_)))
 have e0:((a:Int) != -9223372036854775808)=true:=by first|(simp;done)|(simp;omega)
 rw [e0];refine ifI ?_;refine OkS.seq ?_;refine OkS.regD w1 200 [0,1,2,3,4,5,6,7,8,9,10] [11] (by kernel_rfl) ?_;refine nxI ?_;have q1:(a:Int).tdiv b=((a / b:Nat):Int):=rfl;have q2:(a:Int).tmod b=((a%b:Nat):Int):=rfl;have hq:a / b≤9223372036854775807:=Nat.le_trans (Nat.div_le_self a b) h1;simp (disch:=assumption) only [q1,q2,wN];refine OkS.seq ?_;refine fR 300 ?_;refine ifI ?_;have e1:decide (((a%b:Nat):Int)<0)=false:=by first|(simp;done)|(simp;omega)
 rw [e1];refine skI ?_;refine fR 500 ?_;refine rtI ?_;exact a0a rfl IsPure.out
theorem c4s (a b:Nat)(hb:0<b)(h1:a≤9223372036854775807)(h2:b≤9223372036854775807):a0b C0 226 [smI a,smI b] (smI (a / b:Nat)):=by
 refine a0c.walk w1 b4A rfl fun F=>?_
 refine fR 0 ?_;refine OkS.seq ?_;refine fR 100 ?_;refine dI (a4B b) ?_;have e1:decide (max (-1) (min 1 (b:Int))<0)=false:=by first|(simp;done)|(simp;omega)
 rw [e1];refine ifI ?_;refine skI ?_;refine fR 300 ?_;refine dI (a7W a b hb h1 h2) ?_;refine fR 400 ?_;refine rtI ?_;exact a0a rfl IsPure.out
theorem d1j (a b:Nat)(h1:a≤9223372036854775807)(h2:b≤9223372036854775807):a0b C0 127 [smI a,smI b] (smI (Nat.gcd a b:Nat)):=by
 refine a0c.walk w1 b4u rfl fun F=>?_
 refine fR 0 ?_;refine OkS.seq ?_;refine OkS.regD w1 100 [0,1,2] [3,4,5] (by kernel_rfl) ?_;refine nxI ?_;refine a0n.same _ (c2H a) inferInstance ?_;refine nxI ?_;refine dI (c2H b) ?_;refine OkS.seq ?_;refine OkS.block ?_;refine OkS.loop (α:=Nat × Nat × Nat) (fun p=>⟨[(2,.optr 0 0 2 0 0),(3,.optr 1 1 2 0 0),(4,.optr 2 2 2 0 0)],[⟨2,2,112,2,[smI 0]⟩,⟨1,1,112,2,[smI p.2.1]⟩,⟨0,0,112,2,[smI p.1]⟩],p.2.2⟩) (fun p=>p.2.1)
  (fun p=>Nat.gcd p.1 p.2.1=Nat.gcd a b∧p.1≤9223372036854775807∧p.2.1≤9223372036854775807) (a,b,_) ⟨rfl,h1,h2⟩ wkI ?_
 rintro ⟨x,y,n⟩ F ⟨g1,g2,g3⟩;dsimp only at g1 g2 g3 ⊢;refine OkS.seq ?_;refine fR 200 ?_;refine dI (a4B y) ?_;refine ifI ?_
 (refine brI (fun h13=>?_) (fun h13=>?_))<;>(try simp only [Bool.not_eq_true',Bool.not_eq_false'] at h13)<;>(try simp only [h13])
 ·have hy:0<y:=by
   simp at h13;omega
  refine skI ?_;refine OkS.block ?_;refine fR 300 ?_;refine dI (a7W x y hy g2 g3) ?_;refine OkS.regW w1 400 [0,1,2] [3] 2 [0] (0) (by kernel_rfl) (by kernel_rfl) ?_;refine nxI ?_;refine nxI ?_;have hm:x%y<y:=Nat.mod_lt x hy;refine ⟨(y,x%y,_),⟨?_,g3,by dsimp only;omega⟩,hm,wkI⟩;rw [← g1,Nat.gcd_comm x y,Nat.gcd_rec y x,Nat.gcd_comm]
 ·have hy:y=0:=by
   apply Classical.byContradiction;intro h0;simp at h13;omega
  subst hy;refine exI ?_;refine fR 500 ?_;refine rtI ?_;refine a0a ?_ IsPure.out;rw [← g1,Nat.gcd_zero_right]
theorem c5X (a b:Nat)(hb:0<b)(h1:a≤9223372036854775807)(h2:b≤9223372036854775807):a0b C0 179 [smI a,smI b] (smF (a / Nat.gcd a b:Nat) (b / Nat.gcd a b:Nat)):=by
 refine a0c.walk w1 b1P rfl fun F=>?_
 have hg:0<Nat.gcd a b:=Nat.gcd_pos_of_pos_right a hb;have hgl:Nat.gcd a b≤b:=Nat.gcd_le_right a hb;refine fR 0 ?_;refine OkS.seq ?_;refine fR 100 ?_;refine dI (a4B b) ?_;have e1:decide (max (-1) (min 1 (b:Int))<0)=false:=by first|(simp;done)|(simp;omega)
 rw [e1];refine ifI ?_;refine skI ?_;refine OkS.seq ?_;refine sZ 300 ?_
 repeat' (first|(refine And.intro (by exact sdI) ?_;refine dsI ?_)|((refine brI (fun hb=>?_) (fun hb=>?_))<;>(try simp only [Bool.not_eq_true',Bool.not_eq_false'] at hb)<;>(try simp only [hb])<;>(refine dsI ?_)))
 refine ifI ?_
 (refine brI (fun hb1=>?_) (fun hb1=>?_))<;>(try simp only [Bool.not_eq_true',Bool.not_eq_false'] at hb1)<;>(try simp only [hb1])
 ·have hb1:b=1:=by
   have:(b:Int)=1:=by simpa using hb1
   omega
  subst hb1;refine fR 400 ?_;refine rtI ?_;refine a0a ?_ IsPure.out;rw [Nat.gcd_one_right,Nat.div_one]
 ·refine skI ?_
  refine fR 500 ?_;refine dI (d1j a b h1 h2) ?_;refine OkS.seq ?_;refine OkS.regD w1 600 [0,1,2,3,4] [5,6,7] (by kernel_rfl) ?_;refine nxI ?_;refine a0n.same _ (c4s a (Nat.gcd a b) hg h1 (Nat.le_trans hgl h2)) inferInstance ?_;refine nxI ?_;refine dI (c4s b (Nat.gcd a b) hg h2 (Nat.le_trans hgl h2)) ?_;refine rtI ?_;exact a0a rfl IsPure.out
theorem a2G (n a b:Nat)(hb:0<b)(h1:n*a≤9223372036854775807)(h2:b≤9223372036854775807):a0b C0 110 [i64 n,i64 a,i64 b] (smF (n*a / Nat.gcd (n*a) b:Nat) (b / Nat.gcd (n*a) b:Nat)):=by
 refine a0c.walk w1 c2W rfl fun F=>?_
 refine fR 0 ?_;refine fR 100 ?_;have e1:(n:Int)*(a:Int)=((n*a:Nat):Int):=by simp
 rw [e1,wN h1];refine dI (b3F (n*a:Nat)) ?_;refine dI (b3F b) ?_;refine dI (c5X (n*a) b hb h1 h2) ?_;refine rtI ?_;exact a0a rfl IsPure.out
theorem a3B (a b:Int):a0b C0 114 [smF a b] (boo (b==1)):=by
 refine a0c.walk w1 b7R rfl fun F=>?_
 refine fR 0 ?_;refine sZ 100 ?_
 repeat' (first|(refine And.intro (by exact sdI) ?_;refine dsI ?_)|((refine brI (fun hb=>?_) (fun hb=>?_))<;>(try simp only [Bool.not_eq_true',Bool.not_eq_false'] at hb)<;>(try simp only [hb])<;>(refine dsI ?_)))
 refine rtI ?_;exact a0a rfl IsPure.out
theorem a8W (n:Int)(h0 : -9223372036854775808≤n)(h1:n≤9223372036854775807):a0b C0 115 [smI n] (str ⟨(Lib.itoa n).toArray⟩):=by
 refine a0c.walk w1 b7S rfl fun F=>?_
 refine fR 0 ?_;refine OkS.seq ?_;refine fR 100 ?_;refine ifI ?_;refine fR 200 ?_;refine dI (b0K n h0 h1) ?_;refine rtI ?_;exact a0a rfl IsPure.out
theorem a0R:∀ (k u:Nat),u<10^(k+1)→(Lib.decDigits u).length≤k+1
 | 0,u,h=>by
  unfold Lib.decDigits;rw [dif_pos (by simpa using h)];simp
 | k+1,u,h=>by
  unfold Lib.decDigits;split
  ·simp
  ·rw [List.length_append]
   have:=a0R k (u / 10) (by
    rw [Nat.pow_succ] at h;omega)
   simp only [List.length_cons,List.length_nil];omega
theorem b0J (n:Int)(h0 : -9223372036854775808≤n)(h1:n≤9223372036854775807):(Lib.itoa n).length≤20:=by
 unfold Lib.itoa;split
 ·have:=a0R 18 n.natAbs (by omega)
  simp only [List.length_cons];omega
 ·have:=a0R 18 n.toNat (by omega)
  omega
theorem a3v (a b:List UInt8):(⟨a.toArray⟩:ByteArray)++⟨b.toArray⟩=⟨(a++b).toArray⟩:=by
 apply ByteArray.ext;simp [ByteArray.data_append]
theorem a5q (l:List UInt8):(⟨l.toArray⟩:ByteArray).size=l.length:=by simp [ByteArray.size]
def c0d (a b:Int):List UInt8:=if b=1 then Lib.itoa a else Lib.itoa a++47::Lib.itoa b
theorem c6T (a b:Int)(ha0 : -9223372036854775808≤a)(ha1:a≤9223372036854775807)(hb0 : -9223372036854775808≤b)(hb1:b≤9223372036854775807):a0b C0 50 [smF a b] (str ⟨(c0d a b).toArray⟩):=by
 refine a0c.walk w1 c5D rfl fun F=>?_
 refine fR 0 ?_;refine OkS.seq ?_;refine fR 100 ?_;refine dI (a3B a b) ?_;refine ifI ?_
 (refine brI (fun h=>?_) (fun h=>?_))<;>(try simp only [Bool.not_eq_true',Bool.not_eq_false'] at h)<;>(try simp only [h])
 ·have h:b=1:=by simpa using h
  refine fR 200 ?_;refine dI (a8W a ha0 ha1) ?_;refine rtI ?_;refine a0a ?_ IsPure.out;unfold c0d;rw [if_pos h]
 ·have h:¬ b=1:=by simpa using h
  refine skI ?_;refine OkS.seq ?_;refine OkS.regD w1 300 [0,1,2,3,4,5,6] [7,8] (by kernel_rfl) ?_;refine nxI ?_;have ea:=b0J a ha0 ha1;have eb:=b0J b hb0 hb1;have sa:(⟨(Lib.itoa a).toArray⟩:ByteArray).size≤20:=by rw [a5q];exact ea
  have sb:(⟨(Lib.itoa b).toArray⟩:ByteArray).size≤20:=by rw [a5q];exact eb
  have s1:(⟨#[47]⟩:ByteArray).size=1:=rfl;have sc:((⟨(Lib.itoa a).toArray⟩:ByteArray)++⟨#[47]⟩).size=(⟨(Lib.itoa a).toArray⟩:ByteArray).size+(⟨#[47]⟩:ByteArray).size:=ByteArray.size_append;refine a0n.same _ (a8W a ha0 ha1) inferInstance ?_;refine nxI ?_;refine a0n.same _ (a8W b hb0 hb1) inferInstance ?_;refine nxI ?_;refine rtI ?_;refine a0a ?_ IsPure.out;unfold c0d;rw [if_neg h];have e47:(⟨#[47]⟩:ByteArray)=⟨([47]:List UInt8).toArray⟩:=rfl;rw [e47,a3v,a3v];simp
theorem c6y (a b:Nat)(ha:a≤9223372036854775807)(hb:b≤9223372036854775807):a0b C0 85 [i64 a,i64 b] (i64 (Nat.gcd a b:Nat)):=by
 refine a0c.walk w1 d3J rfl fun F=>?_
 refine fR 0 ?_;refine OkS.seq ?_;refine OkS.block ?_;refine OkS.loop (α:=Nat × Nat × Nat) (fun p=>⟨[(0,i64 p.1),(1,i64 p.2.1)],[],p.2.2⟩) (fun p=>p.2.1) (fun p=>Nat.gcd p.1 p.2.1=Nat.gcd a b∧p.1≤9223372036854775807∧p.2.1≤9223372036854775807) (a,b,_) ⟨rfl,ha,hb⟩ wkI ?_;rintro ⟨x,y,n⟩ F ⟨h1,h2,h3⟩;dsimp only at h1 h2 h3 ⊢;refine OkS.seq ?_;refine fR 100 ?_;refine ifI ?_
 (refine brI (fun hy=>?_) (fun hy=>?_))<;>(try simp only [Bool.not_eq_true',Bool.not_eq_false'] at hy)<;>(try simp only [hy])
 ·have hy':(y:Int)>0:=by simpa using hy
  refine skI ?_;refine OkS.block ?_;refine OkS.regD w1 200 [0,1,2,3,4] [5] (by kernel_rfl) ?_;refine nxI ?_
  have:(x:Int).tmod y=((x%y:Nat):Int):=rfl
  rw [this];refine ⟨(y,x%y,_),⟨?_,h3,?_⟩,?_,wkI⟩
  ·rw [← h1,Nat.gcd_comm x y,Nat.gcd_rec y x,Nat.gcd_comm]
  ·have:=Nat.mod_lt x (show y>0 by omega);dsimp only;omega
  ·exact Nat.mod_lt x (show y>0 by omega)
 ·have hy':y=0:=by simp at hy;omega
  subst hy';refine exI ?_;refine fR 300 ?_;refine rtI ?_;refine a0a ?_ IsPure.out;rw [← h1,Nat.gcd_zero_right]
def c6n (least:Nat)(l:List UInt8):List UInt8:=List.replicate (least - l.length) 48++l
def a2f (least m:Nat)(s:List UInt8):List UInt8:=c6n least (if m=0 then s else Lib.decDigits m++s)
theorem a7U (least m:Nat)(s:List UInt8)(h:0<m∨s.length<least):a2f least (m / 10) (UInt8.ofNat (48+m%10)::s)=a2f least m s:=by
 unfold a2f
 by_cases h0:m=0
 ·subst h0
  have hl:s.length<least:=h.resolve_left (by omega);rw [if_pos (by omega),if_pos rfl];unfold c6n;obtain ⟨k,hk⟩:∃ k,least - s.length=k+1:=⟨least - s.length - 1,by omega⟩
  rw [hk,show least - (UInt8.ofNat (48+0%10)::s).length=k from by simp;omega,List.replicate_succ'];simp
 ·rw [if_neg h0]
  by_cases h1:m<10
  ·rw [if_pos (by omega)]
   have:Lib.decDigits m=[UInt8.ofNat (48+m)]:=by unfold Lib.decDigits;rw [dif_pos h1]
   rw [this,show m%10=m from by omega];rfl
  ·rw [if_neg (by omega)]
   have:Lib.decDigits m=Lib.decDigits (m / 10)++[UInt8.ofNat (48+m%10)]:=by rw [Lib.decDigits];rw [dif_neg h1]
   rw [this,List.append_assoc];rfl
theorem c0Z (k:Nat)(hk:k<10):(⟨#[48,49,50,51,52,53,54,55,56,57]⟩:ByteArray).extract k (k+1)=⟨([UInt8.ofNat (48+k)]:List UInt8).toArray⟩:=by
 match k,hk with
 | 0,_=>rfl
 | 1,_=>rfl
 | 2,_=>rfl
 | 3,_=>rfl
 | 4,_=>rfl
 | 5,_=>rfl
 | 6,_=>rfl
 | 7,_=>rfl
 | 8,_=>rfl
 | 9,_=>rfl
theorem a4M (a least:Nat)(ha:a+least≤9223372036854775807):a0b C0 86 [i64 a,i64 least] (str ⟨(a2f least a []).toArray⟩):=by
 refine a0c.walk w1 d3K rfl fun F=>?_
 refine fR 0 ?_;refine fR 100 ?_;refine OkS.seq ?_;refine OkS.block ?_;refine OkS.loop (α:=Nat × List UInt8 × Nat) (fun p=>⟨[(0,i64 p.1),(1,i64 least),(5,str ⟨p.2.1.toArray⟩)],[],p.2.2⟩) (fun p=>p.1+(least - p.2.1.length))
  (fun p=>a2f least p.1 p.2.1=a2f least a []∧p.1+p.2.1.length≤a+least) (a,[],_) ⟨rfl,by simp⟩ wkI ?_
 rintro ⟨m,s,n⟩ F ⟨h1,h2⟩;dsimp only at h1 h2 ⊢;have hsz:=a5q s;refine OkS.seq ?_;refine OkS.seqW ⟨[(0,i64 m),(1,i64 least),(5,str ⟨s.toArray⟩),(13,boo (decide ((m:Int)>0)||decide ((s.length:Int)<least)))],[],n+30⟩ (OkS.reg w1 200 (by kernel_rfl) ?_) ?_
 ·repeat' (first|(refine And.intro (by exact sdI) ?_;refine dsI ?_)|((refine brI (fun hb=>?_) (fun hb=>?_))<;>(try simp only [Bool.not_eq_true',Bool.not_eq_false'] at hb)<;>(try simp only [hb])<;>(refine dsI ?_)))
  all_goals exact wkI
 refine ifI ?_
 (refine brI (fun hc=>?_) (fun hc=>?_))<;>(try simp only [Bool.not_eq_true',Bool.not_eq_false'] at hc)<;>(try simp only [hc])
 ·have hc:0<m∨s.length<least:=by
   simp at hc;omega
  refine skI ?_;refine OkS.block ?_;refine OkS.seq ?_;have hm:(m:Int).tmod 10=((m%10:Nat):Int):=rfl;have e2:IntKind.i64.wrap (((m%10:Nat):Int)+1)=((m%10+1:Nat):Int):=wI (by omega) (by omega);have hd:=c0Z (m%10) (by omega);have hs1:(⟨([UInt8.ofNat (48+m%10)]:List UInt8).toArray⟩:ByteArray).size=1:=rfl;have hlen:s.length+1≤9223372036854775807:=by omega
  have hs10:(⟨#[48,49,50,51,52,53,54,55,56,57]⟩:ByteArray).size=10:=rfl;refine OkS.reg w1 300 (by kernel_rfl) ?_;refine mwI (ff4 hm e2 kN hd) ?_;refine fI 400 ?_;have hm4:(m:Int).tdiv 10=((m / 10:Nat):Int):=rfl;have hm5:m / 10≤9223372036854775807:=by omega
  rw [hm4,wN hm5,a3v,List.cons_append,List.nil_append];refine ⟨(m / 10,UInt8.ofNat (48+m%10)::s,_),⟨(a7U least m s hc).trans h1,?_⟩,?_,wkI⟩
  ·simp only [List.length_cons];omega
  ·simp only [List.length_cons];omega
 ·have hc:m=0∧least≤s.length:=by
   simp at hc;omega
  obtain ⟨rfl,hl⟩:=hc;refine exI ?_;refine fR 500 ?_;refine rtI ?_;refine a0a ?_ IsPure.out;rw [← h1];unfold a2f c6n;rw [if_pos rfl,Nat.sub_eq_zero_of_le hl];rfl
theorem b7f (a:Nat):a2f 1 a []=Lib.decDigits a:=by
 unfold a2f c6n
 by_cases h:a=0
 ·subst h
  have:Lib.decDigits 0=[48]:=by unfold Lib.decDigits;rw [dif_pos (by decide)];rfl
  rw [if_pos rfl,this];rfl
 ·rw [if_neg h,List.append_nil]
  have:(Lib.decDigits a).length≠0:=by
   unfold Lib.decDigits;split<;>simp
  rw [show 1 - (Lib.decDigits a).length=0 from by omega];rfl
theorem a2s (b:Bool)(e:Int):a0b C0 48 [boo b,i64 e] (i64 (if b then e else 0)):=by
 refine a0c.walk w1 d0N rfl fun F=>?_
 refine fR 0 ?_;refine OkS.seq ?_;refine fR 100 ?_;cases b
 ·refine ifI ?_
  refine skI ?_;refine fR 300 ?_;refine rtI ?_;exact a0a rfl IsPure.out
 ·refine ifI ?_
  refine fR 200 ?_;refine rtI ?_;exact a0a rfl IsPure.out
def a4A (l w:Int):Bool:=decide (l<1)||decide (l>100000)||decide (w<1)||decide (w>100000)
theorem b5o (l w:Int):a0b C0 49 [i64 l,i64 w] (i64 (if a4A l w then 3 else 0)):=by
 refine a0c.walk w1 d0O rfl fun F=>?_
 refine fR 0 ?_;refine OkS.seq ?_;unfold a4A;obtain ⟨b1,e1⟩:∃ b,decide (l<1)=b:=⟨_,rfl⟩
 obtain ⟨b2,e2⟩:∃ b,decide (l>100000)=b:=⟨_,rfl⟩
 obtain ⟨b3,e3⟩:∃ b,decide (w<1)=b:=⟨_,rfl⟩
 obtain ⟨b4,e4⟩:∃ b,decide (w>100000)=b:=⟨_,rfl⟩
 rw [e1,e2,e3,e4];rcases b1 with _|_<;>rcases b2 with _|_<;>rcases b3 with _|_<;>rcases b4 with _|_
 all_goals
  refine OkS.reg w1 100 (by kernel_rfl) ?_
  repeat' (first|(refine And.intro (by exact sdI) ?_;(refine dsI ?_);(try simp only [a6k,b0w,e1,e2,e3,e4]))|((refine brI (fun hb=>?_) (fun hb=>?_))<;>(try simp only [Bool.not_eq_true',Bool.not_eq_false'] at hb)<;>(try simp only [hb])<;>(refine dsI ?_)))
  refine dI (a2s _ 3) ?_;refine rtI ?_;exact a0a rfl IsPure.out
theorem b9y (l w:Int):a0b C0 51 [i64 l,i64 w] (i64 (if a4A l w then 3 else 0)):=by
 refine a0c.walk w1 d3w rfl fun F=>?_
 refine fR 0 ?_;refine OkS.seq ?_;unfold a4A;obtain ⟨b1,e1⟩:∃ b,decide (l<1)=b:=⟨_,rfl⟩
 obtain ⟨b2,e2⟩:∃ b,decide (l>100000)=b:=⟨_,rfl⟩
 obtain ⟨b3,e3⟩:∃ b,decide (w<1)=b:=⟨_,rfl⟩
 obtain ⟨b4,e4⟩:∃ b,decide (w>100000)=b:=⟨_,rfl⟩
 rw [e1,e2,e3,e4];rcases b1 with _|_<;>rcases b2 with _|_<;>rcases b3 with _|_<;>rcases b4 with _|_
 all_goals
  refine sZ 100 ?_
  repeat' (first|(refine And.intro (by exact sdI) ?_;(refine dsI ?_);(try simp only [a6k,b0w,e1,e2,e3,e4]))|((refine brI (fun hb=>?_) (fun hb=>?_))<;>(try simp only [Bool.not_eq_true',Bool.not_eq_false'] at hb)<;>(try simp only [hb])<;>(refine dsI ?_)))
  refine ifI ?_
 ·refine skI ?_
  refine fR 300 ?_;refine rtI ?_;exact a0a rfl IsPure.out
 all_goals
  refine fR 200 ?_;refine rtI ?_;exact a0a rfl IsPure.out
def a7a (K g sz:Nat):List D→D
 | []=>a2d
 | _::l=>.osl K g sz 0 (l.length+1)
def a6g (K g T sz:Nat):List D→Hp
 | []=>[]
 | x::l=>[⟨K,g,T,sz,x::l⟩]
theorem a1A (K g sz:Nat):a7a K g sz []=a2d:=rfl
theorem a1j (K g sz:Nat)(x:D)(l:List D):a7a K g sz (x::l)=.osl K g sz 0 (l.length+1):=rfl
theorem a1B (K g T sz:Nat):a6g K g T sz []=[]:=rfl
theorem a1k (K g T sz:Nat)(x:D)(l:List D):a6g K g T sz (x::l)=[⟨K,g,T,sz,x::l⟩]:=rfl
theorem a2e (K g sz:Nat)(x y:D)(l:List D):a7a K g sz (x::l++[y])=.osl K g sz 0 (l.length+1+1):=by simp [a7a]
theorem a6L (K g T sz:Nat)(l:List D):Fz (a6g K g T sz l) [] (a7a K g sz l) (.sl false sz l):=by
 cases l with
 | nil=>exact .nil sz
 | cons x l =>
  refine .osl (e:=⟨K,g,T,sz,x::l⟩) (by simp [a6g,Hp.get]) rfl rfl rfl (by simp) (by simp) (fun j d d' h1 h2=>?_) fun j d d' q c c' h1 h2 h3 h4=>?_
  ·rw [Nat.zero_add] at h1;rw [h1] at h2;cases h2;rfl
  ·rw [Nat.zero_add] at h1;rw [h1] at h2;cases h2;rw [h3] at h4;cases h4;exact Fz.refl _
def spot (a b c d:Nat):D:=.agg [i64 (a / Nat.gcd a b:Nat),a2d,i64 (b / Nat.gcd a b:Nat),a2d,i64 (c / Nat.gcd c d:Nat),a2d,i64 (d / Nat.gcd c d:Nat),a2d]
instance  (a b c d:Nat):CellsPure (spot a b c d):=by unfold spot;exact inferInstance
theorem d2Q (n L W:Nat)(hn:n≤64)(hL:L≤100000)(hW:W≤100000):a0b C0 109 [i64 n,i64 L,i64 W] (.sl false 8 ((List.range n).map fun i=>spot (L*(2*i+1)) (2*n) (W*1) 2)):=by
 refine a0c.walk w1 c2V rfl fun F=>?_
 refine fR 0 ?_;refine fR 100 ?_;refine OkS.seq ?_;refine fR 200 ?_;refine OkS.block ?_;refine OkS.loop (α:=Nat × List D × Nat × Nat) (fun p=>⟨[(0,i64 n),(1,i64 L),(2,i64 W),(7,a7a 512 p.2.2.1 8 p.2.1),(9,i64 n),(10,i64 p.1)],a6g 512 p.2.2.1 116 8 p.2.1,p.2.2.2⟩) (fun p=>n - p.1)
  (fun p=>p.1≤n∧p.2.1=(List.range p.1).map fun i=>spot (L*(2*i+1)) (2*n) (W*1) 2) (0,[],0,_) ⟨Nat.zero_le _,rfl⟩ wkI ?_
 rintro ⟨i,l,g,m⟩ F ⟨h1,h2⟩;dsimp only at h1 h2 ⊢;refine fR 300 ?_;refine OkS.seq ?_;refine ifI ?_
 (refine brI (fun hc=>?_) (fun hc=>?_))<;>(try simp only [Bool.not_eq_true',Bool.not_eq_false'] at hc)<;>(try simp only [hc])
 ·have hi:i<n:=by simpa using hc
  refine skI ?_;refine OkS.seq ?_;refine OkS.block ?_;refine fR 400 ?_;have a1:IntKind.i64.wrap (IntKind.i64.wrap (2*(i:Int))+1)=((2*i+1:Nat):Int):=by rw [wI (z:=2*(i:Int)) (by omega) (by omega),wI (by omega) (by omega)];omega
  have a2:IntKind.i64.wrap (2*(n:Int))=((2*n:Nat):Int):=by rw [wI (by omega) (by omega)];omega
  have b1:L*(2*i+1)≤100000*129:=Nat.mul_le_mul hL (by omega);have c1:=a2G L (2*i+1) (2*n) (by omega) (by omega) (by omega);have c2:=a2G W 1 2 (by omega) (by omega) (by omega);have hln:l.length=i:=by rw [h2];simp
  have hl2:l++[spot (L*(2*i+1)) (2*n) (W*1) 2]=(List.range (i+1)).map fun i=>spot (L*(2*i+1)) (2*n) (W*1) 2:=by
   rw [h2,List.range_succ,List.map_append];rfl
  clear h2;have hle:l.length≤64:=by omega
  rcases l with _|⟨x,l⟩
  all_goals
   (try simp only [List.length_cons] at hle)
   dsimp only [a1A,a1B,a1j,a1k];refine OkS.reg w1 500 (by kernel_rfl) ?_;refine mwI (ff2 a1 a2) ?_;refine dI c1 ?_;refine dI c2 ?_
  ·refine fI 600 ?_
   have a3:IntKind.i64.wrap ((i:Int)+1)=((i+1:Nat):Int):=wI (by omega) (by omega);rw [a3];refine ⟨(i+1,_,_,_),⟨hi,hl2⟩,?_,wkI⟩;dsimp only;omega
  ·refine fI 600 ?_
   have a3:IntKind.i64.wrap ((i:Int)+1)=((i+1:Nat):Int):=wI (by omega) (by omega);rw [a3];have htk:List.take (l.length+1) (x::l)=x::l:=by simp
   rw [htk];refine ⟨(i+1,x::l++[spot (L*(2*i+1)) (2*n) (W*1) 2],_,_),⟨hi,hl2⟩,by (dsimp only;omega),by (dsimp only;rw [a2e];exact wkI)⟩
 ·have hi:i=n:=by
   have:¬ i<n:=by simpa using hc
   omega
  subst hi;refine exI ?_;refine fR 700 ?_;refine rtI ?_;subst h2;exact ⟨_,a6L _ _ _ _ _,IsPure.out,rfl⟩
theorem d2T (n L W:Nat)(hn:n≤64)(hL:L≤100000)(hW:W≤100000):a0b C0 111 [i64 n,i64 L,i64 W] (.sl false 8 ((List.range n).map fun i=>spot (L*(2*i+1)) (2*n) (W*(1+i%2)) 3)):=by
 refine a0c.walk w1 c2X rfl fun F=>?_
 refine fR 0 ?_;refine fR 100 ?_;refine OkS.seq ?_;refine fR 200 ?_;refine OkS.block ?_;refine OkS.loop (α:=Nat × List D × Nat × Nat) (fun p=>⟨[(0,i64 n),(1,i64 L),(2,i64 W),(7,a7a 515 p.2.2.1 8 p.2.1),(9,i64 n),(10,i64 p.1)],a6g 515 p.2.2.1 116 8 p.2.1,p.2.2.2⟩) (fun p=>n - p.1)
  (fun p=>p.1≤n∧p.2.1=(List.range p.1).map fun i=>spot (L*(2*i+1)) (2*n) (W*(1+i%2)) 3) (0,[],0,_) ⟨Nat.zero_le _,rfl⟩ wkI ?_
 rintro ⟨i,l,g,m⟩ F ⟨h1,h2⟩;dsimp only at h1 h2 ⊢;refine fR 300 ?_;refine OkS.seq ?_;refine ifI ?_
 (refine brI (fun hc=>?_) (fun hc=>?_))<;>(try simp only [Bool.not_eq_true',Bool.not_eq_false'] at hc)<;>(try simp only [hc])
 ·have hi:i<n:=by simpa using hc
  refine skI ?_;refine OkS.seq ?_;refine OkS.block ?_;refine fR 400 ?_;have a1:IntKind.i64.wrap (IntKind.i64.wrap (2*(i:Int))+1)=((2*i+1:Nat):Int):=by rw [wI (z:=2*(i:Int)) (by omega) (by omega),wI (by omega) (by omega)];omega
  have a2:IntKind.i64.wrap (2*(n:Int))=((2*n:Nat):Int):=by rw [wI (by omega) (by omega)];omega
  have a4:(i:Int).tmod 2=((i%2:Nat):Int):=rfl;have a5:IntKind.i64.wrap (1+((i%2:Nat):Int))=((1+i%2:Nat):Int):=by rw [wI (by omega) (by omega)];omega
  have b2:W*(1+i%2)≤100000*2:=Nat.mul_le_mul hW (by omega);have b1:L*(2*i+1)≤100000*129:=Nat.mul_le_mul hL (by omega);have c1:=a2G L (2*i+1) (2*n) (by omega) (by omega) (by omega);have c2:=a2G W (1+i%2) 3 (by omega) (by omega) (by omega);have hln:l.length=i:=by rw [h2];simp
  have hl2:l++[spot (L*(2*i+1)) (2*n) (W*(1+i%2)) 3]=(List.range (i+1)).map fun i=>spot (L*(2*i+1)) (2*n) (W*(1+i%2)) 3:=by
   rw [h2,List.range_succ,List.map_append];rfl
  clear h2;have hle:l.length≤64:=by omega
  rcases l with _|⟨x,l⟩
  all_goals
   (try simp only [List.length_cons] at hle)
   dsimp only [a1A,a1B,a1j,a1k];refine OkS.reg w1 500 (by kernel_rfl) ?_;refine mwI (ff2 a1 a2) ?_;refine dI c1 ?_;rw [a4,a5];refine dI c2 ?_
  ·refine fI 600 ?_
   have a3:IntKind.i64.wrap ((i:Int)+1)=((i+1:Nat):Int):=wI (by omega) (by omega);rw [a3];refine ⟨(i+1,_,_,_),⟨hi,hl2⟩,?_,wkI⟩;dsimp only;omega
  ·refine fI 600 ?_
   have a3:IntKind.i64.wrap ((i:Int)+1)=((i+1:Nat):Int):=wI (by omega) (by omega);rw [a3];have htk:List.take (l.length+1) (x::l)=x::l:=by simp
   rw [htk];refine ⟨(i+1,x::l++[spot (L*(2*i+1)) (2*n) (W*(1+i%2)) 3],_,_),⟨hi,hl2⟩,by (dsimp only;omega),by (dsimp only;rw [a2e];exact wkI)⟩
 ·have hi:i=n:=by
   have:¬ i<n:=by simpa using hc
   omega
  subst hi;refine exI ?_;refine fR 700 ?_;refine rtI ?_;subst h2;exact ⟨_,a6L _ _ _ _ _,IsPure.out,rfl⟩
instance  {α:Type}(f:α→List D)(l:List α)[h:∀ x,ElemsPure (f x)]:ElemsPure (l.flatMap f):=⟨fun e he=>by
 obtain ⟨x,_,hx⟩:=List.mem_flatMap.1 he;exact (h x).out e hx⟩
def a5t (n L W i:Nat)(k:Nat):List D:=(List.range k).map fun k=>spot (L*(2*i+1)) (2*n) (W*(2*k+1)) (2*n)
instance  (n L W i k:Nat):ElemsPure (a5t n L W i k):=by unfold a5t;exact inferInstance
theorem b4F (n L W i k:Nat):(a5t n L W i k).length=k:=by simp [a5t]
theorem c1r (n L W i:Nat):((List.range i).flatMap fun i=>a5t n L W i n).length=i*n:=by
 induction i with
 | zero=>simp
 | succ i ih=>rw [List.range_succ,List.flatMap_append,List.length_append,ih];simp [b4F];rw [Nat.succ_mul]
theorem d2V (n L W:Nat)(hn:n≤64)(hL:L≤100000)(hW:W≤100000):a0b C0 112 [i64 n,i64 L,i64 W] (.sl false 8 ((List.range n).flatMap fun i=>a5t n L W i n)):=by
 refine a0c.walk w1 c2Y rfl fun F=>?_
 refine fR 0 ?_;refine fR 100 ?_;refine OkS.seq ?_;refine fR 200 ?_;refine OkS.block ?_;refine OkS.loop (α:=Nat × List D × Nat × Nat) (fun p=>⟨[(0,i64 n),(1,i64 L),(2,i64 W),(7,a7a 817 p.2.2.1 8 p.2.1),(10,i64 n),(11,i64 p.1)],a6g 817 p.2.2.1 116 8 p.2.1,p.2.2.2⟩) (fun p=>n - p.1)
  (fun p=>p.1≤n∧p.2.1=(List.range p.1).flatMap fun i=>a5t n L W i n) (0,[],0,_) ⟨Nat.zero_le _,rfl⟩ wkI ?_
 rintro ⟨i,l,g,m⟩ F ⟨h1,h2⟩;dsimp only at h1 h2 ⊢;refine fR 300 ?_;refine OkS.seq ?_;refine ifI ?_
 (refine brI (fun hc=>?_) (fun hc=>?_))<;>(try simp only [Bool.not_eq_true',Bool.not_eq_false'] at hc)<;>(try simp only [hc])
 ·have hi:i<n:=by simpa using hc
  refine skI ?_;refine OkS.seq ?_;refine OkS.block ?_;refine fR 400 ?_;refine fR 500 ?_;refine OkS.block ?_;refine OkS.loop (α:=Nat × List D × Nat × Nat) (fun p=>⟨[(0,i64 n),(1,i64 L),(2,i64 W),(7,a7a 817 p.2.2.1 8 p.2.1),(8,i64 i),(10,i64 n),(11,i64 i),(14,i64 n),(15,i64 p.1)],a6g 817 p.2.2.1 116 8 p.2.1,p.2.2.2⟩) (fun p=>n - p.1)
   (fun p=>p.1≤n∧p.2.1=((List.range i).flatMap fun i=>a5t n L W i n)++a5t n L W i p.1) (0,l,g,_) ⟨Nat.zero_le _,by simpa [a5t] using h2⟩ wkI ?_
  clear h2;rintro ⟨k,l,g,m⟩ F ⟨h3,h2⟩;dsimp only at h3 h2 ⊢;refine fR 600 ?_;refine OkS.seq ?_;refine ifI ?_
  (refine brI (fun hd=>?_) (fun hd=>?_))<;>(try simp only [Bool.not_eq_true',Bool.not_eq_false'] at hd)<;>(try simp only [hd])
  ·have hk:k<n:=by simpa using hd
   refine skI ?_;refine OkS.seq ?_;refine OkS.block ?_;refine fR 700 ?_;have a1:IntKind.i64.wrap (IntKind.i64.wrap (2*(i:Int))+1)=((2*i+1:Nat):Int):=by rw [wI (z:=2*(i:Int)) (by omega) (by omega),wI (by omega) (by omega)];omega
   have a4:IntKind.i64.wrap (IntKind.i64.wrap (2*(k:Int))+1)=((2*k+1:Nat):Int):=by rw [wI (z:=2*(k:Int)) (by omega) (by omega),wI (by omega) (by omega)];omega
   have a2:IntKind.i64.wrap (2*(n:Int))=((2*n:Nat):Int):=by rw [wI (by omega) (by omega)];omega
   have b1:L*(2*i+1)≤100000*129:=Nat.mul_le_mul hL (by omega);have b2:W*(2*k+1)≤100000*129:=Nat.mul_le_mul hW (by omega);have c1:=a2G L (2*i+1) (2*n) (by omega) (by omega) (by omega);have c2:=a2G W (2*k+1) (2*n) (by omega) (by omega) (by omega);have hin:i*n≤64*64:=Nat.mul_le_mul (by omega) hn;have hln:l.length=i*n+k:=by rw [h2,List.length_append,c1r,b4F]
   have hl2:l++[spot (L*(2*i+1)) (2*n) (W*(2*k+1)) (2*n)]=((List.range i).flatMap fun i=>a5t n L W i n)++a5t n L W i (k+1):=by
    rw [h2,List.append_assoc]
    congr 1
    unfold a5t;rw [List.range_succ,List.map_append];rfl
   clear h2;have hle:l.length≤5000:=by omega
   rcases l with _|⟨x,l⟩
   all_goals
    (try simp only [List.length_cons] at hle)
    dsimp only [a1A,a1B,a1j,a1k];refine OkS.reg w1 800 (by kernel_rfl) ?_;refine mwI (ff2 a1 a2) ?_;refine dI c1 ?_;rw [a4,a2];refine dI c2 ?_
   ·refine fI 900 ?_
    have a3:IntKind.i64.wrap ((k:Int)+1)=((k+1:Nat):Int):=wI (by omega) (by omega);rw [a3];refine ⟨(k+1,_,_,_),⟨hk,hl2⟩,?_,wkI⟩;dsimp only;omega
   ·refine fI 900 ?_
    have a3:IntKind.i64.wrap ((k:Int)+1)=((k+1:Nat):Int):=wI (by omega) (by omega);rw [a3];have htk:List.take (l.length+1) (x::l)=x::l:=by simp
    rw [htk];refine ⟨(k+1,x::l++[spot (L*(2*i+1)) (2*n) (W*(2*k+1)) (2*n)],_,_),⟨hk,hl2⟩,by (dsimp only;omega),by (dsimp only;rw [a2e];exact wkI)⟩
  ·have hk:k=n:=by
    have:¬ k<n:=by simpa using hd
    omega
   subst hk;refine exI ?_;have a3:IntKind.i64.wrap ((i:Int)+1)=((i+1:Nat):Int):=wI (by omega) (by omega);refine OkS.reg w1 1000 (by kernel_rfl) ?_;refine mwI a3 ?_;refine ⟨(i+1,l,g,_),⟨hi,?_⟩,?_,wkI⟩
   ·rw [h2,List.range_succ,List.flatMap_append];simp
   ·dsimp only;omega
 ·have hi:i=n:=by
   have:¬ i<n:=by simpa using hc
   omega
  subst hi;refine exI ?_;refine fR 1100 ?_;refine rtI ?_;subst h2;exact ⟨_,a6L _ _ _ _ _,IsPure.out,rfl⟩
def b6u (L W:Nat):List D:=[spot (L*1) 4 (W*1) 4,spot (L*1) 4 (W*3) 4,spot (L*2) 4 (W*2) 4,spot (L*3) 4 (W*1) 4,spot (L*3) 4 (W*3) 4]
instance  (L W:Nat):ElemsPure (b6u L W):=by unfold b6u;exact inferInstance
theorem d2W (n L W:Nat)(hL:L≤100000)(hW:W≤100000):a0b C0 113 [i64 n,i64 L,i64 W] (.sl false 8 (b6u L W)):=by
 refine a0c.walk w1 c2Z rfl fun F=>?_
 refine fR 0 ?_;refine fR 100 ?_;refine OkS.seq ?_;refine fR 200 ?_;refine OkS.block ?_;refine OkS.loop (α:=Nat × Nat × Nat) (fun p=>⟨[(1,i64 L),(2,i64 W),(7,a7a 511 p.2.1 8 ((b6u L W).take p.1)),(15,.sl true 2 [.agg [i64 1,i64 1],.agg [i64 1,i64 3],.agg [i64 2,i64 2],.agg [i64 3,i64 1],.agg [i64 3,i64 3]]),(16,i64 5),(17,i64 p.1)],a6g 511 p.2.1 116 8 ((b6u L W).take p.1),p.2.2⟩) (fun p=>5 - p.1)
  (fun p=>p.1≤5) (0,0,_) (Nat.zero_le _) wkI ?_
 rintro ⟨i,g,m⟩ F h1;dsimp only at h1 ⊢;have c1:=a2G L 1 4 (by omega) (by omega) (by omega);have c2:=a2G L 2 4 (by omega) (by omega) (by omega);have c3:=a2G L 3 4 (by omega) (by omega) (by omega);have e1:=a2G W 1 4 (by omega) (by omega) (by omega);have e2:=a2G W 2 4 (by omega) (by omega) (by omega);have e3:=a2G W 3 4 (by omega) (by omega) (by omega);refine fR 300 ?_;refine OkS.seq ?_;refine ifI ?_;have h2:i=0∨i=1∨i=2∨i=3∨i=4∨i=5:=by omega
 have a3:IntKind.i64.wrap ((i:Int)+1)=((i+1:Nat):Int):=wI (by omega) (by omega);rcases h2 with rfl|rfl|rfl|rfl|rfl|rfl
 rotate_left 5
 ·refine exI ?_
  refine fR 700 ?_;refine rtI ?_;exact ⟨_,a6L _ _ _ _ _,(inferInstance:IsPure (.sl false 8 (b6u L W))).out,rfl⟩
 ·refine skI ?_
  refine OkS.seq ?_;refine OkS.block ?_;refine fR 400 ?_
  try dsimp only [b6u,List.take_succ_cons,List.take_zero,List.take_nil,a1A,a1B,a1j,a1k,List.length_cons,List.length_nil]
  refine ⟨⟨rfl,by omega⟩,_,rfl,?_⟩;refine dsI ?_
  try dsimp only [D.cells,spot]
  refine nxI ?_;refine OkS.regD w1 500 [0,1,2,3,4,5,6,7,8,9,10] [11,12] (by kernel_rfl) ?_;refine nxI ?_;refine a0n.same _ (c1) inferInstance ?_;refine nxI ?_;refine a0n.same _ (e1) inferInstance ?_;refine nxI ?_;refine OkS.reg w1 600 (by kernel_rfl) ?_;refine mwI a3 ?_;exact ⟨(1,_,_),(by dsimp only;omega),(by dsimp only;omega),wkI⟩
 ·refine skI ?_
  refine OkS.seq ?_;refine OkS.block ?_;refine fR 400 ?_
  try dsimp only [b6u,List.take_succ_cons,List.take_zero,List.take_nil,a1A,a1B,a1j,a1k,List.length_cons,List.length_nil]
  refine ⟨⟨rfl,by omega⟩,_,rfl,?_⟩;refine dsI ?_
  try dsimp only [D.cells,spot]
  refine nxI ?_;refine OkS.regD w1 500 [0,1,2,3,4,5,6,7,8,9,10] [11,12] (by kernel_rfl) ?_;refine nxI ?_;refine a0n.same _ (c1) inferInstance ?_;refine nxI ?_;refine a0n.same _ (e3) inferInstance ?_;refine nxI ?_;refine OkS.reg w1 600 (by kernel_rfl) ?_;refine mwI a3 ?_;exact ⟨(2,_,_),(by dsimp only;omega),(by dsimp only;omega),wkI⟩
 ·refine skI ?_
  refine OkS.seq ?_;refine OkS.block ?_;refine fR 400 ?_
  try dsimp only [b6u,List.take_succ_cons,List.take_zero,List.take_nil,a1A,a1B,a1j,a1k,List.length_cons,List.length_nil]
  refine ⟨⟨rfl,by omega⟩,_,rfl,?_⟩;refine dsI ?_
  try dsimp only [D.cells,spot]
  refine nxI ?_;refine OkS.regD w1 500 [0,1,2,3,4,5,6,7,8,9,10] [11,12] (by kernel_rfl) ?_;refine nxI ?_;refine a0n.same _ (c2) inferInstance ?_;refine nxI ?_;refine a0n.same _ (e2) inferInstance ?_;refine nxI ?_;refine OkS.reg w1 600 (by kernel_rfl) ?_;refine mwI a3 ?_;exact ⟨(3,_,_),(by dsimp only;omega),(by dsimp only;omega),wkI⟩
 ·refine skI ?_
  refine OkS.seq ?_;refine OkS.block ?_;refine fR 400 ?_
  try dsimp only [b6u,List.take_succ_cons,List.take_zero,List.take_nil,a1A,a1B,a1j,a1k,List.length_cons,List.length_nil]
  refine ⟨⟨rfl,by omega⟩,_,rfl,?_⟩;refine dsI ?_
  try dsimp only [D.cells,spot]
  refine nxI ?_;refine OkS.regD w1 500 [0,1,2,3,4,5,6,7,8,9,10] [11,12] (by kernel_rfl) ?_;refine nxI ?_;refine a0n.same _ (c3) inferInstance ?_;refine nxI ?_;refine a0n.same _ (e1) inferInstance ?_;refine nxI ?_;refine OkS.reg w1 600 (by kernel_rfl) ?_;refine mwI a3 ?_;exact ⟨(4,_,_),(by dsimp only;omega),(by dsimp only;omega),wkI⟩
 ·refine skI ?_
  refine OkS.seq ?_;refine OkS.block ?_;refine fR 400 ?_
  try dsimp only [b6u,List.take_succ_cons,List.take_zero,List.take_nil,a1A,a1B,a1j,a1k,List.length_cons,List.length_nil]
  refine ⟨⟨rfl,by omega⟩,_,rfl,?_⟩;refine dsI ?_
  try dsimp only [D.cells,spot]
  refine nxI ?_;refine OkS.regD w1 500 [0,1,2,3,4,5,6,7,8,9,10] [11,12] (by kernel_rfl) ?_;refine nxI ?_;refine a0n.same _ (c3) inferInstance ?_;refine nxI ?_;refine a0n.same _ (e3) inferInstance ?_;refine nxI ?_;refine OkS.reg w1 600 (by kernel_rfl) ?_;refine mwI a3 ?_;exact ⟨(5,_,_),(by dsimp only;omega),(by dsimp only;omega),wkI⟩
def mpK:D→List D
 | .mp k _=>k
 | _=>[]
def mpV:D→List D
 | .mp _ v=>v
 | _=>[]
theorem c1j {tt:Nat→Option a0k}{xt:Nat→Option XI}{g:Operand→D}{t:Nat}{x ix:Operand}{ok:Bool}{K V:List D}{a b:Nat}{z:Value}{s:ByteArray}{d:D}(h1:xt t=some (.map a b z))(h2:g x=.mp K V)(h3:g ix=.prim (.string s))
  (h4:a5u s K V=some (some d)):evQ tt xt g (.lookup t x ix ok)=some (okD ok d true,True):=by simp only [evQ,h1,h2,h3,h4]
theorem d2o {X:EV}{g:Operand→D}{op:Op}{acc:Prop}{k:Prop→D→Option Ent→Prop}{d:D}{p:Prop}(h:evQ X.tt X.xt g op=some (d,p))(hk:k (p∧acc) d none):wpQ X g op acc k:=by
 unfold wpQ;rw [h];exact hk
theorem b8f {H Hf:Hp}{a a' b b':D}(h1:Fz H Hf a a')(h2:Fz H Hf b b'):Fz H Hf (.tup [a,b]) (.tup [a',b']):=.tup rfl fun i d d' hd hd'=>by
 match i with
 | 0=>simp at hd hd';subst hd;subst hd';exact h1
 | 1=>simp at hd hd';subst hd;subst hd';exact h2
 | n+2=>simp at hd
theorem c1o (a b:Bool):a0b C0 47 [.sl true 1 [i64 (if a then 3 else 0),i64 (if b then 3 else 0)]] (i64 (if a||b then 3 else 0)):=by
 cases a<;>cases b<;>exact a0b.ev a4c 100 10 (by kernel_rfl)
abbrev Q4:=Nat × Nat × Nat × Nat
def a9t (q:Q4):D:=spot q.1 q.2.1 q.2.2.1 q.2.2.2
def rtx (a b:Nat):ByteArray:=⟨(c0d (a / Nat.gcd a b:Nat) (b / Nat.gcd a b:Nat)).toArray⟩
def a3E (q:Q4):D:=.agg [str (rtx q.1 q.2.1),str (rtx q.2.2.1 q.2.2.2),i64 1]
instance  (q:Q4):CellsPure (a9t q):=by unfold a9t;exact inferInstance
instance  (q:Q4):CellsPure (a3E q):=by unfold a3E;exact inferInstance
def OkQ (q:Q4):Prop:=q.1≤1000000000∧0<q.2.1∧q.2.1≤1000∧q.2.2.1≤1000000000∧0<q.2.2.2∧q.2.2.2≤1000
def c0H (lo hi n L W:Int):Bool:=decide (n<lo)||decide (n>hi)||a4A L W
theorem b5h (a b:Nat)(ha:a≤1000000000)(hb:b≤1000):a0b C0 50 [smF (a / Nat.gcd a b:Nat) (b / Nat.gcd a b:Nat)] (str (rtx a b)):=by
 have d1:=Nat.div_le_self a (Nat.gcd a b);have d2:=Nat.div_le_self b (Nat.gcd a b);unfold rtx;generalize a / Nat.gcd a b=x at *;generalize b / Nat.gcd a b=y at *;exact c6T x y (by omega) (by omega) (by omega) (by omega)
section
set_option allowUnsafeReducibility true in
attribute [local irreducible] wpQ
theorem a7w (s:ByteArray)(lo hi:Int)(f:Nat)(hlk:a5u s (mpK a1I) (mpV a1I)=some (some (.agg [i64 lo,i64 hi,.clo (.func f) [] []])))(n L W:Int)(qs:List Q4)
  (hok:c0H lo hi n L W=false→a0b C0 f [i64 n,i64 L,i64 W] (.sl false 8 (qs.map a9t))∧(∀ q∈qs,OkQ q)∧qs.length≤5000) (hf:f=109∨f=111∨f=112∨f=113) :
  a0b C0 12 [str s,i64 n,i64 L,i64 W] (if c0H lo hi n L W then .tup [.sl false 3 [],i64 3] else .tup [.sl false 3 (qs.map a3E),i64 0]):=by
 refine a0c.walk w1 c8v rfl fun F=>?_
 have dk:a0b C0 46 [] (.mp (mpK a1I) (mpV a1I)):=a6n;have dp:IsPure (D.mp (mpK a1I) (mpV a1I)):=⟨a0T (n:=20) (by kernel_rfl)⟩
 refine fR 0 ?_;refine fR 100 ?_;refine a0l.same _ dk inferInstance ?_;refine d2o (c1j (s:=s) (a:=9) (b:=102) (z:=.agg #[.int .i64 0,.int .i64 0,.nilFunc]) (by kernel_rfl) rfl rfl hlk) ?_;dsimp only [okD];refine nxI ?_;refine OkS.seq ?_;refine fR 200 ?_;refine ifI ?_;refine skI ?_;refine OkS.seq ?_;unfold c0H;obtain ⟨b1,e1⟩:∃ b,decide (n<lo)=b:=⟨_,rfl⟩
 obtain ⟨b2,e2⟩:∃ b,decide (n>hi)=b:=⟨_,rfl⟩
 obtain ⟨b3,e3⟩:∃ b,a4A L W=b:=⟨_,rfl⟩
 have hs:=b5o L W;unfold c0H at hok;rw [e1,e2,e3] at hok ⊢;rw [e3] at hs;rcases b1 with _|_<;>rcases b2 with _|_<;>rcases b3 with _|_
 all_goals
  refine sZ 400 ?_
  repeat' (first|(refine And.intro (by exact sdI) ?_;(refine dsI ?_);(try simp only [a6k,b0w,e1,e2]))|((refine brI (fun hb=>?_) (fun hb=>?_))<;>(try simp only [Bool.not_eq_true',Bool.not_eq_false'] at hb)<;>(try simp only [hb])<;>(refine dsI ?_)))
  refine dI (a2s _ 3) ?_;refine dI hs ?_;refine dI (c1o _ _) ?_;simp only [Bool.or_false,Bool.or_true,Bool.false_or,Bool.true_or,Bool.or_self,Bool.false_eq_true,if_true,if_false,reduceIte];refine fR 500 ?_;refine ifI ?_
 ·rw [show ((0:Int) != 0)=false from rfl]
  refine skI ?_;refine fR 700 ?_;refine OkS.seq ?_;obtain ⟨hcall,hq,hlen⟩:=hok rfl;refine OkS.seqW ⟨[(13,a2d),(48,.sl false 8 (qs.map a9t)),(49,i64 qs.length),(50,i64 0)],[],100⟩ ?_ ?_
  ·have hml:(qs.map a9t).length=qs.length:=List.length_map _
   rcases hf with rfl|rfl|rfl|rfl
   all_goals
    refine fI 800 ?_;refine dI hcall ?_;rw [hml];exact And.intro (by trivial) (wkI)
  refine OkS.block ?_;refine OkS.loop (α:=Nat × Nat × Nat) (fun p=>⟨[(13,a7a 1109 p.2.1 3 ((qs.take p.1).map a3E)),(48,.sl false 8 (qs.map a9t)),(49,i64 qs.length),(50,i64 p.1)],a6g 1109 p.2.1 77 3 ((qs.take p.1).map a3E),p.2.2⟩) (fun p=>qs.length - p.1)
   (fun p=>p.1≤qs.length) (0,0,_) (Nat.zero_le _) wkI ?_
  rintro ⟨j,g,m⟩ F h1;dsimp only at h1 ⊢;refine fR 900 ?_;refine OkS.seq ?_;refine ifI ?_
  (refine brI (fun hc=>?_) (fun hc=>?_))<;>(try simp only [Bool.not_eq_true',Bool.not_eq_false'] at hc)<;>(try simp only [hc])
  ·have hj:j<qs.length:=by simpa using hc
   refine skI ?_;refine OkS.seq ?_;refine OkS.block ?_;refine OkS.seq ?_;obtain ⟨⟨a,b,c,d⟩,hqj⟩:∃ q,qs[j]? = some q:=⟨qs[j],List.getElem?_eq_getElem hj⟩
   have hget:(qs.map a9t)[((j:Nat):Int).toNat]? = some (spot a b c d):=by
    rw [Int.toNat_natCast,List.getElem?_map,hqj];rfl
   obtain ⟨q1,q2,q3,q4,q5,q6⟩:=hq _ (List.mem_of_getElem? hqj);dsimp only at q1 q2 q3 q4 q5 q6;have t1:=b5h a b q1 q3;have t2:=b5h c d q4 q6;have htake:(qs.take j).map a3E++[a3E (a,b,c,d)]=(qs.take (j+1)).map a3E:=by
    rw [List.take_add_one,hqj,List.map_append];rfl
   have hll:((qs.take j).map a3E).length≤5000:=by rw [List.length_map,List.length_take];omega
   have a3:IntKind.i64.wrap ((j:Int)+1)=((j+1:Nat):Int):=wI (by omega) (by omega);refine fI 1000 ?_;refine ⟨⟨rfl,by omega⟩,_,hget,?_⟩;refine dsI ?_
   try dsimp only [D.cells,spot]
   refine nxI ?_;generalize hl:(qs.take j).map a3E=l at *;rcases l with _|⟨x,l⟩
   all_goals
    (try simp only [List.length_cons] at hll)
    dsimp only [a1A,a1B,a1j,a1k];refine OkS.regD w1 1100 [0,1,2,3,4,5,6,7,8] [9,10] (by kernel_rfl) ?_;refine nxI ?_;refine a0n.same _ (t1) inferInstance ?_;refine nxI ?_;refine a0n.same _ (t2) inferInstance ?_;refine nxI ?_
   ·refine OkS.reg w1 1200 (by kernel_rfl) ?_
    refine mwI a3 ?_;refine ⟨(j+1,_,_),hj,by (dsimp only;omega),by (dsimp only;rw [← htake];exact wkI)⟩
   ·refine OkS.reg w1 1200 (by kernel_rfl) ?_
    refine mwI a3 ?_;have htk:List.take (l.length+1) (x::l)=x::l:=by simp
    rw [htk];refine ⟨(j+1,_,_),hj,by (dsimp only;omega),by (dsimp only;rw [← htake,a2e];exact wkI)⟩
  ·have hj:j=qs.length:=by
    have:¬ j<qs.length:=by simpa using hc
    omega
   subst hj;refine exI ?_;refine fR 1300 ?_;refine rtI ?_;rw [List.take_length];exact ⟨_,b8f (a6L _ _ _ _ _) (Fz.refl _),IsPure.out,rfl⟩
 all_goals
  rw [show ((3:Int) != 0)=true from rfl];refine fR 600 ?_;refine rtI ?_;exact ⟨_,b8f (.nil 3) (Fz.refl _),IsPure.out,rfl⟩
end
set_option maxHeartbeats 2000000
set_option allowUnsafeReducibility true in
attribute [local irreducible] a1Q
structure c7y (s:ByteArray)(a b c d:Bool):Prop where
 a:a1Q s ⟨#[108,105,110,101]⟩=a
 b:a1Q s ⟨#[122,105,103,122,97,103]⟩=b
 c:a1Q s ⟨#[103,114,105,100]⟩=c
 d:a1Q s ⟨#[113,117,105,110,99,117,110,120]⟩=d
def c1W (n L W:Nat)(i:Nat):List Q4:=(List.range i).map fun i=>(L*(2*i+1),2*n,W,2)
def d2B (n L W:Nat)(i:Nat):List Q4:=(List.range i).map fun i=>(L*(2*i+1),2*n,W*(1+i%2),3)
def c7v (n L W i:Nat)(k:Nat):List Q4:=(List.range k).map fun k=>(L*(2*i+1),2*n,W*(2*k+1),2*n)
def a8D (n L W:Nat)(i:Nat):List Q4:=(List.range i).flatMap fun i=>c7v n L W i n
def c6s (L W:Nat):List Q4:=[(L,4,W,4),(L,4,W*3,4),(L*2,4,W*2,4),(L*3,4,W,4),(L*3,4,W*3,4)]
theorem c6t (n L W i:Nat):a8D n L W (i+1)=a8D n L W i++c7v n L W i n:=by unfold a8D;rw [List.range_succ,List.flatMap_append];simp
theorem b9j (n L W i:Nat):(c1W n L W i).length=i:=by simp [c1W]
theorem c1Y (n L W i:Nat):(d2B n L W i).length=i:=by simp [d2B]
theorem c1X (n L W i k:Nat):(c7v n L W i k).length=k:=by simp [c7v]
theorem b9i (n L W i:Nat):(a8D n L W i).length=i*n:=by
 induction i with
 | zero=>simp [a8D]
 | succ i ih=>rw [c6t,List.length_append,ih,c1X,Nat.succ_mul]
theorem d4H {L W:Int}(h:a4A L W=false):∃ l w:Nat,L=l∧W=w∧l≤100000∧w≤100000:=by
 unfold a4A at h;simp only [Bool.or_eq_false_iff,decide_eq_false_iff_not] at h;exact ⟨L.toNat,W.toNat,by omega,by omega,by omega,by omega⟩
inductive Kd where
 | line|zig|grid|quin
def Kd.a:Kd→Bool
 | .line=>true
 | _=>false
def Kd.b:Kd→Bool
 | .zig=>true
 | _=>false
def Kd.c:Kd→Bool
 | .grid=>true
 | _=>false
def Kd.d:Kd→Bool
 | .quin=>true
 | _=>false
def Kd.lo:Kd→Int
 | .quin=>5
 | _=>1
def Kd.most:Kd→Int
 | .line | .zig=>64
 | .grid=>8
 | .quin=>5
def Kd.qs (n L W:Nat):Kd→List Q4
 | .line=>c1W n L W n
 | .zig=>d2B n L W n
 | .grid=>a8D n L W n
 | .quin=>c6s L W
theorem b4Q {k:Kd}{n L W:Int}(h:c0H k.lo k.most n L W=false):∃ m l w:Nat,n=m∧L=l∧W=w∧0<m∧(m:Int)≤k.most∧l≤100000∧w≤100000:=by
 unfold c0H at h;simp only [Bool.or_eq_false_iff,decide_eq_false_iff_not] at h;obtain ⟨⟨h1,h2⟩,h3⟩:=h;obtain ⟨l,w,e1,e2,e3,e4⟩:=d4H h3;have hlo:1≤k.lo:=by cases k<;>decide
 exact ⟨n.toNat,l,w,by omega,e1,e2,by omega,by omega,e3,e4⟩
theorem d1G (k:Kd)(s:ByteArray)(hk:c7y s k.a k.b k.c k.d)(n L W:Int):a0b C0 12 [str s,i64 n,i64 L,i64 W] (if c0H k.lo k.most n L W then .tup [.sl false 3 [],i64 3] else .tup [.sl false 3 ((k.qs n.toNat L.toNat W.toNat).map a3E),i64 0]):=by
 cases k with
 | line =>
  refine a7w s 1 64 109 ?_ n L W _ (fun hb=>?_) (by decide)
  ·simp only [a1I,mpK,mpV,a5u,hk.a,Kd.a]
  ·obtain ⟨m,l,w,rfl,rfl,rfl,h1,h2,h3,h4⟩:=b4Q (k:=.line) hb
   simp only [Int.toNat_natCast];dsimp only [Kd.most] at h2;have hm:m≤64:=by omega
   refine ⟨?_,fun q hq=>?_,?_⟩
   ·have:=d2Q m l w hm h3 h4
    simp only [Nat.mul_one] at this;rw [show (Kd.line.qs m l w).map a9t=(List.range m).map fun i=>spot (l*(2*i+1)) (2*m) w 2 from by unfold Kd.qs c1W;rw [List.map_map];rfl];exact this
   ·obtain ⟨i,hi,rfl⟩:=List.mem_map.1 hq
    have:=List.mem_range.1 hi
    have b1:l*(2*i+1)≤100000*129:=Nat.mul_le_mul h3 (by omega);exact ⟨by dsimp only;omega,by dsimp only;omega,by dsimp only;omega,by dsimp only;omega,by dsimp only;omega,by dsimp only;omega⟩
   ·have:=b9j m l w m
    unfold Kd.qs;rw [this];omega
 | zig =>
  refine a7w s 1 64 111 ?_ n L W _ (fun hb=>?_) (by decide)
  ·simp only [a1I,mpK,mpV,a5u,hk.a,hk.b,Kd.a,Kd.b]
  ·obtain ⟨m,l,w,rfl,rfl,rfl,h1,h2,h3,h4⟩:=b4Q (k:=.zig) hb
   simp only [Int.toNat_natCast];dsimp only [Kd.most] at h2;have hm:m≤64:=by omega
   refine ⟨?_,fun q hq=>?_,?_⟩
   ·have:=d2T m l w hm h3 h4
    rw [show (Kd.zig.qs m l w).map a9t=(List.range m).map fun i=>spot (l*(2*i+1)) (2*m) (w*(1+i%2)) 3 from by unfold Kd.qs d2B;rw [List.map_map];rfl];exact this
   ·obtain ⟨i,hi,rfl⟩:=List.mem_map.1 hq
    have:=List.mem_range.1 hi
    have b1:l*(2*i+1)≤100000*129:=Nat.mul_le_mul h3 (by omega);have b2:w*(1+i%2)≤100000*2:=Nat.mul_le_mul h4 (by omega);exact ⟨by dsimp only;omega,by dsimp only;omega,by dsimp only;omega,by dsimp only;omega,by dsimp only;omega,by dsimp only;omega⟩
   ·have:=c1Y m l w m
    unfold Kd.qs;rw [this];omega
 | grid =>
  refine a7w s 1 8 112 ?_ n L W _ (fun hb=>?_) (by decide)
  ·simp only [a1I,mpK,mpV,a5u,hk.a,hk.b,hk.c,Kd.a,Kd.b,Kd.c]
  ·obtain ⟨m,l,w,rfl,rfl,rfl,h1,h2,h3,h4⟩:=b4Q (k:=.grid) hb
   simp only [Int.toNat_natCast];dsimp only [Kd.most] at h2;have hm:m≤64:=by omega
   refine ⟨?_,fun q hq=>?_,?_⟩
   ·have:=d2V m l w hm h3 h4
    rw [show (Kd.grid.qs m l w).map a9t=(List.range m).flatMap fun i=>a5t m l w i m from by
     unfold Kd.qs a8D;rw [List.map_flatMap];unfold c7v a5t;simp only [List.map_map];rfl]
    exact this
   ·obtain ⟨i,hi,hq⟩:=List.mem_flatMap.1 hq
    obtain ⟨j,hj,rfl⟩:=List.mem_map.1 hq
    have:=List.mem_range.1 hi
    have:=List.mem_range.1 hj
    have b1:l*(2*i+1)≤100000*129:=Nat.mul_le_mul h3 (by omega);have b2:w*(2*j+1)≤100000*129:=Nat.mul_le_mul h4 (by omega);exact ⟨by dsimp only;omega,by dsimp only;omega,by dsimp only;omega,by dsimp only;omega,by dsimp only;omega,by dsimp only;omega⟩
   ·have:=b9i m l w m
    have:m*m≤64*64:=Nat.mul_le_mul hm hm
    show (a8D m l w m).length≤5000;omega
 | quin =>
  refine a7w s 5 5 113 ?_ n L W _ (fun hb=>?_) (by decide)
  ·simp only [a1I,mpK,mpV,a5u,hk.a,hk.b,hk.c,hk.d,Kd.a,Kd.b,Kd.c,Kd.d]
  ·obtain ⟨m,l,w,rfl,rfl,rfl,h1,h2,h3,h4⟩:=b4Q (k:=.quin) hb
   simp only [Int.toNat_natCast];refine ⟨?_,fun q hq=>?_,?_⟩
   ·have:=d2W m l w h3 h4
    unfold b6u at this;simp only [Nat.mul_one] at this;exact this
   ·unfold Kd.qs c6s at hq
    simp only [List.mem_cons,List.not_mem_nil,or_false] at hq;rcases hq with rfl|rfl|rfl|rfl|rfl
    all_goals exact ⟨by dsimp only;omega,by dsimp only;omega,by dsimp only;omega,by dsimp only;omega,by dsimp only;omega,by dsimp only;omega⟩
   ·unfold Kd.qs c6s;simp
section
attribute [local irreducible] wpQ
end
def a8t (b:Nat):Bool:=((decide (97≤b)&&decide (b≤122))||(decide (65≤b)&&decide (b≤90)))||(decide (48≤b)&&decide (b≤57))||b==45||b==95||b==46
def a8m (l:List UInt8):Bool:=l.all (fun b=>a8t b.toNat)&&(decide (1≤l.length)&&decide (l.length≤24))
theorem d4Z (s:ByteArray)(p:Nat)(hp:p<s.size):s.data.toList[p]? = some (s.get! p):=by
 have hp':p<s.data.size:=hp;rw [Array.getElem?_toList,Array.getElem?_eq_getElem hp']
 congr 1
 show _=s.data[p]!;rw [getElem!_pos s.data p hp']
theorem b7d (s:ByteArray)(p:Nat)(h:(s.get! p).toNat<128):Utf8.decode s p=((s.get! p).toNat,1):=by
 unfold Utf8.decode;exact if_pos h
theorem c0W (s:ByteArray)(p:Nat)(h:¬ (s.get! p).toNat<128):128≤(Utf8.decode s p).1:=by
 unfold Utf8.decode;dsimp only;simp only [Nat.add_zero];rw [if_neg h];have hv:128≤Utf8.runeError:=by decide
 repeat' split
 all_goals first|exact hv|(rename_i h1;simp only [ge_iff_le,Bool.and_eq_true,decide_eq_true_eq] at h1;dsimp only;omega)
theorem b2c (s:ByteArray):a0b C0 67 [str s] (boo (a8m s.data.toList)):=by
 refine a0c.walk w1 d0S rfl fun B=>?_
 have hsz:s.data.toList.length=s.size:=Array.length_toList;refine fR 0 ?_;refine OkS.seq ?_;refine OkS.seq ?_;refine OkS.regRange w1 100 [0] 1 rfl (by kernel_rfl) rfl ?_;refine nxI ?_;intro F hF;refine dsI ?_;refine OkS.block ?_;refine OkS.loopF (α:=Nat × Nat) (fun p=>⟨[(0,str s),(7,.optr 101 2 0 0 0)],[],p.2⟩) (fun p=>s.size - p.1) (fun p F=>a9v C0 B F 101 2 s p.1∧p.1≤s.size∧(s.data.toList.take p.1).all (fun b=>a8t b.toNat)=true) (0,3) ⟨hF,Nat.zero_le _,rfl⟩ wkI ?_;rintro ⟨p,n⟩ F ⟨hIt,hp,hall⟩;dsimp only at hIt hp hall ⊢;refine OkS.seq ?_;refine OkS.regNext w1 200 0 [1] rfl (by kernel_rfl) s p ?_;refine And.intro hIt (And.intro (fun hlt F hIt=>?_) (fun hge=>?_))
 ·refine nxI ?_
  generalize hc:(Utf8.decode s p).1=c;refine OkS.seq ?_;refine ifI ?_;refine skI ?_;refine OkS.block ?_;refine fR 300 ?_;refine OkS.seqW ⟨[(0,str s),(7,.optr 101 2 0 0 0),(4,.prim (.int .i32 c)),(5,boo ((decide ((c:Int)≥97)&&decide ((c:Int)≤122))||(decide ((c:Int)≥65)&&decide ((c:Int)≤90))))],[],n+30⟩ (OkS.reg w1 400 (by kernel_rfl) ?_) ?_
  ·repeat' (first|(refine And.intro (by exact sdI) ?_;refine dsI ?_)|((refine brI (fun hb=>?_) (fun hb=>?_))<;>(try simp only [Bool.not_eq_true',Bool.not_eq_false'] at hb)<;>(try simp only [hb])<;>(refine dsI ?_)))
   all_goals exact wkI
  generalize hL:((decide ((c:Int)≥97)&&decide ((c:Int)≤122))||(decide ((c:Int)≥65)&&decide ((c:Int)≤90)))=L;refine OkS.seqW ⟨[(0,str s),(7,.optr 101 2 0 0 0),(47,boo ((((!L && !(decide ((c:Int)≥48)&&decide ((c:Int)≤57)))&&((c:Int) != 45))&&((c:Int) != 95))&&((c:Int) != 46)))],[],n+60⟩ (OkS.reg w1 500 (by kernel_rfl) ?_) ?_
  ·repeat' (first|(refine And.intro (by exact sdI) ?_;refine dsI ?_)|((refine brI (fun hb=>?_) (fun hb=>?_))<;>(try simp only [Bool.not_eq_true',Bool.not_eq_false'] at hb)<;>(try simp only [hb])<;>(refine dsI ?_)))
   all_goals exact wkI
  have hbad:((((!L && !(decide ((c:Int)≥48)&&decide ((c:Int)≤57)))&&((c:Int) != 45))&&((c:Int) != 95))&&((c:Int) != 46)) = !(a8t c):=by
   subst hL;rw [Bool.eq_iff_iff];simp only [a8t,Bool.and_eq_true,Bool.not_eq_true',Bool.or_eq_false_iff,Bool.and_eq_false_iff,decide_eq_false_iff_not,bne_iff_ne,ne_eq,beq_eq_false_iff_ne];omega
  rw [hbad];refine ifI ?_
  (refine brI (fun hb=>?_) (fun hb=>?_))<;>(try simp only [Bool.not_eq_true',Bool.not_eq_false'] at hb)<;>(try simp only [hb])
  ·have hbf:a8t c=false:=by simpa using hb
   refine fR 600 ?_;refine rtI ?_;refine a0a ?_ IsPure.out;have hb8:a8t (s.get! p).toNat=false:=by
    by_cases hlow:(s.get! p).toNat<128
    ·rw [b7d s p hlow] at hc
     rw [show (s.get! p).toNat=c from hc];exact hbf
    ·unfold a8t;simp;omega
   have:a8m s.data.toList=false:=by
    unfold a8m
    have:s.data.toList.all (fun b=>a8t b.toNat)=false:=by
     rw [List.all_eq_false];exact ⟨_,List.mem_of_getElem? (d4Z s p hlt),by rw [hb8];simp⟩
    rw [this];rfl
   rw [this]
  ·have hbt:a8t c=true:=by simpa using hb
   have hclt:c<128:=by
    unfold a8t at hbt;simp only [Bool.or_eq_true,Bool.and_eq_true,decide_eq_true_eq,beq_iff_eq] at hbt;omega
   have hlow:(s.get! p).toNat<128:=by
    apply Classical.byContradiction;intro h
    have:=c0W s p h
    omega
   rw [b7d s p hlow] at hc hIt;refine skI ?_;refine ⟨(p+1,n+60),⟨hIt,hlt,?_⟩,by dsimp only;omega,wkI⟩;rw [List.take_add_one,d4Z s p hlt,List.all_append,hall];simp;rw [show (s.get! p).toNat=c from hc];exact hbt
 ·have hpe:p=s.size:=by omega
  refine nxI ?_;refine OkS.seq ?_;refine ifI ?_;refine exI ?_;refine OkS.seqW ⟨[(2,boo (decide (1≤(s.size:Int))&&decide ((s.size:Int)≤24)))],[],n+60⟩ (OkS.reg w1 700 (by kernel_rfl) ?_) ?_
  ·repeat' (first|(refine And.intro (by exact sdI) ?_;refine dsI ?_)|((refine brI (fun hb=>?_) (fun hb=>?_))<;>(try simp only [Bool.not_eq_true',Bool.not_eq_false'] at hb)<;>(try simp only [hb])<;>(refine dsI ?_)))
   all_goals exact wkI
  refine rtI ?_;refine a0a ?_ IsPure.out;have hall':s.data.toList.all (fun b=>a8t b.toNat)=true:=by rw [← hall,hpe,← hsz,List.take_length]
  unfold a8m;rw [hall',Bool.true_and,hsz];have e:(decide (1≤(s.size:Int))&&decide ((s.size:Int)≤24))=(decide (1≤s.size)&&decide (s.size≤24)):=by
   rw [Bool.eq_iff_iff];simp only [Bool.and_eq_true,decide_eq_true_eq];omega
  rw [← e]
def Sm (z:Int):Prop:=-9223372036854775808<z∧z<9223372036854775808
theorem wS {z:Int}(h:Sm z):IntKind.i64.wrap z=z:=wI (by have:=h.1;omega) (by have:=h.2;omega)
theorem d1p {z:Int}(h:Sm z):(z != -9223372036854775808)=true:=by
 have:=h.1
 simp only [bne_iff_ne,ne_eq];omega
theorem wU {z:Int}(h1:0≤z)(h2:z<18446744073709551616):IntKind.u64.wrap z=z:=by
 have e1:(2:Int)^IntKind.u64.bits=18446744073709551616:=rfl;unfold IntKind.wrap;simp only [e1];have e3:IntKind.u64.signed=false:=rfl;rw [e3];simp only [Bool.false_and,Bool.false_eq_true,if_false];omega
theorem b3O (z:Int)(h:Sm z):a0b C0 228 [i64 z] (u64 (z.natAbs:Nat)):=by
 refine a0c.walk w1 c3G rfl fun F=>?_
 obtain ⟨h1,h2⟩:=h;refine fR 0 ?_;refine OkS.seq ?_;refine fR 100 ?_;refine ifI ?_
 (refine brI (fun h4=>?_) (fun h4=>?_))<;>(try simp only [Bool.not_eq_true',Bool.not_eq_false'] at h4)<;>(try simp only [h4])
 ·have hz:z<0:=by simpa using h4
  have e1:IntKind.i64.wrap (0 - z)=(z.natAbs:Nat):=by rw [wI (by omega) (by omega)];omega
  have e2:IntKind.u64.wrap ((z.natAbs:Nat):Int)=(z.natAbs:Nat):=wU (by omega) (by omega);refine sZ 200 ?_;refine mwI (ff2 e1 e2) ?_;refine rtI ?_;exact a0a rfl IsPure.out
 ·have hz:¬ z<0:=by simpa using h4
  have e2:IntKind.u64.wrap z=(z.natAbs:Nat):=by rw [wU (by omega) (by omega)];omega
  refine skI ?_;refine sZ 300 ?_;refine mwI e2 ?_;refine rtI ?_;exact a0a rfl IsPure.out
theorem b2o (z:Int)(h:Sm z):a0b C0 177 [smI z] (smI (-z)):=by
 refine a0c.walk w1 b7Z rfl fun F=>?_
 refine fR 0 ?_;refine OkS.seq ?_;refine sZ 100 ?_
 repeat' (first|(refine And.intro (by exact sdI) ?_;refine dsI ?_)|((refine brI (fun hb=>?_) (fun hb=>?_))<;>(try simp only [Bool.not_eq_true',Bool.not_eq_false'] at hb)<;>(try simp only [hb])<;>(refine dsI ?_)))
 rw [d1p h];refine ifI ?_;have e1:IntKind.i64.wrap (0 - z) = -z:=by
  have:=h.1;have:=h.2
  rw [wI (by omega) (by omega)];omega
 refine sZ 200 ?_;refine mwI e1 ?_;refine rtI ?_;exact a0a rfl IsPure.out
theorem b6G (a b:Int)(hc:Sm (a+b)):a0b C0 178 [smI a,smI b] (smI (a+b)):=by
 refine a0c.walk w1 b4v rfl fun F=>?_
 refine fR 0 ?_;refine OkS.seq ?_;refine sZ 100 ?_
 repeat' (first|(refine And.intro (by exact sdI) ?_;refine dsI ?_)|((refine brI (fun hb=>?_) (fun hb=>?_))<;>(try simp only [Bool.not_eq_true',Bool.not_eq_false'] at hb)<;>(try simp only [hb])<;>(refine dsI ?_)))
 refine ifI ?_;have e1:=wS hc;have e2:(decide (a+b>a)==decide (b>0))=true:=by
  rw [beq_iff_eq,decide_eq_decide];omega
 refine sZ 200 ?_;refine mwI e1 ?_;refine fR 300 ?_;rw [e2];refine ifI ?_;refine fR 400 ?_;refine rtI ?_;exact a0a rfl IsPure.out
theorem a4P (x y:Nat)(hx:x<18446744073709551616)(hy:y<18446744073709551616):a0b C0 227 [u64 x,u64 y] (.tup [u64 (x*y / 18446744073709551616:Nat),u64 (x*y%18446744073709551616:Nat)]):=by
 refine ⟨⟨_,_,Tryz.func227,rfl,by kernel_rfl⟩,fun Y w vs hG hnG hX hvs hr=>?_⟩;obtain ⟨v1,v2,rfl⟩:∃ a b,vs = #[a,b]:=by
  match vs,hvs with
  | ⟨[a,b]⟩,_=>exact ⟨a,b,rfl⟩
 have h0:=hr 0 _ rfl;have h1:=hr 1 _ rfl;simp at h0 h1;cases h0;cases h1;refine (Tryz.bits_Mul64 x y hx hy w).mono ?_;rintro e w' ⟨rfl,rfl⟩;exact ⟨_,_,rfl,.refl _ _,rfl,.tup rfl fun i d hd=>by
  match i with
  | 0=>simp at hd;subst hd;exact .prim _
  | 1=>simp at hd;subst hd;exact .prim _
  | n+2=>simp at hd⟩
theorem a5l (a b:Int)(hc:Sm (a*b))(ha:Sm a)(hb:Sm b):a0b C0 180 [smI a,smI b] (smI (a*b)):=by
 refine a0c.walk w1 b4w rfl fun F=>?_
 have hab:a.natAbs*b.natAbs=(a*b).natAbs:=(Int.natAbs_mul a b).symm;have h1:a.natAbs*b.natAbs / 18446744073709551616=0:=by rw [hab];have:=hc.1;have:=hc.2;omega
 have h2:a.natAbs*b.natAbs%18446744073709551616=(a*b).natAbs:=by rw [hab];have:=hc.1;have:=hc.2;omega
 have c0:=a4P a.natAbs b.natAbs (by have:=ha.1;have:=ha.2;omega) (by have:=hb.1;have:=hb.2;omega);rw [h1,h2] at c0;refine fR 0 ?_;refine OkS.seq ?_;refine sZ 100 ?_
 repeat' (first|(refine And.intro (by exact sdI) ?_;refine dsI ?_)|((refine brI (fun hb=>?_) (fun hb=>?_))<;>(try simp only [Bool.not_eq_true',Bool.not_eq_false'] at hb)<;>(try simp only [hb])<;>(refine dsI ?_)))
 refine ifI ?_;refine OkS.seq ?_;refine OkS.regD w1 200 [0,1,2,3,4,5,6,7,8,9,10] [11] (by kernel_rfl) ?_;refine nxI ?_;refine a0n.same _ (b3O a ha) inferInstance ?_;refine nxI ?_;refine a0n.same _ (b3O b hb) inferInstance ?_;refine nxI ?_;refine a0n.same _ (c0) inferInstance ?_;refine nxI ?_;refine sZ 300 ?_
 repeat' (first|(refine And.intro (by exact sdI) ?_;refine dsI ?_)|((refine brI (fun hb=>?_) (fun hb=>?_))<;>(try simp only [Bool.not_eq_true',Bool.not_eq_false'] at hb)<;>(try simp only [hb])<;>(refine dsI ?_)))
 have e3:decide ((((a*b).natAbs:Nat):Int)≤9223372036854775807)=true:=decide_eq_true (by have:=hc.1;have:=hc.2;omega);rw [e3];refine ifI ?_;refine OkS.seq ?_;refine fR 400 ?_;refine ifI ?_;have e4:IntKind.i64.wrap (((a*b).natAbs:Nat):Int)=((a*b).natAbs:Nat):=wN (by have:=hc.1;have:=hc.2;omega)
 (refine brI (fun h41=>?_) (fun h41=>?_))<;>(try simp only [Bool.not_eq_true',Bool.not_eq_false'] at h41)<;>(try simp only [h41])
 ·have e5:IntKind.i64.wrap (0 - (((a*b).natAbs:Nat):Int)) = -((a*b).natAbs:Nat):=by
   rw [wI (by have:=hc.1;have:=hc.2;omega) (by have:=hc.1;have:=hc.2;omega)];omega
  have e6 : -(((a*b).natAbs:Nat):Int)=a*b:=by
   have hs:(a<0)≠(b<0):=by simpa using h41
   have:a*b≤0:=by
    by_cases h1:a<0
    ·have h2:¬ b<0:=fun h2=>hs (by simp [h1,h2])
     exact Int.mul_nonpos_of_nonpos_of_nonneg (by omega) (by omega)
    ·have h2:b<0:=Classical.byContradiction fun h2=>hs (by simp [h1,h2])
     exact Int.mul_nonpos_of_nonneg_of_nonpos (by omega) (by omega)
   omega
  refine sZ 500 ?_;refine mwI (ff3 e4 e5 e6) ?_;refine rtI ?_;exact a0a rfl IsPure.out
 ·have e6:(((a*b).natAbs:Nat):Int)=a*b:=by
   have hs:¬ ((a<0)≠(b<0)):=by simpa using h41
   have:0≤a*b:=by
    by_cases h1:a<0
    ·have h2:b<0:=Classical.byContradiction fun h2=>hs (by simp [h1,h2])
     exact Int.mul_nonneg_of_nonpos_of_nonpos (by omega) (by omega)
    ·have h2:¬ b<0:=fun h2=>hs (by simp [h1,h2])
     exact Int.mul_nonneg (by omega) (by omega)
   omega
  rw [e6] at e4;refine skI ?_;refine sZ 600 ?_;refine mwI (ff2 e6 e4) ?_;refine rtI ?_;exact a0a rfl IsPure.out
theorem c6Q {a b:Int}(hb:0<b):(a.tmod b<0→a.tdiv b - 1=a / b∧a.tmod b+b=a%b)∧(¬ a.tmod b<0→a.tdiv b=a / b∧a.tmod b=a%b):=by
 have h1:=Int.mul_tdiv_add_tmod a b;have h2:=Int.tmod_lt_of_pos a hb;have h3:=Int.lt_tmod_of_pos a hb;constructor
 ·intro h
  have:=(Int.ediv_emod_unique (a:=a) (r:=a.tmod b+b) (q:=a.tdiv b - 1) hb).2 ⟨by rw [Int.mul_sub,Int.mul_one];omega,by omega,by omega⟩
  exact ⟨this.1.symm,this.2.symm⟩
 ·intro h
  have:=(Int.ediv_emod_unique (a:=a) (r:=a.tmod b) (q:=a.tdiv b) hb).2 ⟨by omega,by omega,by omega⟩
  exact ⟨this.1.symm,this.2.symm⟩
theorem c0c {a b:Int}(ha:Sm a):Sm (a.tdiv b):=by
 have h:(a.tdiv b).natAbs≤a.natAbs:=by rw [Int.natAbs_tdiv];exact Nat.div_le_self _ _
 have:=ha.1;have:=ha.2
 exact ⟨by omega,by omega⟩
theorem b1F (a b:Int)(hb0:0<b)(ha:Sm a)(hb:Sm b):a0b C0 197 [smI a,smI b] (.tup [smI (a / b),smI (a%b)]):=by
 refine a0c.walk w1 b4z rfl fun F=>?_
 obtain ⟨t1,t2⟩:=c6Q (a:=a) hb0;have h2:=Int.tmod_lt_of_pos a hb0;have h3:=Int.lt_tmod_of_pos a hb0;have q1:=wS (c0c (b:=b) ha);have q2:IntKind.i64.wrap (a.tmod b)=a.tmod b:=wI (by have:=hb.2;omega) (by have:=hb.2;omega);have q0:=c0c (b:=b) ha;refine fR 0 ?_;refine OkS.seq ?_;refine sZ 100 ?_
 repeat' (first|(refine And.intro (by exact sdI) ?_;refine dsI ?_)|((refine brI (fun hb=>?_) (fun hb=>?_))<;>(try simp only [Bool.not_eq_true',Bool.not_eq_false'] at hb)<;>(try simp only [hb])<;>(refine dsI ?_)))
 rw [d1p ha];refine ifI ?_;refine OkS.seq ?_;refine OkS.regD w1 200 [0,1,2,3,4,5,6,7,8,9,10] [11] (by kernel_rfl) ?_;refine And.intro (by (refine dsI ?_);(try simp only [q1,q2]);all_goals exact sdI) ?_;refine dsI ?_
 try simp only [q1,q2]
 refine OkS.seq ?_;refine fR 300 ?_;refine ifI ?_
 (refine brI (fun h40=>?_) (fun h40=>?_))<;>(try simp only [Bool.not_eq_true',Bool.not_eq_false'] at h40)<;>(try simp only [h40])
 ·obtain ⟨e1,e2⟩:=t1 (by simpa using h40)
  have q3:IntKind.i64.wrap (a.tdiv b - 1)=a / b:=by rw [wI (by have:=q0.1;omega) (by have:=q0.2;omega)];exact e1
  have q4:IntKind.i64.wrap (a.tmod b+b)=a%b:=by rw [wI (by have:=hb.2;omega) (by have:=hb.2;omega)];exact e2
  refine OkS.regD w1 400 [0,1,2,3,4,5,6] [7] (by kernel_rfl) ?_;refine And.intro (by (refine dsI ?_);(try simp only [q3,q4]);all_goals exact sdI) ?_;refine dsI ?_
  try simp only [q3,q4]
  refine fR 500 ?_;refine rtI ?_;exact a0a rfl IsPure.out
 ·obtain ⟨e1,e2⟩:=t2 (by simpa using h40)
  refine skI ?_;refine OkS.seq ?_;rw [e1,e2];refine fI 500 ?_;refine rtI ?_;exact a0a rfl IsPure.out
theorem b5c (a b:Int)(hb0:0<b)(ha:Sm a)(hb:Sm b):a0b C0 226 [smI a,smI b] (smI (a / b)):=by
 refine a0c.walk w1 b4A rfl fun F=>?_
 refine fR 0 ?_;refine OkS.seq ?_;refine fR 100 ?_;refine dI (a4B b) ?_;have e1:decide (max (-1) (min 1 b)<0)=false:=decide_eq_false (by omega);rw [e1];refine ifI ?_;refine skI ?_;refine fR 300 ?_;refine dI (b1F a b hb0 ha hb) ?_;refine fR 400 ?_;refine rtI ?_;exact a0a rfl IsPure.out
theorem c2G (z:Int)(h:Sm z):a0b C0 196 [smI z] (smI (z.natAbs:Nat)):=by
 refine a0c.walk w1 b4y rfl fun F=>?_
 refine fR 0 ?_;refine OkS.seq ?_;refine fR 100 ?_;refine ifI ?_
 (refine brI (fun h5=>?_) (fun h5=>?_))<;>(try simp only [Bool.not_eq_true',Bool.not_eq_false'] at h5)<;>(try simp only [h5])
 ·have hz:z<0:=by simpa using h5
  have e : -z=(z.natAbs:Nat):=by omega
  refine fR 200 ?_;refine dI (b2o z h) ?_;rw [e];refine rtI ?_;exact a0a rfl IsPure.out
 ·have hz:¬ z<0:=by simpa using h5
  have e:z=(z.natAbs:Nat):=by omega
  refine skI ?_;refine fR 300 ?_;refine rtI ?_;exact a0a (by rw [← e]) IsPure.out
theorem c4g (a b:Int)(ha:Sm a)(hb:Sm b):a0b C0 127 [smI a,smI b] (smI (Nat.gcd a.natAbs b.natAbs:Nat)):=by
 refine a0c.walk w1 b4u rfl fun F=>?_
 have h1:a.natAbs≤9223372036854775807:=by have:=ha.1;have:=ha.2;omega
 have h2:b.natAbs≤9223372036854775807:=by have:=hb.1;have:=hb.2;omega
 refine fR 0 ?_;refine OkS.seq ?_;refine OkS.regD w1 100 [0,1,2] [3,4,5] (by kernel_rfl) ?_;refine nxI ?_;refine a0n.same _ (c2G a ha) inferInstance ?_;refine nxI ?_;refine dI (c2G b hb) ?_;refine OkS.seq ?_;refine OkS.block ?_;refine OkS.loop (α:=Nat × Nat × Nat) (fun p=>⟨[(2,.optr 0 0 2 0 0),(3,.optr 1 1 2 0 0),(4,.optr 2 2 2 0 0)],[⟨2,2,112,2,[smI 0]⟩,⟨1,1,112,2,[smI p.2.1]⟩,⟨0,0,112,2,[smI p.1]⟩],p.2.2⟩) (fun p=>p.2.1)
  (fun p=>Nat.gcd p.1 p.2.1=Nat.gcd a.natAbs b.natAbs∧p.1≤9223372036854775807∧p.2.1≤9223372036854775807) (a.natAbs,b.natAbs,_) ⟨rfl,h1,h2⟩ wkI ?_
 rintro ⟨x,y,n⟩ F ⟨g1,g2,g3⟩;dsimp only at g1 g2 g3 ⊢;refine OkS.seq ?_;refine fR 200 ?_;refine dI (a4B y) ?_;refine ifI ?_
 (refine brI (fun h13=>?_) (fun h13=>?_))<;>(try simp only [Bool.not_eq_true',Bool.not_eq_false'] at h13)<;>(try simp only [h13])
 ·have hy:0<y:=by
   simp at h13;omega
  refine skI ?_;refine OkS.block ?_;refine fR 300 ?_;refine dI (a7W x y hy g2 g3) ?_;refine OkS.regW w1 400 [0,1,2] [3] 2 [0] (0) (by kernel_rfl) (by kernel_rfl) ?_;refine nxI ?_;refine nxI ?_;have hm:x%y<y:=Nat.mod_lt x hy;refine ⟨(y,x%y,_),⟨?_,g3,by dsimp only;omega⟩,hm,wkI⟩;rw [← g1,Nat.gcd_comm x y,Nat.gcd_rec y x,Nat.gcd_comm]
 ·have hy:y=0:=by
   apply Classical.byContradiction;intro h0;simp at h13;omega
  subst hy;refine exI ?_;refine fR 500 ?_;refine rtI ?_;refine a0a ?_ IsPure.out;rw [← g1,Nat.gcd_zero_right]
theorem b0N (a b:Int)(hb0:0<b)(ha:Sm a)(hb:Sm b):a0b C0 179 [smI a,smI b] (smF (a / (Nat.gcd a.natAbs b.natAbs:Nat)) (b / (Nat.gcd a.natAbs b.natAbs:Nat))):=by
 refine a0c.walk w1 b1P rfl fun F=>?_
 have hg:0<Nat.gcd a.natAbs b.natAbs:=Nat.gcd_pos_of_pos_right _ (by omega);have hgl:Nat.gcd a.natAbs b.natAbs≤b.natAbs:=Nat.gcd_le_right _ (by omega);have hgs:Sm (Nat.gcd a.natAbs b.natAbs:Nat):=⟨by omega,by have:=hb.2;omega⟩
 refine fR 0 ?_;refine OkS.seq ?_;refine fR 100 ?_;refine dI (a4B b) ?_;have e1:decide (max (-1) (min 1 b)<0)=false:=decide_eq_false (by omega);rw [e1];refine ifI ?_;refine skI ?_;refine OkS.seq ?_;refine sZ 300 ?_
 repeat' (first|(refine And.intro (by exact sdI) ?_;refine dsI ?_)|((refine brI (fun hb=>?_) (fun hb=>?_))<;>(try simp only [Bool.not_eq_true',Bool.not_eq_false'] at hb)<;>(try simp only [hb])<;>(refine dsI ?_)))
 refine ifI ?_
 (refine brI (fun hb1=>?_) (fun hb1=>?_))<;>(try simp only [Bool.not_eq_true',Bool.not_eq_false'] at hb1)<;>(try simp only [hb1])
 ·have hb1:b=1:=by simpa using hb1
  subst hb1;refine fR 400 ?_;refine rtI ?_;refine a0a ?_ IsPure.out
  have:Nat.gcd a.natAbs (Int.natAbs 1)=1:=Nat.gcd_one_right _
  rw [this];simp
 ·refine skI ?_
  refine fR 500 ?_;refine dI (c4g a b ha hb) ?_;refine OkS.seq ?_;refine OkS.regD w1 600 [0,1,2,3,4] [5,6,7] (by kernel_rfl) ?_;refine nxI ?_;refine a0n.same _ (b5c a (Nat.gcd a.natAbs b.natAbs:Nat) (by omega) ha hgs) inferInstance ?_;refine nxI ?_;refine dI (b5c b (Nat.gcd a.natAbs b.natAbs:Nat) (by omega) hb hgs) ?_;refine rtI ?_;exact a0a rfl IsPure.out
structure Q2 where
 n:Int
 d:Int
abbrev Q2.D (q:Q2):D:=smF q.n q.d
def mkQ (a b:Int):Q2:=⟨a / (Nat.gcd a.natAbs b.natAbs:Nat),b / (Nat.gcd a.natAbs b.natAbs:Nat)⟩
theorem b5x (z:Int):a0b C0 105 [smI z] (smF z 1):=by
 refine a0c.walk w1 b7P rfl fun F=>?_
 refine fR 0 ?_;refine OkS.seq ?_;refine OkS.regD w1 100 [0,1] [2,3] (by kernel_rfl) ?_;refine nxI ?_;refine a0n.same _ (b3F 1) inferInstance ?_;refine nxI ?_;refine rtI ?_;exact a0a rfl IsPure.out
theorem d3b (z:Int):a0b C0 77 [i64 z] (smF z 1):=by
 refine a0c.walk w1 d0V rfl fun F=>?_
 refine fR 0 ?_;refine fR 100 ?_;refine dI (b3F z) ?_;refine dI (b5x z) ?_;refine rtI ?_;exact a0a rfl IsPure.out
def c2I (p q:Q2):Q2:=if p.d=1∧q.d=1 then ⟨p.n+q.n,1⟩ else mkQ (p.n*q.d+q.n*p.d) (p.d*q.d)
theorem b7E (p q:Q2)(hp:0<p.d)(hq:0<q.d)(h1:Sm p.n)(h2:Sm q.n)(h3:Sm p.d)(h4:Sm q.d)(h5:Sm (p.n*q.d))(h6:Sm (q.n*p.d))(h7:Sm (p.n*q.d+q.n*p.d))(h8:Sm (p.d*q.d)) :
  a0b C0 104 [p.D,q.D] (c2I p q).D:=by
 refine a0c.walk w1 b7O rfl fun F=>?_
 obtain ⟨a,b⟩:=p;obtain ⟨c,d⟩:=q;dsimp only at *;unfold c2I Q2.D;dsimp only;have hbd:0<b*d:=Int.mul_pos hp hq
 by_cases e1:b=1
 ·have fb:(b==1)=true:=by rw [e1];rfl
  have c1:=a3B a b;rw [fb] at c1
  by_cases e2:d=1
  ·have fd:(d==1)=true:=by rw [e2];rfl
   have c2:=a3B c d;rw [fd] at c2;rw [if_pos ⟨e1,e2⟩];have h7':Sm (a+c):=by rw [e1,e2] at h7;simpa using h7
   refine fR 0 ?_;refine OkS.seq ?_;refine fR 100 ?_;refine dI c1 ?_;dsimp only [a6k];refine nxI ?_;dsimp only [a6k];refine nxI ?_;refine dI c2 ?_;refine ifI ?_;refine fR 200 ?_;refine dI (b6G a c h7') ?_;refine dI (b5x (a+c)) ?_;refine rtI ?_;exact a0a rfl IsPure.out
  ·have fd:(d==1)=false:=by simpa using e2
   have c2:=a3B c d;rw [fd] at c2;rw [if_neg fun h=>e2 h.2];refine fR 0 ?_;refine OkS.seq ?_;refine fR 100 ?_;refine dI c1 ?_;dsimp only [a6k];refine nxI ?_;dsimp only [a6k];refine nxI ?_;refine dI c2 ?_;refine ifI ?_;refine skI ?_;refine OkS.seq ?_;refine OkS.regD w1 300 [0,1,2,3,4,5,6,7,8,9,10,11,12,13,14] [15,16,17] (by kernel_rfl) ?_;refine nxI ?_;refine a0n.same _ (a5l a d h5 h1 h4) inferInstance ?_;refine nxI ?_;refine a0n.same _ (a5l c b h6 h2 h3) inferInstance ?_;refine nxI ?_;refine a0n.same _ (b6G (a*d) (c*b) h7) inferInstance ?_;refine nxI ?_;refine dI (a5l b d h8 h3 h4) ?_;refine dI (b0N (a*d+c*b) (b*d) hbd h7 h8) ?_;refine rtI ?_;exact a0a rfl IsPure.out
 ·have fb:(b==1)=false:=by simpa using e1
  have c1:=a3B a b;rw [fb] at c1;rw [if_neg fun h=>e1 h.1];refine fR 0 ?_;refine OkS.seq ?_;refine fR 100 ?_;refine dI c1 ?_;dsimp only [b0w];refine nxI ?_;dsimp only [b0w];refine nxI ?_;refine ifI ?_;refine skI ?_;refine OkS.seq ?_;refine OkS.regD w1 300 [0,1,2,3,4,5,6,7,8,9,10,11,12,13,14] [15,16,17] (by kernel_rfl) ?_;refine nxI ?_;refine a0n.same _ (a5l a d h5 h1 h4) inferInstance ?_;refine nxI ?_;refine a0n.same _ (a5l c b h6 h2 h3) inferInstance ?_;refine nxI ?_;refine a0n.same _ (b6G (a*d) (c*b) h7) inferInstance ?_;refine nxI ?_;refine dI (a5l b d h8 h3 h4) ?_;refine dI (b0N (a*d+c*b) (b*d) hbd h7 h8) ?_;refine rtI ?_;exact a0a rfl IsPure.out
theorem b7M (p q:Q2)(hp:0<p.d)(hq:0<q.d)(h1:Sm p.n)(h2:Sm q.n)(h3:Sm p.d)(h4:Sm q.d)(h5:Sm (p.n*q.n))(h8:Sm (p.d*q.d)) :
  a0b C0 106 [p.D,q.D] (mkQ (p.n*q.n) (p.d*q.d)).D:=by
 refine a0c.walk w1 b7Q rfl fun F=>?_
 obtain ⟨a,b⟩:=p;obtain ⟨c,d⟩:=q;unfold Q2.D;dsimp only at *;have hbd:0<b*d:=Int.mul_pos hp hq;refine fR 0 ?_;refine OkS.seq ?_;refine OkS.regD w1 100 [0,1,2,3,4,5,6,7,8] [9,10,11] (by kernel_rfl) ?_;refine nxI ?_;refine a0n.same _ (a5l a c h5 h1 h2) inferInstance ?_;refine nxI ?_;refine dI (a5l b d h8 h3 h4) ?_;refine dI (b0N (a*c) (b*d) hbd h5 h8) ?_;refine rtI ?_;exact a0a rfl IsPure.out
def d1v (p:Q2):Q2:=⟨-p.n,p.d⟩
theorem c5C (p:Q2)(h:Sm p.n):a0b C0 140 [p.D] (d1v p).D:=by
 refine a0c.walk w1 b7U rfl fun F=>?_
 obtain ⟨a,b⟩:=p;unfold d1v Q2.D;dsimp only at *;refine fR 0 ?_;refine OkS.seq ?_;refine OkS.regD w1 100 [0,1,2,3,4] [5,6] (by kernel_rfl) ?_;refine nxI ?_;refine a0n.same _ (b2o a h) inferInstance ?_;refine nxI ?_;refine rtI ?_;exact a0a rfl IsPure.out
theorem b9Q {z:Int}(h:Sm z):Sm (-z):=⟨by have:=h.2;omega,by have:=h.1;omega⟩
theorem c5H (p q:Q2)(hp:0<p.d)(hq:0<q.d)(h1:Sm p.n)(h2:Sm q.n)(h3:Sm p.d)(h4:Sm q.d)(h5:Sm (p.n*q.d))(h6:Sm (-q.n*p.d))(h7:Sm (p.n*q.d + -q.n*p.d))(h8:Sm (p.d*q.d)) :
  a0b C0 133 [p.D,q.D] (c2I p (d1v q)).D:=by
 refine a0c.walk w1 b7T rfl fun F=>?_
 have c1:=c5C q h2;have c2:=b7E p (d1v q) hp hq h1 (b9Q h2) h3 h4 h5 h6 h7 h8;obtain ⟨a,b⟩:=p;obtain ⟨c,d⟩:=q;unfold Q2.D at *;dsimp only at *;refine fR 0 ?_;refine OkS.seq ?_;refine OkS.regD w1 100 [0,1,2] [3,4] (by kernel_rfl) ?_;refine nxI ?_;refine a0n.same _ (c1) inferInstance ?_;refine nxI ?_;refine dI c2 ?_;refine rtI ?_;exact a0a rfl IsPure.out
def b4G (p:Q2):Q2:=if p.n<0 then mkQ (-p.d) (-p.n) else mkQ p.d p.n
theorem c1H (a b:Int)(hb0:b≠0)(ha:Sm a)(hb:Sm b):a0b C0 179 [smI a,smI b] (if b<0 then mkQ (-a) (-b) else mkQ a b).D:=by
 by_cases hn:b<0
 ·rw [if_pos hn]
  refine a0c.walk w1 b1P rfl fun F=>?_
  unfold mkQ Q2.D;dsimp only;have ha':=b9Q ha;have hb':=b9Q hb;have q1:=b2o a ha;have q2:=b2o b hb;have hb1:0 < -b:=by omega
  have e1:decide (max (-1) (min 1 b)<0)=true:=decide_eq_true (by omega);have q3:=a4B b;generalize -a=x at *;generalize -b=y at *;have hg:0<Nat.gcd x.natAbs y.natAbs:=Nat.gcd_pos_of_pos_right _ (by omega);have hgl:Nat.gcd x.natAbs y.natAbs≤y.natAbs:=Nat.gcd_le_right _ (by omega);have hgs:Sm (Nat.gcd x.natAbs y.natAbs:Nat):=⟨by omega,by have:=hb'.2;omega⟩
  refine fR 0 ?_;refine OkS.seq ?_;refine fR 100 ?_;refine dI q3 ?_;rw [e1];refine ifI ?_;refine OkS.regD w1 200 [0,1,2] [3,4,5] (by kernel_rfl) ?_;refine nxI ?_;refine a0n.same _ (q1) inferInstance ?_;refine nxI ?_;refine dI q2 ?_;refine OkS.seq ?_;refine sZ 300 ?_
  repeat' (first|(refine And.intro (by exact sdI) ?_;refine dsI ?_)|((refine brI (fun hb=>?_) (fun hb=>?_))<;>(try simp only [Bool.not_eq_true',Bool.not_eq_false'] at hb)<;>(try simp only [hb])<;>(refine dsI ?_)))
  refine ifI ?_
  (refine brI (fun hb2=>?_) (fun hb2=>?_))<;>(try simp only [Bool.not_eq_true',Bool.not_eq_false'] at hb2)<;>(try simp only [hb2])
  ·have hb1:y=1:=by simpa using hb2
   subst hb1;refine fR 400 ?_;refine rtI ?_;refine a0a ?_ IsPure.out
   have:Nat.gcd x.natAbs (Int.natAbs 1)=1:=Nat.gcd_one_right _
   rw [this];simp
  ·refine skI ?_
   refine fR 500 ?_;refine dI (c4g x y ha' hb') ?_;refine OkS.seq ?_;refine OkS.regD w1 600 [0,1,2,3,4] [5,6,7] (by kernel_rfl) ?_;refine nxI ?_;refine a0n.same _ (b5c x (Nat.gcd x.natAbs y.natAbs:Nat) (by omega) ha' hgs) inferInstance ?_;refine nxI ?_;refine dI (b5c y (Nat.gcd x.natAbs y.natAbs:Nat) (by omega) hb' hgs) ?_;refine rtI ?_;exact a0a rfl IsPure.out
 ·rw [if_neg hn]
  exact b0N a b (by omega) ha hb
theorem c5A (p:Q2)(h0:p.n≠0)(h1:Sm p.n)(h2:Sm p.d):a0b C0 175 [p.D] (b4G p).D:=by
 refine a0c.walk w1 b7Y rfl fun F=>?_
 have c1:=c1H p.d p.n h0 h2 h1;obtain ⟨a,b⟩:=p;unfold b4G Q2.D at *;dsimp only at *;refine fR 0 ?_;refine fR 100 ?_;refine dI c1 ?_;refine rtI ?_;exact a0a rfl IsPure.out
theorem c5v (p q:Q2)(h0:q.n≠0)(hp:0<p.d)(hq:0<(b4G q).d)(h1:Sm p.n)(h2:Sm q.n)(h3:Sm p.d)(h4:Sm q.d)(g1:Sm (b4G q).n)(g2:Sm (b4G q).d)(h5:Sm (p.n*(b4G q).n))(h8:Sm (p.d*(b4G q).d)) :
  a0b C0 102 [p.D,q.D] (mkQ (p.n*(b4G q).n) (p.d*(b4G q).d)).D:=by
 refine a0c.walk w1 b7N rfl fun F=>?_
 have c1:=c5A q h0 h2 h4;have c2:=b7M p (b4G q) hp hq h1 g1 h3 g2 h5 h8;generalize b4G q=r at *;obtain ⟨a,b⟩:=p;obtain ⟨c,d⟩:=q;obtain ⟨e,f⟩:=r;unfold Q2.D at *;dsimp only at *;refine fR 0 ?_;refine OkS.seq ?_;refine OkS.regD w1 100 [0,1,2] [3,4] (by kernel_rfl) ?_;refine nxI ?_;refine a0n.same _ (c1) inferInstance ?_;refine nxI ?_;refine dI c2 ?_;refine rtI ?_;exact a0a rfl IsPure.out
def a6e (a b:Int):Int:=if a<b then -1 else if b<a then 1 else 0
theorem b8n (a b:Int):a0b C0 203 [smI a,smI b] (i64 (a6e a b)):=by
 refine a0c.walk w1 b8a rfl fun F=>?_
 unfold a6e;refine fR 0 ?_;refine OkS.seq ?_;refine sZ 100 ?_
 repeat' (first|(refine And.intro (by exact sdI) ?_;refine dsI ?_)|((refine brI (fun hb=>?_) (fun hb=>?_))<;>(try simp only [Bool.not_eq_true',Bool.not_eq_false'] at hb)<;>(try simp only [hb])<;>(refine dsI ?_)))
 refine ifI ?_;refine OkS.seq ?_;refine OkS.block ?_;refine fR 200 ?_;refine ifI ?_
 (refine brI (fun h13=>?_) (fun h13=>?_))<;>(try simp only [Bool.not_eq_true',Bool.not_eq_false'] at h13)<;>(try simp only [h13])
 ·have h1:a<b:=by simpa using h13
  rw [if_pos h1];refine fR 300 ?_;refine rtI ?_;exact a0a rfl IsPure.out
 ·have h1:¬ a<b:=by simpa using h13
  rw [if_neg h1];refine fR 400 ?_;refine ifI ?_
  (refine brI (fun h19=>?_) (fun h19=>?_))<;>(try simp only [Bool.not_eq_true',Bool.not_eq_false'] at h19)<;>(try simp only [h19])
  ·have h2:b<a:=by simpa using h19
   rw [if_pos h2];refine fR 500 ?_;refine rtI ?_;exact a0a rfl IsPure.out
  ·have h2:¬ b<a:=by simpa using h19
   rw [if_neg h2];refine skI ?_;refine fR 600 ?_;refine rtI ?_;exact a0a rfl IsPure.out
theorem b7G (p q:Q2)(h1:Sm p.n)(h2:Sm q.n)(h3:Sm p.d)(h4:Sm q.d)(h5:Sm (p.n*q.d))(h6:Sm (q.n*p.d)):a0b C0 141 [p.D,q.D] (i64 (a6e (p.n*q.d) (q.n*p.d))):=by
 refine a0c.walk w1 b7V rfl fun F=>?_
 obtain ⟨a,b⟩:=p;obtain ⟨c,d⟩:=q;unfold Q2.D;dsimp only at *;refine fR 0 ?_;refine OkS.seq ?_;refine OkS.regD w1 100 [0,1,2,3,4,5,6,7,8] [9,10,11] (by kernel_rfl) ?_;refine nxI ?_;refine a0n.same _ (a5l a d h5 h1 h4) inferInstance ?_;refine nxI ?_;refine dI (a5l c b h6 h2 h3) ?_;refine dI (b8n (a*d) (c*b)) ?_;refine rtI ?_;exact a0a rfl IsPure.out
theorem c1p (p:Q2):a0b C0 68 [p.D] (i64 (max (-1) (min 1 p.n))):=by
 refine a0c.walk w1 c5E rfl fun F=>?_
 obtain ⟨a,b⟩:=p;unfold Q2.D;dsimp only;refine fR 0 ?_;refine fR 100 ?_;refine dI (a4B a) ?_;refine rtI ?_;exact a0a rfl IsPure.out
theorem b4c {n k:Nat}(h:Nat.blt n k=true):n<k:=by rw [Nat.blt_eq] at h;exact h
def smB:Int→Bool
 | .ofNat n=>Nat.blt n 9223372036854775808
 | .negSucc n=>Nat.blt n 9223372036854775807
theorem a0C {z:Int}(h:smB z=true):Sm z:=by
 cases z with
 | ofNat n=>have:=b4c h;exact ⟨by rw [Int.ofNat_eq_natCast];omega,by rw [Int.ofNat_eq_natCast];omega⟩
 | negSucc n=>have:=b4c h;exact ⟨by omega,by omega⟩
def psB:Int→Bool
 | .ofNat n=>Nat.blt 0 n
 | .negSucc _=>false
theorem a6S {z:Int}(h:psB z=true):0<z:=by
 cases z with
 | ofNat n=>have:=b4c h;rw [Int.ofNat_eq_natCast];omega
 | negSucc n=>cases h
def nzB:Int→Bool
 | .ofNat n=>Nat.blt 0 n
 | .negSucc _=>true
theorem d1y {z:Int}(h:nzB z=true):z≠0:=by
 cases z with
 | ofNat n=>have:=b4c h;rw [Int.ofNat_eq_natCast];omega
 | negSucc n=>omega
def asQ:D→Option Q2
 | .agg [.prim (.int .i64 a),.prim (.slice none 0 0),.prim (.int .i64 b),.prim (.slice none 0 0)]=>some ⟨a,b⟩
 | _=>none
theorem b6M {d:D}{q:Q2}(h:asQ d=some q):d=q.D:=by
 unfold asQ at h;split at h
 ·cases h;rfl
 ·cases h
def c1R (p q:Q2):Bool:=psB p.d&&psB q.d&&smB p.n&&smB q.n&&smB p.d&&smB q.d&&smB (p.n*q.d)&&smB (q.n*p.d)&&smB (p.n*q.d+q.n*p.d)&&smB (p.d*q.d)
def b8O (p q:Q2):Bool:=psB p.d&&psB q.d&&smB p.n&&smB q.n&&smB p.d&&smB q.d&&smB (p.n*q.d)&&smB (-q.n*p.d)&&smB (p.n*q.d + -q.n*p.d)&&smB (p.d*q.d)
def b8S (p q:Q2):Bool:=psB p.d&&psB q.d&&smB p.n&&smB q.n&&smB p.d&&smB q.d&&smB (p.n*q.n)&&smB (p.d*q.d)
def d1B (p q:Q2):Bool:=smB p.n&&smB q.n&&smB p.d&&smB q.d&&smB (p.n*q.d)&&smB (q.n*p.d)
def d1F (p q r:Q2):Bool:=nzB q.n&&psB p.d&&psB r.d&&smB p.n&&smB q.n&&smB p.d&&smB q.d&&smB r.n&&smB r.d&&smB (p.n*r.n)&&smB (p.d*r.d)
def b6t (p q:Q2):Q2:=c2I p (d1v q)
def c4q (p q:Q2):Q2:=mkQ (p.n*q.n) (p.d*q.d)
theorem b7g {p q:Q2}(hb:b8O p q=true):a0b C0 133 [p.D,q.D] (b6t p q).D:=by
 simp only [b8O,Bool.and_eq_true] at hb;obtain ⟨⟨⟨⟨⟨⟨⟨⟨⟨b1,b2⟩,b3⟩,b4⟩,b5⟩,b6⟩,b7⟩,b8⟩,b9⟩,b10⟩:=hb;exact c5H p q (a6S b1) (a6S b2) (a0C b3) (a0C b4) (a0C b5) (a0C b6) (a0C b7) (a0C b8) (a0C b9) (a0C b10)
theorem c4H {p q:Q2}(hb:c1R p q=true):a0b C0 104 [p.D,q.D] (c2I p q).D:=by
 simp only [c1R,Bool.and_eq_true] at hb;obtain ⟨⟨⟨⟨⟨⟨⟨⟨⟨b1,b2⟩,b3⟩,b4⟩,b5⟩,b6⟩,b7⟩,b8⟩,b9⟩,b10⟩:=hb;exact b7E p q (a6S b1) (a6S b2) (a0C b3) (a0C b4) (a0C b5) (a0C b6) (a0C b7) (a0C b8) (a0C b9) (a0C b10)
theorem b9c {p q:Q2}(hb:b8S p q=true):a0b C0 106 [p.D,q.D] (c4q p q).D:=by
 simp only [b8S,Bool.and_eq_true] at hb;obtain ⟨⟨⟨⟨⟨⟨⟨b1,b2⟩,b3⟩,b4⟩,b5⟩,b6⟩,b7⟩,b8⟩:=hb;exact b7M p q (a6S b1) (a6S b2) (a0C b3) (a0C b4) (a0C b5) (a0C b6) (a0C b7) (a0C b8)
abbrev ptD (x y:Q2):D:=.agg [i64 x.n,a2d,i64 x.d,a2d,i64 y.n,a2d,i64 y.d,a2d]
def c5m (dx dy:Q2):Q2:=c2I (c4q dx dx) (c4q dy dy)
def b8P (a b c d dx dy:Q2):Bool:=b8O a c&&b8O b d&&b8S dx dx&&b8S dy dy&&c1R (c4q dx dx) (c4q dy dy)
theorem c5n {a b c d:Q2}(hb:b8P a b c d (b6t a c) (b6t b d)=true):a0b C0 79 [ptD a b,ptD c d] (c5m (b6t a c) (b6t b d)).D:=by
 simp only [b8P,Bool.and_eq_true] at hb;obtain ⟨⟨⟨⟨b1,b2⟩,b3⟩,b4⟩,b5⟩:=hb;have c1:=b7g b1;have c2:=b7g b2;have c3:=b9c b3;have c4:=b9c b4;have c5:=c4H b5;unfold c5m;generalize b6t a c=dx at *;generalize b6t b d=dy at *;generalize c4q dx dx=px at *;generalize c4q dy dy=py at *;generalize c2I px py=s at *;obtain ⟨a1,a2⟩:=a;obtain ⟨b1,b2⟩:=b;obtain ⟨c1',c2'⟩:=c;obtain ⟨d1,d2⟩:=d;obtain ⟨x1,x2⟩:=dx;obtain ⟨y1,y2⟩:=dy;obtain ⟨p1,p2⟩:=px;obtain ⟨q1,q2⟩:=py;obtain ⟨s1,s2⟩:=s;unfold Q2.D ptD at *;dsimp only at *;refine a0c.walk w1 c5F rfl fun F=>?_
 refine fR 0 ?_;refine OkS.seq ?_;refine OkS.regD w1 100 [0,1,2,3,4,5,6,7,8,9,10,11] [12,13] (by kernel_rfl) ?_;refine nxI ?_;refine a0n.same _ (c1) inferInstance ?_;refine nxI ?_;refine a0n.same _ (c2) inferInstance ?_;refine nxI ?_;refine OkS.seq ?_;refine OkS.regD w1 200 [0,1,2,3,4] [5,6,7] (by kernel_rfl) ?_;refine nxI ?_;refine a0n.same _ (c3) inferInstance ?_;refine nxI ?_;refine dI c4 ?_;refine dI c5 ?_;refine rtI ?_;exact a0a rfl IsPure.out
def d2r:D→Option (Q2 × Q2)
 | .agg [.prim (.int .i64 a),.prim (.slice none 0 0),.prim (.int .i64 b),.prim (.slice none 0 0),.prim (.int .i64 c),.prim (.slice none 0 0),.prim (.int .i64 d),.prim (.slice none 0 0)]=>some (⟨a,b⟩,⟨c,d⟩)
 | _=>none
theorem b6L {d:D}{q:Q2 × Q2}(h:d2r d=some q):d=ptD q.1 q.2:=by
 unfold d2r at h;split at h
 ·cases h;rfl
 ·cases h
instance  (a b:Q2):CellsPure (ptD a b):=inferInstance
def c5P (b:Bool)(d:D):Option D:=match b with
 | true=>some d
 | false=>none
theorem a6w {b:Bool}{d d':D}(h:c5P b d=some d'):b=true∧d=d':=by
 cases b
 ·cases h
 ·cases h;exact ⟨rfl,rfl⟩
def d4l (f:Nat)(ds:List D):Option D:=match ds with
 | [x,y]=>match Nat.beq f 79 with
  | true=>match d2r x with
   | some (a,b)=>match d2r y with
    | some (c,d)=>c5P (b8P a b c d (b6t a c) (b6t b d)) (c5m (b6t a c) (b6t b d)).D
    | none=>none
   | none=>none
  | false=>match asQ x with
   | some p=>match asQ y with
    | some q=>match Nat.beq f 104 with
     | true=>c5P (c1R p q) (c2I p q).D
     | false=>match Nat.beq f 133 with
      | true=>c5P (b8O p q) (b6t p q).D
      | false=>match Nat.beq f 106 with
       | true=>c5P (b8S p q) (c4q p q).D
       | false=>match Nat.beq f 141 with
        | true=>c5P (d1B p q) (i64 (a6e (p.n*q.d) (q.n*p.d)))
        | false=>match Nat.beq f 102 with
         | true=>c5P (d1F p q (b4G q)) (mkQ (p.n*(b4G q).n) (p.d*(b4G q).d)).D
         | false=>none
    | none=>none
   | none=>none
 | [x]=>match Nat.beq f 68 with
  | true=>match asQ x with
   | some p=>some (i64 (max (-1) (min 1 p.n)))
   | none=>none
  | false=>match Nat.beq f 77 with
   | true=>match x with
    | .prim (.int .i64 z)=>some (smF z 1)
    | _=>none
   | false=>none
 | _=>none
theorem d1N (p q:Q2):ArePure [p.D,q.D]:=inferInstance
theorem c6m {f:Nat}{ds:List D}{d:D}(h:d4l f ds=some d):a0b C0 f ds d∧ArePure ds:=by
 unfold d4l at h;split at h<;>first|(cases h;done)|skip
 ·split at h
  ·rename_i hf
   obtain rfl:=Nat.eq_of_beq_eq_true hf;split at h<;>first|(cases h;done)|skip
   rename_i ha;split at h<;>first|(cases h;done)|skip
   rename_i hb;obtain rfl:=b6L ha;obtain rfl:=b6L hb;obtain ⟨hk,rfl⟩:=a6w h;exact ⟨c5n hk,inferInstance⟩
  split at h<;>first|(cases h;done)|skip
  rename_i p hp;split at h<;>first|(cases h;done)|skip
  rename_i q hq;obtain rfl:=b6M hp;obtain rfl:=b6M hq;refine ⟨?_,d1N p q⟩;split at h
  ·rename_i hf
   obtain rfl:=Nat.eq_of_beq_eq_true hf;obtain ⟨hb,rfl⟩:=a6w h;exact c4H hb
  split at h
  ·rename_i hf
   obtain rfl:=Nat.eq_of_beq_eq_true hf;obtain ⟨hb,rfl⟩:=a6w h;exact b7g hb
  split at h
  ·rename_i hf
   obtain rfl:=Nat.eq_of_beq_eq_true hf;obtain ⟨hb,rfl⟩:=a6w h;exact b9c hb
  split at h
  ·rename_i hf
   obtain rfl:=Nat.eq_of_beq_eq_true hf;obtain ⟨hb,rfl⟩:=a6w h;simp only [d1B,Bool.and_eq_true] at hb;obtain ⟨⟨⟨⟨⟨b1,b2⟩,b3⟩,b4⟩,b5⟩,b6⟩:=hb;exact b7G p q (a0C b1) (a0C b2) (a0C b3) (a0C b4) (a0C b5) (a0C b6)
  split at h<;>first|(cases h;done)|skip
  rename_i hf;obtain rfl:=Nat.eq_of_beq_eq_true hf;obtain ⟨hb,rfl⟩:=a6w h;simp only [d1F,Bool.and_eq_true] at hb;obtain ⟨⟨⟨⟨⟨⟨⟨⟨⟨⟨b1,b2⟩,b3⟩,b4⟩,b5⟩,b6⟩,b7⟩,b8⟩,b9⟩,b10⟩,b11⟩:=hb;exact c5v p q (d1y b1) (a6S b2) (a6S b3) (a0C b4) (a0C b5) (a0C b6) (a0C b7) (a0C b8) (a0C b9) (a0C b10) (a0C b11)
 ·split at h
  ·rename_i hf
   obtain rfl:=Nat.eq_of_beq_eq_true hf;split at h<;>first|(cases h;done)|skip
   rename_i p hp;obtain rfl:=b6M hp;cases h;exact ⟨c1p p,inferInstance⟩
  split at h<;>first|(cases h;done)|skip
  rename_i hf;obtain rfl:=Nat.eq_of_beq_eq_true hf;split at h<;>first|(cases h;done)|skip
  cases h;exact ⟨d3b _,inferInstance⟩
def c7u (o:Nat→List D→Option D)(f:Nat)(ds:List D):Option D:=match d4l f ds with
 | some d=>some d
 | none=>o f ds
theorem b3H {o:Nat→List D→Option D}(ho:∀ f ds d,o f ds=some d→a0b C0 f ds d∧ArePure ds)(f:Nat)(ds:List D)(d:D)(h:c7u o f ds=some d):a0b C0 f ds d∧ArePure ds:=by
 unfold c7u at h;split at h
 ·rename_i hf;cases h;exact c6m hf
 ·exact ho _ _ _ h
def c5q:Value→Value→Bool
 | .int .i64 a,.int .i64 b=>a==b
 | .string a,.string b=>a.data.toList==b.data.toList
 | .bool a,.bool b=>a==b
 | .slice none 0 0,.slice none 0 0=>true
 | _,_=>false
theorem c1g {a b:Value}(h:c5q a b=true):a=b:=by
 unfold c5q at h;split at h
 ·rw [eq_of_beq h]
 ·rename_i a b
  have:=eq_of_beq h
  congr 1
  exact ByteArray.ext (Array.toList_inj.1 this)
 ·rw [eq_of_beq h]
 ·rfl
 ·cases h
def eqL (f:D→D→Bool):List D→List D→Bool
 | [],[]=>true
 | a::l,b::m=>f a b&&eqL f l m
 | _,_=>false
theorem b1J {f:D→D→Bool}(hf:∀ a b,f a b=true→a=b):∀ {l m:List D},eqL f l m=true→l=m
 | [],[],_=>rfl
 | a::l,b::m,h=>by
  simp only [eqL,Bool.and_eq_true] at h;rw [hf a b h.1,b1J hf h.2]
 | [],_::_,h=>by simp [eqL] at h
 | _::_,[],h=>by simp [eqL] at h
def eqD:Nat→D→D→Bool
 | 0,_,_=>false
 | n+1,a,b=>match a,b with
  | .prim a,.prim b=>c5q a b
  | .agg l,.agg m=>eqL (eqD n) l m
  | .sl x y l,.sl x' y' m=>(x==x')&&Nat.beq y y'&&eqL (eqD n) l m
  | _,_=>false
theorem b1I:∀ (n:Nat) (a b:D),eqD n a b=true→a=b
 | 0,_,_,h=>by simp [eqD] at h
 | n+1,a,b,h=>by
  unfold eqD at h;split at h
  ·rw [c1g h]
  ·rw [b1J (b1I n) h]
  ·simp only [Bool.and_eq_true] at h
   rw [eq_of_beq h.1.1,Nat.eq_of_beq_eq_true h.1.2,b1J (b1I n) h.2]
  ·cases h
def dig:Nat→Nat→List UInt8
 | 0,_=>[]
 | k+1,u=>match Nat.blt u 10 with
  | true=>[UInt8.ofNat (48+u)]
  | false=>dig k (u / 10)++[UInt8.ofNat (48+u%10)]
theorem b7h:∀ (k u:Nat),u<10^k→dig k u=Lib.decDigits u∨k=0
 | 0,_,_=>.inr rfl
 | k+1,u,h=>by
  left;unfold dig Lib.decDigits
  by_cases hu:u<10
  ·rw [dif_pos hu,show Nat.blt u 10=true from by rw [Nat.blt_eq];exact hu]
  ·rw [dif_neg hu,show Nat.blt u 10=false from by rw [← Bool.not_eq_true,Nat.blt_eq];exact hu]
   dsimp only;rw [Nat.pow_succ] at h;rcases b7h k (u / 10) (by omega) with h1|h1
   ·rw [h1]
   ·subst h1;simp at h;omega
def a1C:D:=.agg [.sl true 4 [.agg [.prim (.string ⟨#[109,111,105,115,116,117,114,101]⟩),.prim (.string ⟨#[49,47,53]⟩),.prim (.string ⟨#[104,97,108,102,45,117,112]⟩),.prim (.string ⟨#[49,47,49,48]⟩)],.agg [.prim (.string ⟨#[119,101,105,103,104,116]⟩),.prim (.string ⟨#[49,47,50]⟩),.prim (.string ⟨#[104,97,108,102,45,101,118,101,110]⟩),.prim (.string ⟨#[49,47,50]⟩)]],.sl true 3 [.agg [.prim (.string ⟨#[111,110,101]⟩),.sl true 1 [.prim (.string ⟨#[]⟩),.prim (.string ⟨#[55,56]⟩)],.sl true 1 [.prim (.string ⟨#[49,51]⟩),.prim (.string ⟨#[]⟩)]],.agg [.prim (.string ⟨#[116,119,111]⟩),.sl true 1 [.prim (.string ⟨#[]⟩),.prim (.string ⟨#[55,53]⟩)],.sl true 1 [.prim (.string ⟨#[49,52]⟩),.prim (.string ⟨#[]⟩)]],.agg [.prim (.string ⟨#[116,104,114,101,101]⟩),.sl true 1 [.prim (.string ⟨#[]⟩),.prim (.string ⟨#[]⟩)],.sl true 1 [.prim (.string ⟨#[49,54]⟩),.prim (.string ⟨#[]⟩)]]]]
def c7r:List D:=[.agg [i64 67,a2d,i64 5,a2d],.agg [i64 69,a2d,i64 5,a2d],.agg [i64 68,a2d,i64 5,a2d]]
def d4f:D:=.agg [i64 68,a2d,i64 5,a2d]
def c7t (f:Nat)(ds:List D):Option D:=match Nat.beq f 46 with
 | true=>match ds with
  | []=>some a1I
  | _=>none
 | false=>match Nat.beq f 145 with
  | true=>match ds with
   | []=>some b8s
   | _=>none
  | false=>match Nat.beq f 27 with
   | true=>match ds with
    | [d]=>match eqD 30 d a1C with
     | true=>some (i64 0)
     | false=>none
    | _=>none
   | false=>match Nat.beq f 67 with
    | true=>match ds with
     | [.prim (.string s)]=>some (boo (a8m s.data.toList))
     | _=>none
    | false=>match Nat.beq f 183 with
     | true=>match ds with
      | [.prim (.int .i64 (.ofNat z))]=>match Nat.ble z 9223372036854775807 with
       | true=>some (str ⟨(dig 19 z).toArray⟩)
       | false=>none
      | _=>none
     | false=>match Nat.beq f 199 with
      | true=>match ds with
       | [.prim (.string s)]=>match Nat.ble s.size 18 with
        | true=>match Lib.atoi s.data.toList with
         | some n=>some (.tup [i64 n,.prim .nilIface])
         | none=>none
        | false=>none
       | _=>none
      | false=>match Nat.beq f 64 with
       | true=>match ds with
        | [.sl _ z es]=>match Nat.beq z 4&&eqL (eqD 30) es c7r with
         | true=>some d4f
         | false=>none
        | _=>none
       | false=>none
def Kn:Prop:=a0b C0 27 [a1C] (i64 0)∧∀ b,a0b C0 64 [.sl b 4 c7r] d4f
theorem a6F:a2c a1C:=a0T (n:=30) (by kernel_rfl)
theorem c1J (b:Bool):a2c (.sl b 4 c7r):=by cases b<;>exact a0T (n:=30) (by kernel_rfl)
theorem b4V {d:D}(h:a2c d):ArePure [d]:=⟨fun x hx=>by simp at hx;subst hx;exact h⟩
theorem c6l (K:Kn)(f:Nat)(ds:List D)(d:D)(h:c7t f ds=some d):a0b C0 f ds d∧ArePure ds:=by
 unfold c7t at h;split at h
 ·rename_i hf
  obtain rfl:=Nat.eq_of_beq_eq_true hf;split at h<;>first|(cases h;done)|skip
  cases h;exact ⟨a6n,inferInstance⟩
 split at h
 ·rename_i hf
  obtain rfl:=Nat.eq_of_beq_eq_true hf;split at h<;>first|(cases h;done)|skip
  cases h;exact ⟨b4H,inferInstance⟩
 split at h
 ·rename_i hf
  obtain rfl:=Nat.eq_of_beq_eq_true hf;split at h<;>first|(cases h;done)|skip
  split at h<;>first|(cases h;done)|skip
  rename_i hd;obtain rfl:=b1I _ _ _ hd;cases h;exact ⟨K.1,b4V a6F⟩
 split at h
 ·rename_i hf
  obtain rfl:=Nat.eq_of_beq_eq_true hf;split at h<;>first|(cases h;done)|skip
  cases h;exact ⟨b2c _,inferInstance⟩
 split at h
 ·rename_i hf
  obtain rfl:=Nat.eq_of_beq_eq_true hf;split at h<;>first|(cases h;done)|skip
  split at h<;>first|(cases h;done)|skip
  rename_i z x hz;have hz:=Nat.le_of_ble_eq_true hz;cases h;refine ⟨?_,inferInstance⟩
  have:=b0K (z:Int) (by omega) (by omega)
  have e:Lib.itoa (z:Int)=dig 19 z:=by
   rcases b7h 19 z (Nat.lt_of_le_of_lt hz (by decide)) with h1|h1
   ·rw [h1];rfl
   ·cases h1
  rw [e] at this;exact this
 split at h
 ·rename_i hf
  obtain rfl:=Nat.eq_of_beq_eq_true hf;split at h<;>first|(cases h;done)|skip
  split at h<;>first|(cases h;done)|skip
  split at h<;>first|(cases h;done)|skip
  rename_i s b hs o n hn;cases h;exact ⟨b2X _ n (Nat.le_of_ble_eq_true hs) hn,inferInstance⟩
 split at h
 ·rename_i hf
  obtain rfl:=Nat.eq_of_beq_eq_true hf;split at h<;>first|(cases h;done)|skip
  split at h<;>first|(cases h;done)|skip
  rename_i hd;simp only [Bool.and_eq_true] at hd;obtain rfl:=Nat.eq_of_beq_eq_true hd.1;obtain rfl:=b1J (b1I _) hd.2;cases h;exact ⟨K.2 _,b4V (c1J _)⟩
 ·cases h
def mtA (t:Nat)(name:String):Option Nat:=match Nat.beq t 114 with
 | true=>match decide (name = "Cmp") with
  | true=>some 141
  | false=>none
 | false=>none
theorem b2l (t:Nat)(name:String)(f:Nat)(h:mtA t name=some f)(v:Value)(w:World):(method (C0.P.types.size+Made.depth) t v name).run C0.P w=.ok (f,v) w:=by
 unfold mtA at h;split at h<;>first|(cases h;done)|skip
 rename_i ht;split at h<;>first|(cases h;done)|skip
 rename_i hn;obtain rfl:=Nat.eq_of_beq_eq_true ht;obtain rfl:=of_decide_eq_true hn;cases h
 kernel_rfl
def d5X:a0k:=⟨.arr 256 1 false,256,256,true,.agg (Array.replicate 256 (.bool false))⟩
noncomputable def tt2 (t:Nat):Option a0k:=match Nat.beq t 340 with
 | true=>some d5X
 | false=>tbt.get t
theorem d2g:Tab C0.P tt2:=fun t i h=>by
 unfold tt2 at h;split at h
 ·rename_i ht
  obtain rfl:=Nat.eq_of_beq_eq_true ht;cases h
  kernel_rfl
 ·exact tab t i h
noncomputable def X2:EV:=⟨tt2,xbt.get,fbt.get,fun _=>false,c7u c7t,mtA,b6x⟩
end Go.Ide
