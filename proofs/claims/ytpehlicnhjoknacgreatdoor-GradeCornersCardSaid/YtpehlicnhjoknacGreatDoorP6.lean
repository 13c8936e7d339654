/- The layer of own lemmas and contracts, part 6. -/
import Derived.Test.YtpehlicnhjoknacGreatDoorP4
import Derived.Test.YtpehlicnhjoknacGreatDoorP3
import Derived.Test.YtpehlicnhjoknacGreatDoorP5
import Derived.Lib.AppendIntMem
import Derived.Lib.SmallJoins
import Derived.Shelf.Spec.BitsCarry
import Derived.Laws.StandIn
set_option linter.unusedVariables false
set_option linter.unusedSimpArgs false
namespace Go.Ide
open Go Go.Ide Go.Proofs Go.RowKit
set_option maxRecDepth 100000
def G0 (w:World):Prop:=Lib.TabIs Tryz.prog w "internal/strconv.uint64pow10" .u64 Lib.pow10Tab
theorem c3f:Tryz.prog.globalNamed "internal/strconv.uint64pow10" = some 3:=by kernel_rfl
theorem c1S {w w':World}(h:G0 w)(b:Below (3+1) w w'):G0 w':=by
 unfold G0 Lib.TabIs World.var? at h ⊢;rw [c3f] at h ⊢;simp only [Option.bind_some] at h ⊢;rw [b.block _ (by decide)];exact h
noncomputable def C0:Ctx:={P:=Tryz.prog,G:=G0,nG:=3+1,hG:=fun _ _=>c1S}
def b1n:D:=.mp [.prim (.string ⟨#[108,105,110,101]⟩),.prim (.string ⟨#[122,105,103,122,97,103]⟩),.prim (.string ⟨#[103,114,105,100]⟩),.prim (.string ⟨#[113,117,105,110,99,117,110,120]⟩)]
 [.agg [.prim (.int .i64 1),.prim (.int .i64 64),.clo (.func 159) [] []],.agg [.prim (.int .i64 1),.prim (.int .i64 64),.clo (.func 161) [] []],.agg [.prim (.int .i64 1),.prim (.int .i64 8),.clo (.func 162) [] []],.agg [.prim (.int .i64 5),.prim (.int .i64 5),.clo (.func 163) [] []]]
theorem b2H (a b:Value)(fn:Fn):b0a (.agg [.prim a,.prim b,.clo fn [] []]):=b0a.agg fun d hd=>by
 simp only [d9F,e0j,or_false] at hd;rcases hd with rfl|rfl|rfl
 ·exact .prim _
 ·exact .prim _
 ·exact .clo
theorem b0n:a0b C0 90 [] b1n:=by
 refine a0c.intro tab Tryz.func90 rfl (by kernel_rfl) (by kernel_rfl) (by kernel_rfl) fun F=>?_
 refine Ok.seq (Ok.region ?_);refine OkL.p tab rfl rfl d9j ?_;refine OkL.nil ?_;refine Ok.seq (Ok.region ?_);refine OkM.start (m:=1) rfl rfl rfl ?_;refine d8G (C:=C0) tab (.agg [.prim (.int .i64 1),.prim (.int .i64 64),.clo (.func 159) [] []]) rfl (by kernel_rfl) (b2H _ _ _) rfl (by decide) ?_;refine d8F (C:=C0) (k:=9) (e:=161) (z:=.agg #[.int .i64 0,.int .i64 0,.nilFunc]) b4V (by kernel_rfl) rfl rfl rfl (by kernel_rfl) rfl (fun _ _ _ _ h _ _ _=>b2H _ _ _ _ _ _ _ _ _ _ h) ?_;refine d8G (C:=C0) tab (.agg [.prim (.int .i64 1),.prim (.int .i64 64),.clo (.func 161) [] []]) rfl (by kernel_rfl) (b2H _ _ _) rfl (by decide) ?_;refine d8F (C:=C0) (k:=9) (e:=161) (z:=.agg #[.int .i64 0,.int .i64 0,.nilFunc]) b4V (by kernel_rfl) rfl rfl rfl (by kernel_rfl) rfl (fun _ _ _ _ h _ _ _=>b2H _ _ _ _ _ _ _ _ _ _ h) ?_;refine d8G (C:=C0) tab (.agg [.prim (.int .i64 1),.prim (.int .i64 8),.clo (.func 162) [] []]) rfl (by kernel_rfl) (b2H _ _ _) rfl (by decide) ?_;refine d8F (C:=C0) (k:=9) (e:=161) (z:=.agg #[.int .i64 0,.int .i64 0,.nilFunc]) b4V (by kernel_rfl) rfl rfl rfl (by kernel_rfl) rfl (fun _ _ _ _ h _ _ _=>b2H _ _ _ _ _ _ _ _ _ _ h) ?_;refine d8G (C:=C0) tab (.agg [.prim (.int .i64 5),.prim (.int .i64 5),.clo (.func 163) [] []]) rfl (by kernel_rfl) (b2H _ _ _) rfl (by decide) ?_;refine d8F (C:=C0) (k:=9) (e:=161) (z:=.agg #[.int .i64 0,.int .i64 0,.nilFunc]) b4V (by kernel_rfl) rfl rfl rfl (by kernel_rfl) rfl (fun _ _ _ _ h _ _ _=>b2H _ _ _ _ _ _ _ _ _ _ h) ?_;refine OkM.done ?_;refine OkL.p tab rfl rfl d9j ?_;refine OkL.p tab rfl rfl d9j ?_;refine OkL.nil ?_;refine Ok.ret ?_;exact ⟨.inr rfl,_,_,rfl,⟨trivial,trivial⟩,b1n,.refl _,a1a (n:=20) (by kernel_rfl),rfl⟩
def a4A:D:=.mp [.prim (.string ⟨#[100,111,119,110]⟩),.prim (.string ⟨#[117,112]⟩),.prim (.string ⟨#[104,97,108,102,45,117,112]⟩),.prim (.string ⟨#[104,97,108,102,45,101,118,101,110]⟩)]
 [.agg [.clo (.func 235) [] []],.agg [.clo (.func 236) [] []],.agg [.clo (.func 237) [] []],.agg [.clo (.func 238) [] []]]
theorem b2G (fn:Fn):b0a (.agg [.clo fn [] []]):=b0a.agg fun d hd=>by
 simp only [d9F,e0j,or_false] at hd;subst hd;exact .clo
theorem b1z:a0b C0 204 [] a4A:=by
 refine a0c.intro tab Tryz.func204 rfl (by kernel_rfl) (by kernel_rfl) (by kernel_rfl) fun F=>?_
 refine Ok.seq (Ok.region ?_);refine OkL.p tab rfl rfl d9j ?_;refine OkL.nil ?_;refine Ok.seq (Ok.region ?_);refine OkM.start (m:=1) rfl rfl rfl ?_;refine d8G (C:=C0) tab (.agg [.clo (.func 235) [] []]) rfl (by kernel_rfl) (b2G _) rfl (by decide) ?_;refine d8F (C:=C0) (k:=9) (e:=288) (z:=.agg #[.nilFunc]) b4V (by kernel_rfl) rfl rfl rfl (by kernel_rfl) rfl (fun _ _ _ _ h _ _ _=>b2G _ _ _ _ _ _ _ _ h) ?_;refine d8G (C:=C0) tab (.agg [.clo (.func 236) [] []]) rfl (by kernel_rfl) (b2G _) rfl (by decide) ?_;refine d8F (C:=C0) (k:=9) (e:=288) (z:=.agg #[.nilFunc]) b4V (by kernel_rfl) rfl rfl rfl (by kernel_rfl) rfl (fun _ _ _ _ h _ _ _=>b2G _ _ _ _ _ _ _ _ h) ?_;refine d8G (C:=C0) tab (.agg [.clo (.func 237) [] []]) rfl (by kernel_rfl) (b2G _) rfl (by decide) ?_;refine d8F (C:=C0) (k:=9) (e:=288) (z:=.agg #[.nilFunc]) b4V (by kernel_rfl) rfl rfl rfl (by kernel_rfl) rfl (fun _ _ _ _ h _ _ _=>b2G _ _ _ _ _ _ _ _ h) ?_;refine d8G (C:=C0) tab (.agg [.clo (.func 238) [] []]) rfl (by kernel_rfl) (b2G _) rfl (by decide) ?_;refine d8F (C:=C0) (k:=9) (e:=288) (z:=.agg #[.nilFunc]) b4V (by kernel_rfl) rfl rfl rfl (by kernel_rfl) rfl (fun _ _ _ _ h _ _ _=>b2G _ _ _ _ _ _ _ _ h) ?_;refine OkM.done ?_;refine OkL.p tab rfl rfl d9j ?_;refine OkL.p tab rfl rfl d9j ?_;refine OkL.nil ?_;refine Ok.ret ?_;exact ⟨.inr rfl,_,_,rfl,⟨trivial,trivial⟩,a4A,.refl _,a1a (n:=20) (by kernel_rfl),rfl⟩
theorem d3g {ρ:Lk}{O:Nat->Prop}{w:World}{a b c:Value}{vs:Array Value}(hn:vs.size=3)(h:∀ (i:Nat) (x:D),[D.prim a,.prim b,.prim c][i]? = some x->Rep ρ O w x (vs.getD i undef)):vs = #[a,b,c]:=by
 match vs,hn with
 | ⟨[u,v,x]⟩,_ =>
  have h0:=h 0 _ rfl;have h1:=h 1 _ rfl;have h2:=h 2 _ rfl;simp at h0 h1 h2;cases h0;cases h1;cases h2;rfl
theorem b7V (x y c:Nat)(hc:c<=1):a4I C0 232 [.prim (.int .u64 x),.prim (.int .u64 y),.prim (.int .u64 c)]
  (.tup [.prim (.int .u64 (((x+y+c)%18446744073709551616:Nat):Int)),.prim (.int .u64 (((x+y+c) / 18446744073709551616:Nat):Int))]):=fun ρ O w vs hn h=>by
 have:=d3g hn h
 subst this;refine ⟨.tuple #[.int .u64 (((x+y+c)%18446744073709551616:Nat):Int),.int .u64 (((x+y+c) / 18446744073709551616:Nat):Int)],?_,.tup rfl fun i d hd=>?_⟩
 ·show (callFunc 232 _).run Tryz.prog w=_
  rw [run_callFunc_extern Tryz.func232 (by kernel_rfl) (by kernel_rfl) (by kernel_rfl) (e:=add64Entry) (by kernel_rfl),run_add64 x y c (by omega) (by omega) (by omega) (by omega)];simp only [Result.andThen]
  congr 5<;>omega
 ·match i with
  | 0=>simp at hd;subst hd;exact .prim _
  | 1=>simp at hd;subst hd;exact .prim _
  | n+2=>simp at hd
theorem d5J {ρ:Lk}{O:Nat->Prop}{w:World}{a b:Value}{vs:Array Value}(hn:vs.size=2)(h:∀ (i:Nat) (x:D),[D.prim a,.prim b][i]? = some x->Rep ρ O w x (vs.getD i undef)):vs = #[a,b]:=by
 match vs,hn with
 | ⟨[u,v]⟩,_ =>
  have h0:=h 0 _ rfl;have h1:=h 1 _ rfl;simp at h0 h1;cases h0;cases h1;rfl
theorem b1y (s:ByteArray)(c:Int):a4I C0 290 [.prim (.string s),.prim (.int .u8 c)] (.prim (.int .i64 (firstIdx s c.toNat.toUInt8))):=fun ρ O w vs hn h=>by
 have:=d5J hn h
 subst this;refine ⟨_,?_,.prim _⟩;show (callFunc 290 _).run Tryz.prog w=_;rw [run_callFunc_indexByte Tryz.func290 (by kernel_rfl) (by kernel_rfl) (by kernel_rfl) (by kernel_rfl),run_indexByte_string];rfl
theorem c1t (x y b:Nat)(hb:b<=1):a4I C0 233 [.prim (.int .u64 x),.prim (.int .u64 y),.prim (.int .u64 b)]
  (.tup [.prim (.int .u64 (((x+18446744073709551616 - y - b)%18446744073709551616:Nat):Int)),.prim (.int .u64 ((if x<y+b then 1 else 0:Nat):Int))]):=fun ρ O w vs hn h=>by
 have:=d3g hn h
 subst this;refine ⟨.tuple #[.int .u64 (((x+18446744073709551616 - y - b)%18446744073709551616:Nat):Int),.int .u64 ((if x<y+b then 1 else 0:Nat):Int)],?_,.tup rfl fun i d hd=>?_⟩
 ·show (callFunc 233 _).run Tryz.prog w=_
  rw [run_callFunc_extern Tryz.func233 (by kernel_rfl) (by kernel_rfl) (by kernel_rfl) (e:=sub64Entry) (by kernel_rfl),run_sub64 x y b hb];rfl
 ·match i with
  | 0=>simp at hd;subst hd;exact .prim _
  | 1=>simp at hd;subst hd;exact .prim _
  | n+2=>simp at hd
theorem b1N {O:Nat->Prop}{w:World}{v:Value}{vs:Array Value}(hn:vs.size=1)(h:∀ (i:Nat) (x:D),[D.prim v][i]? = some x->Rep nol O w x (vs.getD i undef)):vs = #[v]:=by
 match vs,hn with
 | ⟨[u]⟩,_ =>
  have h0:=h 0 _ rfl;simp at h0;cases h0;rfl
theorem b4B (n:Int)(h0 : -9223372036854775808<=n)(h1:n<=9223372036854775807):a0b C0 179 [i64 n] (str ⟨(Lib.itoa n).toArray⟩):=by
 refine ⟨⟨_,_,Tryz.func179,rfl,by kernel_rfl⟩,fun Y w vs hG hnG hX hvs hr=>?_⟩
 have:=b1N hvs hr
 subst this;refine (Tryz.strconv_Itoa n h0 h1 w hG).mono ?_;rintro e w' ⟨rfl,k,os,rfl⟩;exact ⟨_,_,rfl,Lib.below_grow _ _ (d9y _) _ _,rfl,.prim _⟩
theorem b3Z (s:ByteArray)(n:Int)(hl:s.size<=18)(h:Lib.atoi s.data.toList=some n):a0b C0 192 [str s] (.tup [i64 n,.prim .nilIface]):=by
 refine ⟨⟨_,_,Tryz.func192,rfl,by kernel_rfl⟩,fun Y w vs hG hnG hX hvs hr=>?_⟩
 have:=b1N hvs hr
 subst this;refine (Tryz.strconv_Atoi s n hl h w).mono ?_;rintro e w' ⟨rfl,t,rfl⟩;exact ⟨_,_,rfl,Joins.below_bytesWorld _ _ _ _ (d9y _),rfl,.tup rfl fun i d hd=>by
  match i with
  | 0=>simp at hd;subst hd;exact .prim _
  | 1=>simp at hd;subst hd;exact .prim _
  | n+2=>simp at hd⟩
def b7R (f:Nat)(ds:List D):Option D:=match Nat.beq f 232 with
 | true=>match ds with
  | [.prim (.int .u64 (.ofNat a)),.prim (.int .u64 (.ofNat b)),.prim (.int .u64 (.ofNat c))]=>match Nat.ble c 1 with
   | true=>some (.tup [.prim (.int .u64 (((a+b+c)%18446744073709551616:Nat):Int)),.prim (.int .u64 (((a+b+c) / 18446744073709551616:Nat):Int))])
   | false=>none
  | _=>none
 | false=>match Nat.beq f 233 with
  | true=>match ds with
   | [.prim (.int .u64 (.ofNat a)),.prim (.int .u64 (.ofNat b)),.prim (.int .u64 (.ofNat c))]=>match Nat.ble c 1 with
    | true=>some (.tup [.prim (.int .u64 (((a+18446744073709551616 - b - c)%18446744073709551616:Nat):Int)),.prim (.int .u64 ((if a<b+c then 1 else 0:Nat):Int))])
    | false=>none
   | _=>none
  | false=>match Nat.beq f 290 with
   | true=>match ds with
    | [.prim (.string s),.prim (.int .u8 c)]=>some (.prim (.int .i64 (firstIdx s c.toNat.toUInt8)))
    | _=>none
   | false=>none
theorem a5V (f:Nat)(ds:List D)(d:D)(h:b7R f ds=some d):a4I C0 f ds d:=by
 unfold b7R at h;split at h
 ·rename_i hf
  obtain rfl:=d9v hf;split at h<;>try(cases h;done)
  split at h<;>try(cases h;done)
  rename_i hc;cases h;exact b7V _ _ _ (d9A hc)
 ·split at h
  ·rename_i hf
   obtain rfl:=d9v hf;split at h<;>try(cases h;done)
   split at h<;>try(cases h;done)
   rename_i hc;cases h;exact c1t _ _ _ (d9A hc)
  ·split at h
   ·rename_i hf
    obtain rfl:=d9v hf;split at h<;>try(cases h;done)
    cases h;exact b1y _ _
   ·cases h
noncomputable def X1:EV:=⟨tbt.get,xbt.get,fbt.get,fun _=>false,fun _ _=>none,fun _ _=>none,b7R⟩
theorem a4C:a9R C0 X1:=⟨tab,b4V,ftab,fun _ _ _ h=>by simp [X1] at h,by kernel_rfl,fun _ _ _ h=>by simp [X1] at h,a5V⟩
theorem w1:WOk C0 X1:=a4C.w
theorem wI {z:Int}(h1 : -9223372036854775808<=z)(h2:z<=9223372036854775807):IntKind.i64.wrap z=z:=by
 have e1:(2:Int)^IntKind.i64.bits=18446744073709551616:=rfl;have e2:(2:Int)^(IntKind.i64.bits - 1)=9223372036854775808:=rfl;unfold IntKind.wrap;simp only [e1,e2];have e3:IntKind.i64.signed=true:=rfl;rw [e3];simp only [e1b,e0l];split<;>omega
theorem wN {n:Nat}(h:n<=9223372036854775807):IntKind.i64.wrap (n:Int)=n:=wI (by omega) (by omega)
set_option maxRecDepth 20000
theorem c0g (n:Int):a0b C0 136 [i64 n] (smI n):=by
 refine a0c.walk w1 c4k rfl fun F=>?_
 refine fR 0 ?_;refine fR 100 ?_;refine rtI ?_;exact a0a rfl (IsPure.out (d:=smI n))
theorem a9A (z:Int):a0b C0 189 [smI z] (i64 (max (-1) (min 1 z))):=by
 refine a0c.walk w1 b9r rfl fun F=>?_
 refine fR 0 ?_;refine fR 100 ?_;refine rtI ?_;exact a0a rfl IsPure.out
theorem b8F (a b:Nat)(hb:0<b)(h1:a<=9223372036854775807)(h2:b<=9223372036854775807):a0b C0 194 [smI a,smI b] (.tup [smI (a / b:Nat),smI (a%b:Nat)]):=by
 refine a0c.walk w1 b5G rfl fun F=>?_
 refine fR 0 ?_;refine OkS.seq ?_;refine sZ 100 ?_
 repeat' (first|(refine And.intro (by exact sdI) ?_;refine dsI ?_)|((refine brI (fun hb=>?_) (fun hb=>?_))<;>(try simp only [d9w,d9x] at hb)<;>(try simp only [hb])<;>(refine dsI ?_)))
 have e0:((a:Int) != -9223372036854775808)=true:=by first|(simp;done)|(simp;omega)
 rw [e0];refine ifI ?_;refine OkS.seq ?_;refine d8K w1 200 [0,1,2,3,4,5,6,7,8,9,10] [11] (by kernel_rfl) ?_;refine nxI ?_;have q1:(a:Int).tdiv b=((a / b:Nat):Int):=rfl;have q2:(a:Int).tmod b=((a%b:Nat):Int):=rfl;have hq:a / b<=9223372036854775807:=d9V (e1e a b) h1;simp (disch:=assumption) only [q1,q2,wN];refine OkS.seq ?_;refine fR 300 ?_;refine ifI ?_;have e1:decide (((a%b:Nat):Int)<0)=false:=by first|(simp;done)|(simp;omega)
 rw [e1];refine skI ?_;refine fR 500 ?_;refine rtI ?_;exact a0a rfl IsPure.out
theorem a5n (a b:Int):a0b C0 118 [smF a b] (boo (b==1)):=by
 refine a0c.walk w1 b9l rfl fun F=>?_
 refine fR 0 ?_;refine sZ 100 ?_
 repeat' (first|(refine And.intro (by exact sdI) ?_;refine dsI ?_)|((refine brI (fun hb=>?_) (fun hb=>?_))<;>(try simp only [d9w,d9x] at hb)<;>(try simp only [hb])<;>(refine dsI ?_)))
 refine rtI ?_;exact a0a rfl IsPure.out
theorem a2c:∀ (k u:Nat),u<10^(k+1)->(Lib.decDigits u).length<=k+1
 | 0,u,h=>by
  unfold Lib.decDigits;rw [dif_pos (by simpa using h)];simp
 | k+1,u,h=>by
  unfold Lib.decDigits;split
  ·simp
  ·rw [d9Z]
   have:=a2c k (u / 10) (by
    rw [e0h] at h;omega)
   simp only [d9u,d9R];omega
theorem a4J (a b:List UInt8):(⟨a.toArray⟩:ByteArray)++⟨b.toArray⟩=⟨(a++b).toArray⟩:=by
 apply ByteArray.ext;simp [ByteArray.data_append]
theorem a8t (l:List UInt8):(⟨l.toArray⟩:ByteArray).size=l.length:=by simp [ByteArray.size]
theorem c7P (a b:Nat)(ha:a<=9223372036854775807)(hb:b<=9223372036854775807):a0b C0 104 [i64 a,i64 b] (i64 (Nat.gcd a b:Nat)):=by
 refine a0c.walk w1 c9z rfl fun F=>?_
 refine fR 0 ?_;refine OkS.seq ?_;refine OkS.block ?_;refine OkS.loop (α:=Nat × Nat × Nat) (fun p=>⟨[(0,i64 p.1),(1,i64 p.2.1)],[],p.2.2⟩) (fun p=>p.2.1) (fun p=>Nat.gcd p.1 p.2.1=Nat.gcd a b/\p.1<=9223372036854775807/\p.2.1<=9223372036854775807) (a,b,_) ⟨rfl,ha,hb⟩ wkI ?_;rintro ⟨x,y,n⟩ F ⟨h1,h2,h3⟩;dsimp only at h1 h2 h3 ⊢;refine OkS.seq ?_;refine fR 100 ?_;refine ifI ?_
 (refine brI (fun hy=>?_) (fun hy=>?_))<;>(try simp only [d9w,d9x] at hy)<;>(try simp only [hy])
 ·have hy':(y:Int)>0:=by simpa using hy
  refine skI ?_;refine OkS.block ?_;refine d8K w1 200 [0,1,2,3,4] [5] (by kernel_rfl) ?_;refine nxI ?_
  have:(x:Int).tmod y=((x%y:Nat):Int):=rfl
  rw [this];refine ⟨(y,x%y,_),⟨?_,h3,?_⟩,?_,wkI⟩
  ·rw [<- h1,e2L x y,Nat.gcd_rec y x,e2L]
  ·have:=e0k x (show y>0 by omega);dsimp only;omega
  ·exact e0k x (show y>0 by omega)
 ·have hy':y=0:=by simp at hy;omega
  subst hy';refine exI ?_;refine fR 300 ?_;refine rtI ?_;refine a0a ?_ IsPure.out;rw [<- h1,Nat.gcd_zero_right]
def c7z (least:Nat)(l:List UInt8):List UInt8:=List.replicate (least - l.length) 48++l
def a2v (least m:Nat)(s:List UInt8):List UInt8:=c7z least (if m=0 then s else Lib.decDigits m++s)
theorem a8A (least m:Nat)(s:List UInt8)(h:0<m\/s.length<least):a2v least (m / 10) (UInt8.ofNat (48+m%10)::s)=a2v least m s:=by
 unfold a2v
 by_cases h0:m=0
 ·subst h0
  have hl:s.length<least:=h.resolve_left (by omega);rw [d9l (by omega),d9l rfl];unfold c7z;obtain ⟨k,hk⟩:∃ k,least - s.length=k+1:=⟨least - s.length - 1,by omega⟩
  rw [hk,show least - (UInt8.ofNat (48+0%10)::s).length=k from by simp;omega,List.replicate_succ'];simp
 ·rw [d9m h0]
  by_cases h1:m<10
  ·rw [d9l (by omega)]
   have:Lib.decDigits m=[UInt8.ofNat (48+m)]:=by unfold Lib.decDigits;rw [dif_pos h1]
   rw [this,show m%10=m from by omega];rfl
  ·rw [d9m (by omega)]
   have:Lib.decDigits m=Lib.decDigits (m / 10)++[UInt8.ofNat (48+m%10)]:=by rw [Lib.decDigits];rw [dif_neg h1]
   rw [this,e0J];rfl
theorem c2n (k:Nat)(hk:k<10):(⟨#[48,49,50,51,52,53,54,55,56,57]⟩:ByteArray).extract k (k+1)=⟨([UInt8.ofNat (48+k)]:List UInt8).toArray⟩:=by
 match k,hk with
 | 0,_=>rfl
 | 1,_=>rfl
 | 2,_=>rfl
 | 3,_=>rfl
 | 4,_=>rfl
 | 5,_=>rfl
 | 6,_=>rfl
 | 7,_=>rfl
 | 8,_=>rfl
 | 9,_=>rfl
theorem a5i (a least:Nat)(ha:a+least<=9223372036854775807):a0b C0 105 [i64 a,i64 least] (str ⟨(a2v least a []).toArray⟩):=by
 refine a0c.walk w1 c9A rfl fun F=>?_
 refine fR 0 ?_;refine fR 100 ?_;refine OkS.seq ?_;refine OkS.block ?_;refine OkS.loop (α:=Nat × List UInt8 × Nat) (fun p=>⟨[(0,i64 p.1),(1,i64 least),(5,str ⟨p.2.1.toArray⟩)],[],p.2.2⟩) (fun p=>p.1+(least - p.2.1.length))
  (fun p=>a2v least p.1 p.2.1=a2v least a []/\p.1+p.2.1.length<=a+least) (a,[],_) ⟨rfl,by simp⟩ wkI ?_
 rintro ⟨m,s,n⟩ F ⟨h1,h2⟩;dsimp only at h1 h2 ⊢;have hsz:=a8t s;refine OkS.seq ?_;refine d8V ⟨[(0,i64 m),(1,i64 least),(5,str ⟨s.toArray⟩),(13,boo (decide ((m:Int)>0)||decide ((s.length:Int)<least)))],[],n+30⟩ (d8I w1 200 (by kernel_rfl) ?_) ?_
 ·repeat' (first|(refine And.intro (by exact sdI) ?_;refine dsI ?_)|((refine brI (fun hb=>?_) (fun hb=>?_))<;>(try simp only [d9w,d9x] at hb)<;>(try simp only [hb])<;>(refine dsI ?_)))
  all_goals exact wkI
 refine ifI ?_
 (refine brI (fun hc=>?_) (fun hc=>?_))<;>(try simp only [d9w,d9x] at hc)<;>(try simp only [hc])
 ·have hc:0<m\/s.length<least:=by
   simp at hc;omega
  refine skI ?_;refine OkS.block ?_;refine OkS.seq ?_;have hm:(m:Int).tmod 10=((m%10:Nat):Int):=rfl;have e2:IntKind.i64.wrap (((m%10:Nat):Int)+1)=((m%10+1:Nat):Int):=wI (by omega) (by omega);have hd:=c2n (m%10) (by omega);have hs1:(⟨([UInt8.ofNat (48+m%10)]:List UInt8).toArray⟩:ByteArray).size=1:=rfl;have hlen:s.length+1<=9223372036854775807:=by omega
  have hs10:(⟨#[48,49,50,51,52,53,54,55,56,57]⟩:ByteArray).size=10:=rfl;refine d8I w1 300 (by kernel_rfl) ?_;refine mwI (ff4 hm e2 kN hd) ?_;refine fI 400 ?_;have hm4:(m:Int).tdiv 10=((m / 10:Nat):Int):=rfl;have hm5:m / 10<=9223372036854775807:=by omega
  rw [hm4,wN hm5,a4J,e0M,e0p];refine ⟨(m / 10,UInt8.ofNat (48+m%10)::s,_),⟨(a8A least m s hc).trans h1,?_⟩,?_,wkI⟩
  ·simp only [d9u];omega
  ·simp only [d9u];omega
 ·have hc:m=0/\least<=s.length:=by
   simp at hc;omega
  obtain ⟨rfl,hl⟩:=hc;refine exI ?_;refine fR 500 ?_;refine rtI ?_;refine a0a ?_ IsPure.out;rw [<- h1];unfold a2v c7z;rw [d9l rfl,Nat.sub_eq_zero_of_le hl];rfl
theorem b8z (a:Nat):a2v 1 a []=Lib.decDigits a:=by
 unfold a2v c7z
 by_cases h:a=0
 ·subst h
  have:Lib.decDigits 0=[48]:=by unfold Lib.decDigits;rw [dif_pos (by decide)];rfl
  rw [d9l rfl,this];rfl
 ·rw [d9m h,e0D]
  have:(Lib.decDigits a).length≠0:=by
   unfold Lib.decDigits;split<;>simp
  rw [show 1 - (Lib.decDigits a).length=0 from by omega];rfl
theorem a1O (b:Bool)(e:Int):a0b C0 86 [boo b,i64 e] (i64 (if b then e else 0)):=by
 refine a0c.walk w1 d2i rfl fun F=>?_
 refine fR 0 ?_;refine OkS.seq ?_;refine fR 100 ?_;cases b
 ·refine ifI ?_
  refine skI ?_;refine fR 300 ?_;refine rtI ?_;exact a0a rfl IsPure.out
 ·refine ifI ?_
  refine fR 200 ?_;refine rtI ?_;exact a0a rfl IsPure.out
def a6g (K g sz:Nat):List D->D
 | []=>a1w
 | _::l=>.osl K g sz 0 (l.length+1)
def a5O (K g T sz:Nat):List D->Hp
 | []=>[]
 | x::l=>[⟨K,g,T,sz,x::l⟩]
theorem a2a (K g sz:Nat):a6g K g sz []=a1w:=rfl
theorem a1B (K g sz:Nat)(x:D)(l:List D):a6g K g sz (x::l)=.osl K g sz 0 (l.length+1):=rfl
theorem a2b (K g T sz:Nat):a5O K g T sz []=[]:=rfl
theorem a1C (K g T sz:Nat)(x:D)(l:List D):a5O K g T sz (x::l)=[⟨K,g,T,sz,x::l⟩]:=rfl
theorem a2s (K g sz:Nat)(x y:D)(l:List D):a6g K g sz (x::l++[y])=.osl K g sz 0 (l.length+1+1):=by simp [a6g]
theorem b9z (K g T sz:Nat)(l:List D):Fz (a5O K g T sz l) [] (a6g K g sz l) (.sl false sz l):=by
 cases l with
 | nil=>exact .nil sz
 | cons x l =>
  refine .osl (e:=⟨K,g,T,sz,x::l⟩) (by simp [a5O,Hp.get]) rfl rfl rfl (by simp) (by simp) (fun j d d' h1 h2=>?_) fun j d d' q c c' h1 h2 h3 h4=>?_
  ·rw [d9S] at h1;rw [h1] at h2;cases h2;rfl
  ·rw [d9S] at h1;rw [h1] at h2;cases h2;rw [h3] at h4;cases h4;exact Fz.refl _
def spot (a b c d:Nat):D:=.agg [i64 (a / Nat.gcd a b:Nat),a1w,i64 (b / Nat.gcd a b:Nat),a1w,i64 (c / Nat.gcd c d:Nat),a1w,i64 (d / Nat.gcd c d:Nat),a1w]
instance  (a b c d:Nat):CellsPure (spot a b c d):=by unfold spot;exact d9k
instance  {α:Type}(f:α->List D)(l:List α)[h:∀ x,ElemsPure (f x)]:ElemsPure (l.flatMap f):=⟨fun e he=>by
 obtain ⟨x,_,hx⟩:=List.mem_flatMap.1 he;exact (h x).out e hx⟩
def mpK:D->List D
 | .mp k _=>k
 | _=>[]
def mpV:D->List D
 | .mp _ v=>v
 | _=>[]
theorem c2w {tt:Nat->Option a0n}{xt:Nat->Option XI}{g:Operand->D}{t:Nat}{x ix:Operand}{ok:Bool}{K V:List D}{a b:Nat}{z:Value}{s:ByteArray}{d:D}(h1:xt t=some (.map a b z))(h2:g x=.mp K V)(h3:g ix=.prim (.string s))
  (h4:a6y s K V=some (some d)):evQ tt xt g (.lookup t x ix ok)=some (okD ok d true,True):=by simp only [evQ,h1,h2,h3,h4]
theorem b8V {tt:Nat->Option a0n}{xt:Nat->Option XI}{g:Operand->D}{t:Nat}{x ix:Operand}{ok:Bool}{K V:List D}{a b:Nat}{z:Value}{s:ByteArray}(h1:xt t=some (.map a b z))(h2:g x=.mp K V)(h3:g ix=.prim (.string s))
  (h4:a6y s K V=some none):evQ tt xt g (.lookup t x ix ok)=some (okD ok (ofV z) false,True):=by simp only [evQ,h1,h2,h3,h4]
theorem c6g {X:EV}{g:Operand->D}{op:Op}{acc:Prop}{k:Prop->D->Option Ent->Prop}{d:D}{p:Prop}(h:evQ X.tt X.xt g op=some (d,p))(hk:k (p/\acc) d none):wpQ X g op acc k:=by
 unfold wpQ;rw [h];exact hk
set_option maxHeartbeats 2000000
set_option allowUnsafeReducibility true in
attribute [local irreducible] a1G
inductive Kd where
 | line|zig|grid|quin
def Kd.most:Kd->Int
 | .line | .zig=>64
 | .grid=>8
 | .quin=>5
def a1M (b:Nat):Bool:=((decide (97<=b)&&decide (b<=122))||(decide (65<=b)&&decide (b<=90)))||(decide (48<=b)&&decide (b<=57))||b==45||b==95||b==46
def a1q (l:List UInt8):Bool:=l.all (fun b=>a1M b.toNat)&&(decide (1<=l.length)&&decide (l.length<=24))
theorem d6k (s:ByteArray)(p:Nat)(hp:p<s.size):s.data.toList[p]? = some (s.get! p):=by
 have hp':p<s.data.size:=hp;rw [e1t,d9C hp']
 congr 1
 show _=s.data[p]!;rw [getElem!_pos s.data p hp']
theorem b8x (s:ByteArray)(p:Nat)(h:(s.get! p).toNat<128):Utf8.decode s p=((s.get! p).toNat,1):=by
 unfold Utf8.decode;exact d9l h
theorem c2k (s:ByteArray)(p:Nat)(h:¬ (s.get! p).toNat<128):128<=(Utf8.decode s p).1:=by
 unfold Utf8.decode;dsimp only;simp only [e0W];rw [d9m h];have hv:128<=Utf8.runeError:=by decide
 repeat' split
 all_goals first|exact hv|(rename_i h1;simp only [ge_iff_le,d9B,e0l] at h1;dsimp only;omega)
theorem a6t (s:ByteArray):a0b C0 148 [str s] (boo (a1q s.data.toList)):=by
 refine a0c.walk w1 c4q rfl fun B=>?_
 have hsz:s.data.toList.length=s.size:=e1w;refine fR 0 ?_;refine OkS.seq ?_;refine OkS.seq ?_;refine d8P w1 100 [0] 1 rfl (by kernel_rfl) rfl ?_;refine nxI ?_;intro F hF;refine dsI ?_;refine OkS.block ?_;refine d8H (α:=Nat × Nat) (fun p=>⟨[(0,str s),(7,.optr 101 2 0 0 0)],[],p.2⟩) (fun p=>s.size - p.1) (fun p F=>b0c C0 B F 101 2 s p.1/\p.1<=s.size/\(s.data.toList.take p.1).all (fun b=>a1M b.toNat)=true) (0,3) ⟨hF,d9U _,rfl⟩ wkI ?_;rintro ⟨p,n⟩ F ⟨hIt,hp,hall⟩;dsimp only at hIt hp hall ⊢;refine OkS.seq ?_;refine d8O w1 200 0 [1] rfl (by kernel_rfl) s p ?_;refine And.intro hIt (And.intro (fun hlt F hIt=>?_) (fun hge=>?_))
 ·refine nxI ?_
  generalize hc:(Utf8.decode s p).1=c;refine OkS.seq ?_;refine ifI ?_;refine skI ?_;refine OkS.block ?_;refine fR 300 ?_;refine d8V ⟨[(0,str s),(7,.optr 101 2 0 0 0),(4,.prim (.int .i32 c)),(5,boo ((decide ((c:Int)>=97)&&decide ((c:Int)<=122))||(decide ((c:Int)>=65)&&decide ((c:Int)<=90))))],[],n+30⟩ (d8I w1 400 (by kernel_rfl) ?_) ?_
  ·repeat' (first|(refine And.intro (by exact sdI) ?_;refine dsI ?_)|((refine brI (fun hb=>?_) (fun hb=>?_))<;>(try simp only [d9w,d9x] at hb)<;>(try simp only [hb])<;>(refine dsI ?_)))
   all_goals exact wkI
  generalize hL:((decide ((c:Int)>=97)&&decide ((c:Int)<=122))||(decide ((c:Int)>=65)&&decide ((c:Int)<=90)))=L;refine d8V ⟨[(0,str s),(7,.optr 101 2 0 0 0),(47,boo ((((!L && !(decide ((c:Int)>=48)&&decide ((c:Int)<=57)))&&((c:Int) != 45))&&((c:Int) != 95))&&((c:Int) != 46)))],[],n+60⟩ (d8I w1 500 (by kernel_rfl) ?_) ?_
  ·repeat' (first|(refine And.intro (by exact sdI) ?_;refine dsI ?_)|((refine brI (fun hb=>?_) (fun hb=>?_))<;>(try simp only [d9w,d9x] at hb)<;>(try simp only [hb])<;>(refine dsI ?_)))
   all_goals exact wkI
  have hbad:((((!L && !(decide ((c:Int)>=48)&&decide ((c:Int)<=57)))&&((c:Int) != 45))&&((c:Int) != 95))&&((c:Int) != 46)) = !(a1M c):=by
   subst hL;rw [e1j];simp only [a1M,d9B,d9w,e1C,Bool.and_eq_false_iff,e1H,bne_iff_ne,ne_eq,d9D];omega
  rw [hbad];refine ifI ?_
  (refine brI (fun hb=>?_) (fun hb=>?_))<;>(try simp only [d9w,d9x] at hb)<;>(try simp only [hb])
  ·have hbf:a1M c=false:=by simpa using hb
   refine fR 600 ?_;refine rtI ?_;refine a0a ?_ IsPure.out;have hb8:a1M (s.get! p).toNat=false:=by
    by_cases hlow:(s.get! p).toNat<128
    ·rw [b8x s p hlow] at hc
     rw [show (s.get! p).toNat=c from hc];exact hbf
    ·unfold a1M;simp;omega
   have:a1q s.data.toList=false:=by
    unfold a1q
    have:s.data.toList.all (fun b=>a1M b.toNat)=false:=by
     rw [List.all_eq_false];exact ⟨_,d9r (d6k s p hlt),by rw [hb8];simp⟩
    rw [this];rfl
   rw [this]
  ·have hbt:a1M c=true:=by simpa using hb
   have hclt:c<128:=by
    unfold a1M at hbt;simp only [e2d,d9B,e0l,e1i] at hbt;omega
   have hlow:(s.get! p).toNat<128:=by
    apply d9L;intro h
    have:=c2k s p h
    omega
   rw [b8x s p hlow] at hc hIt;refine skI ?_;refine ⟨(p+1,n+60),⟨hIt,hlt,?_⟩,by dsimp only;omega,wkI⟩;rw [e0Z,d6k s p hlt,e2I,hall];simp;rw [show (s.get! p).toNat=c from hc];exact hbt
 ·have hpe:p=s.size:=by omega
  refine nxI ?_;refine OkS.seq ?_;refine ifI ?_;refine exI ?_;refine d8V ⟨[(2,boo (decide (1<=(s.size:Int))&&decide ((s.size:Int)<=24)))],[],n+60⟩ (d8I w1 700 (by kernel_rfl) ?_) ?_
  ·repeat' (first|(refine And.intro (by exact sdI) ?_;refine dsI ?_)|((refine brI (fun hb=>?_) (fun hb=>?_))<;>(try simp only [d9w,d9x] at hb)<;>(try simp only [hb])<;>(refine dsI ?_)))
   all_goals exact wkI
  refine rtI ?_;refine a0a ?_ IsPure.out;have hall':s.data.toList.all (fun b=>a1M b.toNat)=true:=by rw [<- hall,hpe,<- hsz,e0S]
  unfold a1q;rw [hall',e1b,hsz];have e:(decide (1<=(s.size:Int))&&decide ((s.size:Int)<=24))=(decide (1<=s.size)&&decide (s.size<=24)):=by
   rw [e1j];simp only [d9B,e0l];omega
  rw [<- e]
def Sm (z:Int):Prop:=-9223372036854775808<z/\z<9223372036854775808
theorem wS {z:Int}(h:Sm z):IntKind.i64.wrap z=z:=wI (by have:=h.1;omega) (by have:=h.2;omega)
theorem d2D {z:Int}(h:Sm z):(z != -9223372036854775808)=true:=by
 have:=h.1
 simp only [bne_iff_ne,ne_eq];omega
theorem wU {z:Int}(h1:0<=z)(h2:z<18446744073709551616):IntKind.u64.wrap z=z:=by
 have e1:(2:Int)^IntKind.u64.bits=18446744073709551616:=rfl;unfold IntKind.wrap;simp only [e1];have e3:IntKind.u64.signed=false:=rfl;rw [e3];simp only [e1o,e1k,if_false];omega
theorem b4Q (z:Int)(h:Sm z):a0b C0 201 [i64 z] (u64 (z.natAbs:Nat)):=by
 refine a0c.walk w1 c4J rfl fun F=>?_
 obtain ⟨h1,h2⟩:=h;refine fR 0 ?_;refine OkS.seq ?_;refine fR 100 ?_;refine ifI ?_
 (refine brI (fun h4=>?_) (fun h4=>?_))<;>(try simp only [d9w,d9x] at h4)<;>(try simp only [h4])
 ·have hz:z<0:=by simpa using h4
  have e1:IntKind.i64.wrap (0 - z)=(z.natAbs:Nat):=by rw [wI (by omega) (by omega)];omega
  have e2:IntKind.u64.wrap ((z.natAbs:Nat):Int)=(z.natAbs:Nat):=wU (by omega) (by omega);refine sZ 200 ?_;refine mwI (ff2 e1 e2) ?_;refine rtI ?_;exact a0a rfl IsPure.out
 ·have hz:¬ z<0:=by simpa using h4
  have e2:IntKind.u64.wrap z=(z.natAbs:Nat):=by rw [wU (by omega) (by omega)];omega
  refine skI ?_;refine sZ 300 ?_;refine mwI e2 ?_;refine rtI ?_;exact a0a rfl IsPure.out
theorem b3j (z:Int)(h:Sm z):a0b C0 143 [smI z] (smI (-z)):=by
 refine a0c.walk w1 b9n rfl fun F=>?_
 refine fR 0 ?_;refine OkS.seq ?_;refine sZ 100 ?_
 repeat' (first|(refine And.intro (by exact sdI) ?_;refine dsI ?_)|((refine brI (fun hb=>?_) (fun hb=>?_))<;>(try simp only [d9w,d9x] at hb)<;>(try simp only [hb])<;>(refine dsI ?_)))
 rw [d2D h];refine ifI ?_;have e1:IntKind.i64.wrap (0 - z) = -z:=by
  have:=h.1;have:=h.2
  rw [wI (by omega) (by omega)];omega
 refine sZ 200 ?_;refine mwI e1 ?_;refine rtI ?_;exact a0a rfl IsPure.out
theorem b7X (a b:Int)(hc:Sm (a+b)):a0b C0 144 [smI a,smI b] (smI (a+b)):=by
 refine a0c.walk w1 b5C rfl fun F=>?_
 refine fR 0 ?_;refine OkS.seq ?_;refine sZ 100 ?_
 repeat' (first|(refine And.intro (by exact sdI) ?_;refine dsI ?_)|((refine brI (fun hb=>?_) (fun hb=>?_))<;>(try simp only [d9w,d9x] at hb)<;>(try simp only [hb])<;>(refine dsI ?_)))
 refine ifI ?_;have e1:=wS hc;have e2:(decide (a+b>a)==decide (b>0))=true:=by
  rw [e1i,e0C];omega
 refine sZ 200 ?_;refine mwI e1 ?_;refine fR 300 ?_;rw [e2];refine ifI ?_;refine fR 400 ?_;refine rtI ?_;exact a0a rfl IsPure.out
theorem a5p (x y:Nat)(hx:x<18446744073709551616)(hy:y<18446744073709551616):a0b C0 200 [u64 x,u64 y] (.tup [u64 (x*y / 18446744073709551616:Nat),u64 (x*y%18446744073709551616:Nat)]):=by
 refine ⟨⟨_,_,Tryz.func200,rfl,by kernel_rfl⟩,fun Y w vs hG hnG hX hvs hr=>?_⟩;obtain ⟨v1,v2,rfl⟩:∃ a b,vs = #[a,b]:=by
  match vs,hvs with
  | ⟨[a,b]⟩,_=>exact ⟨a,b,rfl⟩
 have h0:=hr 0 _ rfl;have h1:=hr 1 _ rfl;simp at h0 h1;cases h0;cases h1;refine (Tryz.bits_Mul64 x y hx hy w).mono ?_;rintro e w' ⟨rfl,rfl⟩;exact ⟨_,_,rfl,.refl _ _,rfl,.tup rfl fun i d hd=>by
  match i with
  | 0=>simp at hd;subst hd;exact .prim _
  | 1=>simp at hd;subst hd;exact .prim _
  | n+2=>simp at hd⟩
theorem a5K (a b:Int)(hc:Sm (a*b))(ha:Sm a)(hb:Sm b):a0b C0 146 [smI a,smI b] (smI (a*b)):=by
 refine a0c.walk w1 b5E rfl fun F=>?_
 have hab:a.natAbs*b.natAbs=(a*b).natAbs:=(e1Z a b).symm;have h1:a.natAbs*b.natAbs / 18446744073709551616=0:=by rw [hab];have:=hc.1;have:=hc.2;omega
 have h2:a.natAbs*b.natAbs%18446744073709551616=(a*b).natAbs:=by rw [hab];have:=hc.1;have:=hc.2;omega
 have c0:=a5p a.natAbs b.natAbs (by have:=ha.1;have:=ha.2;omega) (by have:=hb.1;have:=hb.2;omega);rw [h1,h2] at c0;refine fR 0 ?_;refine OkS.seq ?_;refine sZ 100 ?_
 repeat' (first|(refine And.intro (by exact sdI) ?_;refine dsI ?_)|((refine brI (fun hb=>?_) (fun hb=>?_))<;>(try simp only [d9w,d9x] at hb)<;>(try simp only [hb])<;>(refine dsI ?_)))
 refine ifI ?_;refine OkS.seq ?_;refine d8K w1 200 [0,1,2,3,4,5,6,7,8,9,10] [11] (by kernel_rfl) ?_;refine nxI ?_;refine a0q.same _ (b4Q a ha) d9k ?_;refine nxI ?_;refine a0q.same _ (b4Q b hb) d9k ?_;refine nxI ?_;refine a0q.same _ (c0) d9k ?_;refine nxI ?_;refine sZ 300 ?_
 repeat' (first|(refine And.intro (by exact sdI) ?_;refine dsI ?_)|((refine brI (fun hb=>?_) (fun hb=>?_))<;>(try simp only [d9w,d9x] at hb)<;>(try simp only [hb])<;>(refine dsI ?_)))
 have e3:decide ((((a*b).natAbs:Nat):Int)<=9223372036854775807)=true:=d9q (by have:=hc.1;have:=hc.2;omega);rw [e3];refine ifI ?_;refine OkS.seq ?_;refine fR 400 ?_;refine ifI ?_;have e4:IntKind.i64.wrap (((a*b).natAbs:Nat):Int)=((a*b).natAbs:Nat):=wN (by have:=hc.1;have:=hc.2;omega)
 (refine brI (fun h41=>?_) (fun h41=>?_))<;>(try simp only [d9w,d9x] at h41)<;>(try simp only [h41])
 ·have e5:IntKind.i64.wrap (0 - (((a*b).natAbs:Nat):Int)) = -((a*b).natAbs:Nat):=by
   rw [wI (by have:=hc.1;have:=hc.2;omega) (by have:=hc.1;have:=hc.2;omega)];omega
  have e6 : -(((a*b).natAbs:Nat):Int)=a*b:=by
   have hs:(a<0)≠(b<0):=by simpa using h41
   have:a*b<=0:=by
    by_cases h1:a<0
    ·have h2:¬ b<0:=fun h2=>hs (by simp [h1,h2])
     exact e2m (by omega) (by omega)
    ·have h2:b<0:=d9L fun h2=>hs (by simp [h1,h2])
     exact e2l (by omega) (by omega)
   omega
  refine sZ 500 ?_;refine mwI (ff3 e4 e5 e6) ?_;refine rtI ?_;exact a0a rfl IsPure.out
 ·have e6:(((a*b).natAbs:Nat):Int)=a*b:=by
   have hs:¬ ((a<0)≠(b<0)):=by simpa using h41
   have:0<=a*b:=by
    by_cases h1:a<0
    ·have h2:b<0:=d9L fun h2=>hs (by simp [h1,h2])
     exact e2k (by omega) (by omega)
    ·have h2:¬ b<0:=fun h2=>hs (by simp [h1,h2])
     exact Int.mul_nonneg (by omega) (by omega)
   omega
  rw [e6] at e4;refine skI ?_;refine sZ 600 ?_;refine mwI (ff2 e6 e4) ?_;refine rtI ?_;exact a0a rfl IsPure.out
theorem c8h {a b:Int}(hb:0<b):(a.tmod b<0->a.tdiv b - 1=a / b/\a.tmod b+b=a%b)/\(¬ a.tmod b<0->a.tdiv b=a / b/\a.tmod b=a%b):=by
 have h1:=Int.mul_tdiv_add_tmod a b;have h2:=Int.tmod_lt_of_pos a hb;have h3:=Int.lt_tmod_of_pos a hb;constructor
 ·intro h
  have:=(Int.ediv_emod_unique (a:=a) (r:=a.tmod b+b) (q:=a.tdiv b - 1) hb).2 ⟨by rw [Int.mul_sub,Int.mul_one];omega,by omega,by omega⟩
  exact ⟨this.1.symm,this.2.symm⟩
 ·intro h
  have:=(Int.ediv_emod_unique (a:=a) (r:=a.tmod b) (q:=a.tdiv b) hb).2 ⟨by omega,by omega,by omega⟩
  exact ⟨this.1.symm,this.2.symm⟩
theorem c1A {a b:Int}(ha:Sm a):Sm (a.tdiv b):=by
 have h:(a.tdiv b).natAbs<=a.natAbs:=by rw [Int.natAbs_tdiv];exact e1e _ _
 have:=ha.1;have:=ha.2
 exact ⟨by omega,by omega⟩
theorem b2x (a b:Int)(hb0:0<b)(ha:Sm a)(hb:Sm b):a0b C0 194 [smI a,smI b] (.tup [smI (a / b),smI (a%b)]):=by
 refine a0c.walk w1 b5G rfl fun F=>?_
 obtain ⟨t1,t2⟩:=c8h (a:=a) hb0;have h2:=Int.tmod_lt_of_pos a hb0;have h3:=Int.lt_tmod_of_pos a hb0;have q1:=wS (c1A (b:=b) ha);have q2:IntKind.i64.wrap (a.tmod b)=a.tmod b:=wI (by have:=hb.2;omega) (by have:=hb.2;omega);have q0:=c1A (b:=b) ha;refine fR 0 ?_;refine OkS.seq ?_;refine sZ 100 ?_
 repeat' (first|(refine And.intro (by exact sdI) ?_;refine dsI ?_)|((refine brI (fun hb=>?_) (fun hb=>?_))<;>(try simp only [d9w,d9x] at hb)<;>(try simp only [hb])<;>(refine dsI ?_)))
 rw [d2D ha];refine ifI ?_;refine OkS.seq ?_;refine d8K w1 200 [0,1,2,3,4,5,6,7,8,9,10] [11] (by kernel_rfl) ?_;refine And.intro (by (refine dsI ?_);(try simp only [q1,q2]);all_goals exact sdI) ?_;refine dsI ?_
 try simp only [q1,q2]
 refine OkS.seq ?_;refine fR 300 ?_;refine ifI ?_
 (refine brI (fun h40=>?_) (fun h40=>?_))<;>(try simp only [d9w,d9x] at h40)<;>(try simp only [h40])
 ·obtain ⟨e1,e2⟩:=t1 (by simpa using h40)
  have q3:IntKind.i64.wrap (a.tdiv b - 1)=a / b:=by rw [wI (by have:=q0.1;omega) (by have:=q0.2;omega)];exact e1
  have q4:IntKind.i64.wrap (a.tmod b+b)=a%b:=by rw [wI (by have:=hb.2;omega) (by have:=hb.2;omega)];exact e2
  refine d8K w1 400 [0,1,2,3,4,5,6] [7] (by kernel_rfl) ?_;refine And.intro (by (refine dsI ?_);(try simp only [q3,q4]);all_goals exact sdI) ?_;refine dsI ?_
  try simp only [q3,q4]
  refine fR 500 ?_;refine rtI ?_;exact a0a rfl IsPure.out
 ·obtain ⟨e1,e2⟩:=t2 (by simpa using h40)
  refine skI ?_;refine OkS.seq ?_;rw [e1,e2];refine fI 500 ?_;refine rtI ?_;exact a0a rfl IsPure.out
theorem b6f (a b:Int)(hb0:0<b)(ha:Sm a)(hb:Sm b):a0b C0 199 [smI a,smI b] (smI (a / b)):=by
 refine a0c.walk w1 b9s rfl fun F=>?_
 refine fR 0 ?_;refine OkS.seq ?_;refine fR 100 ?_;refine dI (a9A b) ?_;have e1:decide (max (-1) (min 1 b)<0)=false:=d9p (by omega);rw [e1];refine ifI ?_;refine skI ?_;refine fR 300 ?_;refine dI (b2x a b hb0 ha hb) ?_;refine fR 400 ?_;refine rtI ?_;exact a0a rfl IsPure.out
theorem c3N (z:Int)(h:Sm z):a0b C0 207 [smI z] (smI (z.natAbs:Nat)):=by
 refine a0c.walk w1 b9t rfl fun F=>?_
 refine fR 0 ?_;refine OkS.seq ?_;refine fR 100 ?_;refine ifI ?_
 (refine brI (fun h5=>?_) (fun h5=>?_))<;>(try simp only [d9w,d9x] at h5)<;>(try simp only [h5])
 ·have hz:z<0:=by simpa using h5
  have e : -z=(z.natAbs:Nat):=by omega
  refine fR 200 ?_;refine dI (b3j z h) ?_;rw [e];refine rtI ?_;exact a0a rfl IsPure.out
 ·have hz:¬ z<0:=by simpa using h5
  have e:z=(z.natAbs:Nat):=by omega
  refine skI ?_;refine fR 300 ?_;refine rtI ?_;exact a0a (by rw [<- e]) IsPure.out
theorem c5t (a b:Int)(ha:Sm a)(hb:Sm b):a0b C0 152 [smI a,smI b] (smI (Nat.gcd a.natAbs b.natAbs:Nat)):=by
 refine a0c.walk w1 b9o rfl fun F=>?_
 have h1:a.natAbs<=9223372036854775807:=by have:=ha.1;have:=ha.2;omega
 have h2:b.natAbs<=9223372036854775807:=by have:=hb.1;have:=hb.2;omega
 refine fR 0 ?_;refine OkS.seq ?_;refine d8K w1 100 [0,1,2] [3,4,5] (by kernel_rfl) ?_;refine nxI ?_;refine a0q.same _ (c3N a ha) d9k ?_;refine nxI ?_;refine dI (c3N b hb) ?_;refine OkS.seq ?_;refine OkS.block ?_;refine OkS.loop (α:=Nat × Nat × Nat) (fun p=>⟨[(2,.optr 0 0 2 0 0),(3,.optr 1 1 2 0 0),(4,.optr 2 2 2 0 0)],[⟨2,2,114,2,[smI 0]⟩,⟨1,1,114,2,[smI p.2.1]⟩,⟨0,0,114,2,[smI p.1]⟩],p.2.2⟩) (fun p=>p.2.1)
  (fun p=>Nat.gcd p.1 p.2.1=Nat.gcd a.natAbs b.natAbs/\p.1<=9223372036854775807/\p.2.1<=9223372036854775807) (a.natAbs,b.natAbs,_) ⟨rfl,h1,h2⟩ wkI ?_
 rintro ⟨x,y,n⟩ F ⟨g1,g2,g3⟩;dsimp only at g1 g2 g3 ⊢;refine OkS.seq ?_;refine fR 200 ?_;refine dI (a9A y) ?_;refine ifI ?_
 (refine brI (fun h13=>?_) (fun h13=>?_))<;>(try simp only [d9w,d9x] at h13)<;>(try simp only [h13])
 ·have hy:0<y:=by
   simp at h13;omega
  refine skI ?_;refine OkS.block ?_;refine fR 300 ?_;refine dI (b8F x y hy g2 g3) ?_;refine d8R w1 400 [0,1,2] [3] 2 [0] (0) (by kernel_rfl) (by kernel_rfl) ?_;refine nxI ?_;refine nxI ?_;have hm:x%y<y:=e0k x hy;refine ⟨(y,x%y,_),⟨?_,g3,by dsimp only;omega⟩,hm,wkI⟩;rw [<- g1,e2L x y,Nat.gcd_rec y x,e2L]
 ·have hy:y=0:=by
   apply d9L;intro h0;simp at h13;omega
  subst hy;refine exI ?_;refine fR 500 ?_;refine rtI ?_;refine a0a ?_ IsPure.out;rw [<- g1,Nat.gcd_zero_right]
theorem b1B (a b:Int)(hb0:0<b)(ha:Sm a)(hb:Sm b):a0b C0 145 [smI a,smI b] (smF (a / (Nat.gcd a.natAbs b.natAbs:Nat)) (b / (Nat.gcd a.natAbs b.natAbs:Nat))):=by
 refine a0c.walk w1 b5D rfl fun F=>?_
 have hg:0<Nat.gcd a.natAbs b.natAbs:=e1D _ (by omega);have hgl:Nat.gcd a.natAbs b.natAbs<=b.natAbs:=e2S _ (by omega);have hgs:Sm (Nat.gcd a.natAbs b.natAbs:Nat):=⟨by omega,by have:=hb.2;omega⟩
 refine fR 0 ?_;refine OkS.seq ?_;refine fR 100 ?_;refine dI (a9A b) ?_;have e1:decide (max (-1) (min 1 b)<0)=false:=d9p (by omega);rw [e1];refine ifI ?_;refine skI ?_;refine OkS.seq ?_;refine sZ 300 ?_
 repeat' (first|(refine And.intro (by exact sdI) ?_;refine dsI ?_)|((refine brI (fun hb=>?_) (fun hb=>?_))<;>(try simp only [d9w,d9x] at hb)<;>(try simp only [hb])<;>(refine dsI ?_)))
 refine ifI ?_
 (refine brI (fun hb1=>?_) (fun hb1=>?_))<;>(try simp only [d9w,d9x] at hb1)<;>(try simp only [hb1])
 ·have hb1:b=1:=by simpa using hb1
  subst hb1;refine fR 400 ?_;refine rtI ?_;refine a0a ?_ IsPure.out
  have:Nat.gcd a.natAbs (Int.natAbs 1)=1:=Nat.gcd_one_right _
  rw [this];simp
 ·refine skI ?_
  refine fR 500 ?_;refine dI (c5t a b ha hb) ?_;refine OkS.seq ?_;refine d8K w1 600 [0,1,2,3,4] [5,6,7] (by kernel_rfl) ?_;refine nxI ?_;refine a0q.same _ (b6f a (Nat.gcd a.natAbs b.natAbs:Nat) (by omega) ha hgs) d9k ?_;refine nxI ?_;refine dI (b6f b (Nat.gcd a.natAbs b.natAbs:Nat) (by omega) hb hgs) ?_;refine rtI ?_;exact a0a rfl IsPure.out
structure Q2 where
 n:Int
 d:Int
abbrev Q2.D (q:Q2):D:=smF q.n q.d
def mkQ (a b:Int):Q2:=⟨a / (Nat.gcd a.natAbs b.natAbs:Nat),b / (Nat.gcd a.natAbs b.natAbs:Nat)⟩
theorem b6w (z:Int):a0b C0 78 [smI z] (smF z 1):=by
 refine a0c.walk w1 c6S rfl fun F=>?_
 refine fR 0 ?_;refine OkS.seq ?_;refine d8K w1 100 [0,1] [2,3] (by kernel_rfl) ?_;refine nxI ?_;refine a0q.same _ (c0g 1) d9k ?_;refine nxI ?_;refine rtI ?_;exact a0a rfl IsPure.out
theorem d6i (z:Int):a0b C0 72 [i64 z] (smF z 1):=by
 refine a0c.walk w1 d2c rfl fun F=>?_
 refine fR 0 ?_;refine fR 100 ?_;refine dI (c0g z) ?_;refine dI (b6w z) ?_;refine rtI ?_;exact a0a rfl IsPure.out
def c3O (p q:Q2):Q2:=if p.d=1/\q.d=1 then ⟨p.n+q.n,1⟩ else mkQ (p.n*q.d+q.n*p.d) (p.d*q.d)
theorem b9a (p q:Q2)(hp:0<p.d)(hq:0<q.d)(h1:Sm p.n)(h2:Sm q.n)(h3:Sm p.d)(h4:Sm q.d)(h5:Sm (p.n*q.d))(h6:Sm (q.n*p.d))(h7:Sm (p.n*q.d+q.n*p.d))(h8:Sm (p.d*q.d)) :
  a0b C0 77 [p.D,q.D] (c3O p q).D:=by
 refine a0c.walk w1 d2f rfl fun F=>?_
 obtain ⟨a,b⟩:=p;obtain ⟨c,d⟩:=q;dsimp only at *;unfold c3O Q2.D;dsimp only;have hbd:0<b*d:=Int.mul_pos hp hq
 by_cases e1:b=1
 ·have fb:(b==1)=true:=by rw [e1];rfl
  have c1:=a5n a b;rw [fb] at c1
  by_cases e2:d=1
  ·have fd:(d==1)=true:=by rw [e2];rfl
   have c2:=a5n c d;rw [fd] at c2;rw [d9l ⟨e1,e2⟩];have h7':Sm (a+c):=by rw [e1,e2] at h7;simpa using h7
   refine fR 0 ?_;refine OkS.seq ?_;refine fR 100 ?_;refine dI c1 ?_;dsimp only [b6C];refine nxI ?_;dsimp only [b6C];refine nxI ?_;refine dI c2 ?_;refine ifI ?_;refine fR 200 ?_;refine dI (b7X a c h7') ?_;refine dI (b6w (a+c)) ?_;refine rtI ?_;exact a0a rfl IsPure.out
  ·have fd:(d==1)=false:=by simpa using e2
   have c2:=a5n c d;rw [fd] at c2;rw [d9m fun h=>e2 h.2];refine fR 0 ?_;refine OkS.seq ?_;refine fR 100 ?_;refine dI c1 ?_;dsimp only [b6C];refine nxI ?_;dsimp only [b6C];refine nxI ?_;refine dI c2 ?_;refine ifI ?_;refine skI ?_;refine OkS.seq ?_;refine d8K w1 300 [0,1,2,3,4,5,6,7,8,9,10,11,12,13,14] [15,16,17] (by kernel_rfl) ?_;refine nxI ?_;refine a0q.same _ (a5K a d h5 h1 h4) d9k ?_;refine nxI ?_;refine a0q.same _ (a5K c b h6 h2 h3) d9k ?_;refine nxI ?_;refine a0q.same _ (b7X (a*d) (c*b) h7) d9k ?_;refine nxI ?_;refine dI (a5K b d h8 h3 h4) ?_;refine dI (b1B (a*d+c*b) (b*d) hbd h7 h8) ?_;refine rtI ?_;exact a0a rfl IsPure.out
 ·have fb:(b==1)=false:=by simpa using e1
  have c1:=a5n a b;rw [fb] at c1;rw [d9m fun h=>e1 h.1];refine fR 0 ?_;refine OkS.seq ?_;refine fR 100 ?_;refine dI c1 ?_;dsimp only [c2b];refine nxI ?_;dsimp only [c2b];refine nxI ?_;refine ifI ?_;refine skI ?_;refine OkS.seq ?_;refine d8K w1 300 [0,1,2,3,4,5,6,7,8,9,10,11,12,13,14] [15,16,17] (by kernel_rfl) ?_;refine nxI ?_;refine a0q.same _ (a5K a d h5 h1 h4) d9k ?_;refine nxI ?_;refine a0q.same _ (a5K c b h6 h2 h3) d9k ?_;refine nxI ?_;refine a0q.same _ (b7X (a*d) (c*b) h7) d9k ?_;refine nxI ?_;refine dI (a5K b d h8 h3 h4) ?_;refine dI (b1B (a*d+c*b) (b*d) hbd h7 h8) ?_;refine rtI ?_;exact a0a rfl IsPure.out
theorem b9i (p q:Q2)(hp:0<p.d)(hq:0<q.d)(h1:Sm p.n)(h2:Sm q.n)(h3:Sm p.d)(h4:Sm q.d)(h5:Sm (p.n*q.n))(h8:Sm (p.d*q.d)) :
  a0b C0 79 [p.D,q.D] (mkQ (p.n*q.n) (p.d*q.d)).D:=by
 refine a0c.walk w1 c6T rfl fun F=>?_
 obtain ⟨a,b⟩:=p;obtain ⟨c,d⟩:=q;unfold Q2.D;dsimp only at *;have hbd:0<b*d:=Int.mul_pos hp hq;refine fR 0 ?_;refine OkS.seq ?_;refine d8K w1 100 [0,1,2,3,4,5,6,7,8] [9,10,11] (by kernel_rfl) ?_;refine nxI ?_;refine a0q.same _ (a5K a c h5 h1 h2) d9k ?_;refine nxI ?_;refine dI (a5K b d h8 h3 h4) ?_;refine dI (b1B (a*c) (b*d) hbd h5 h8) ?_;refine rtI ?_;exact a0a rfl IsPure.out
def d2J (p:Q2):Q2:=⟨-p.n,p.d⟩
theorem c6R (p:Q2)(h:Sm p.n):a0b C0 141 [p.D] (d2J p).D:=by
 refine a0c.walk w1 c4p rfl fun F=>?_
 obtain ⟨a,b⟩:=p;unfold d2J Q2.D;dsimp only at *;refine fR 0 ?_;refine OkS.seq ?_;refine d8K w1 100 [0,1,2,3,4] [5,6] (by kernel_rfl) ?_;refine nxI ?_;refine a0q.same _ (b3j a h) d9k ?_;refine nxI ?_;refine rtI ?_;exact a0a rfl IsPure.out
theorem c1l {z:Int}(h:Sm z):Sm (-z):=⟨by have:=h.2;omega,by have:=h.1;omega⟩
theorem c6X (p q:Q2)(hp:0<p.d)(hq:0<q.d)(h1:Sm p.n)(h2:Sm q.n)(h3:Sm p.d)(h4:Sm q.d)(h5:Sm (p.n*q.d))(h6:Sm (-q.n*p.d))(h7:Sm (p.n*q.d + -q.n*p.d))(h8:Sm (p.d*q.d)) :
  a0b C0 137 [p.D,q.D] (c3O p (d2J q)).D:=by
 refine a0c.walk w1 c4l rfl fun F=>?_
 have c1:=c6R q h2;have c2:=b9a p (d2J q) hp hq h1 (c1l h2) h3 h4 h5 h6 h7 h8;obtain ⟨a,b⟩:=p;obtain ⟨c,d⟩:=q;unfold Q2.D at *;dsimp only at *;refine fR 0 ?_;refine OkS.seq ?_;refine d8K w1 100 [0,1,2] [3,4] (by kernel_rfl) ?_;refine nxI ?_;refine a0q.same _ (c1) d9k ?_;refine nxI ?_;refine dI c2 ?_;refine rtI ?_;exact a0a rfl IsPure.out
def b5K (p:Q2):Q2:=if p.n<0 then mkQ (-p.d) (-p.n) else mkQ p.d p.n
theorem c2R (a b:Int)(hb0:b≠0)(ha:Sm a)(hb:Sm b):a0b C0 145 [smI a,smI b] (if b<0 then mkQ (-a) (-b) else mkQ a b).D:=by
 by_cases hn:b<0
 ·rw [d9l hn]
  refine a0c.walk w1 b5D rfl fun F=>?_
  unfold mkQ Q2.D;dsimp only;have ha':=c1l ha;have hb':=c1l hb;have q1:=b3j a ha;have q2:=b3j b hb;have hb1:0 < -b:=by omega
  have e1:decide (max (-1) (min 1 b)<0)=true:=d9q (by omega);have q3:=a9A b;generalize -a=x at *;generalize -b=y at *;have hg:0<Nat.gcd x.natAbs y.natAbs:=e1D _ (by omega);have hgl:Nat.gcd x.natAbs y.natAbs<=y.natAbs:=e2S _ (by omega);have hgs:Sm (Nat.gcd x.natAbs y.natAbs:Nat):=⟨by omega,by have:=hb'.2;omega⟩
  refine fR 0 ?_;refine OkS.seq ?_;refine fR 100 ?_;refine dI q3 ?_;rw [e1];refine ifI ?_;refine d8K w1 200 [0,1,2] [3,4,5] (by kernel_rfl) ?_;refine nxI ?_;refine a0q.same _ (q1) d9k ?_;refine nxI ?_;refine dI q2 ?_;refine OkS.seq ?_;refine sZ 300 ?_
  repeat' (first|(refine And.intro (by exact sdI) ?_;refine dsI ?_)|((refine brI (fun hb=>?_) (fun hb=>?_))<;>(try simp only [d9w,d9x] at hb)<;>(try simp only [hb])<;>(refine dsI ?_)))
  refine ifI ?_
  (refine brI (fun hb2=>?_) (fun hb2=>?_))<;>(try simp only [d9w,d9x] at hb2)<;>(try simp only [hb2])
  ·have hb1:y=1:=by simpa using hb2
   subst hb1;refine fR 400 ?_;refine rtI ?_;refine a0a ?_ IsPure.out
   have:Nat.gcd x.natAbs (Int.natAbs 1)=1:=Nat.gcd_one_right _
   rw [this];simp
  ·refine skI ?_
   refine fR 500 ?_;refine dI (c5t x y ha' hb') ?_;refine OkS.seq ?_;refine d8K w1 600 [0,1,2,3,4] [5,6,7] (by kernel_rfl) ?_;refine nxI ?_;refine a0q.same _ (b6f x (Nat.gcd x.natAbs y.natAbs:Nat) (by omega) ha' hgs) d9k ?_;refine nxI ?_;refine dI (b6f y (Nat.gcd x.natAbs y.natAbs:Nat) (by omega) hb' hgs) ?_;refine rtI ?_;exact a0a rfl IsPure.out
 ·rw [d9m hn]
  exact b1B a b (by omega) ha hb
theorem c6O (p:Q2)(h0:p.n≠0)(h1:Sm p.n)(h2:Sm p.d):a0b C0 138 [p.D] (b5K p).D:=by
 refine a0c.walk w1 c4m rfl fun F=>?_
 have c1:=c2R p.d p.n h0 h2 h1;obtain ⟨a,b⟩:=p;unfold b5K Q2.D at *;dsimp only at *;refine fR 0 ?_;refine fR 100 ?_;refine dI c1 ?_;refine rtI ?_;exact a0a rfl IsPure.out
theorem c6L (p q:Q2)(h0:q.n≠0)(hp:0<p.d)(hq:0<(b5K q).d)(h1:Sm p.n)(h2:Sm q.n)(h3:Sm p.d)(h4:Sm q.d)(g1:Sm (b5K q).n)(g2:Sm (b5K q).d)(h5:Sm (p.n*(b5K q).n))(h8:Sm (p.d*(b5K q).d)) :
  a0b C0 74 [p.D,q.D] (mkQ (p.n*(b5K q).n) (p.d*(b5K q).d)).D:=by
 refine a0c.walk w1 d2d rfl fun F=>?_
 have c1:=c6O q h0 h2 h4;have c2:=b9i p (b5K q) hp hq h1 g1 h3 g2 h5 h8;generalize b5K q=r at *;obtain ⟨a,b⟩:=p;obtain ⟨c,d⟩:=q;obtain ⟨e,f⟩:=r;unfold Q2.D at *;dsimp only at *;refine fR 0 ?_;refine OkS.seq ?_;refine d8K w1 100 [0,1,2] [3,4] (by kernel_rfl) ?_;refine nxI ?_;refine a0q.same _ (c1) d9k ?_;refine nxI ?_;refine dI c2 ?_;refine rtI ?_;exact a0a rfl IsPure.out
def a6M (a b:Int):Int:=if a<b then -1 else if b<a then 1 else 0
theorem b9G (a b:Int):a0b C0 178 [smI a,smI b] (i64 (a6M a b)):=by
 refine a0c.walk w1 b9q rfl fun F=>?_
 unfold a6M;refine fR 0 ?_;refine OkS.seq ?_;refine sZ 100 ?_
 repeat' (first|(refine And.intro (by exact sdI) ?_;refine dsI ?_)|((refine brI (fun hb=>?_) (fun hb=>?_))<;>(try simp only [d9w,d9x] at hb)<;>(try simp only [hb])<;>(refine dsI ?_)))
 refine ifI ?_;refine OkS.seq ?_;refine OkS.block ?_;refine fR 200 ?_;refine ifI ?_
 (refine brI (fun h13=>?_) (fun h13=>?_))<;>(try simp only [d9w,d9x] at h13)<;>(try simp only [h13])
 ·have h1:a<b:=by simpa using h13
  rw [d9l h1];refine fR 300 ?_;refine rtI ?_;exact a0a rfl IsPure.out
 ·have h1:¬ a<b:=by simpa using h13
  rw [d9m h1];refine fR 400 ?_;refine ifI ?_
  (refine brI (fun h19=>?_) (fun h19=>?_))<;>(try simp only [d9w,d9x] at h19)<;>(try simp only [h19])
  ·have h2:b<a:=by simpa using h19
   rw [d9l h2];refine fR 500 ?_;refine rtI ?_;exact a0a rfl IsPure.out
  ·have h2:¬ b<a:=by simpa using h19
   rw [d9m h2];refine skI ?_;refine fR 600 ?_;refine rtI ?_;exact a0a rfl IsPure.out
theorem b9b (p q:Q2)(h1:Sm p.n)(h2:Sm q.n)(h3:Sm p.d)(h4:Sm q.d)(h5:Sm (p.n*q.d))(h6:Sm (q.n*p.d)):a0b C0 117 [p.D,q.D] (i64 (a6M (p.n*q.d) (q.n*p.d))):=by
 refine a0c.walk w1 b9k rfl fun F=>?_
 obtain ⟨a,b⟩:=p;obtain ⟨c,d⟩:=q;unfold Q2.D;dsimp only at *;refine fR 0 ?_;refine OkS.seq ?_;refine d8K w1 100 [0,1,2,3,4,5,6,7,8] [9,10,11] (by kernel_rfl) ?_;refine nxI ?_;refine a0q.same _ (a5K a d h5 h1 h4) d9k ?_;refine nxI ?_;refine dI (a5K c b h6 h2 h3) ?_;refine dI (b9G (a*d) (c*b)) ?_;refine rtI ?_;exact a0a rfl IsPure.out
theorem c2C (p:Q2):a0b C0 135 [p.D] (i64 (max (-1) (min 1 p.n))):=by
 refine a0c.walk w1 b9m rfl fun F=>?_
 obtain ⟨a,b⟩:=p;unfold Q2.D;dsimp only;refine fR 0 ?_;refine fR 100 ?_;refine dI (a9A a) ?_;refine rtI ?_;exact a0a rfl IsPure.out
theorem b5j {n k:Nat}(h:Nat.blt n k=true):n<k:=by rw [Nat.blt_eq] at h;exact h
def smB:Int->Bool
 | .ofNat n=>Nat.blt n 9223372036854775808
 | .negSucc n=>Nat.blt n 9223372036854775807
theorem a0K {z:Int}(h:smB z=true):Sm z:=by
 cases z with
 | ofNat n=>have:=b5j h;exact ⟨by rw [e2Q];omega,by rw [e2Q];omega⟩
 | negSucc n=>have:=b5j h;exact ⟨by omega,by omega⟩
def psB:Int->Bool
 | .ofNat n=>Nat.blt 0 n
 | .negSucc _=>false
theorem a7E {z:Int}(h:psB z=true):0<z:=by
 cases z with
 | ofNat n=>have:=b5j h;rw [e2Q];omega
 | negSucc n=>cases h
def nzB:Int->Bool
 | .ofNat n=>Nat.blt 0 n
 | .negSucc _=>true
theorem d2M {z:Int}(h:nzB z=true):z≠0:=by
 cases z with
 | ofNat n=>have:=b5j h;rw [e2Q];omega
 | negSucc n=>omega
def asQ:D->Option Q2
 | .agg [.prim (.int .i64 a),.prim (.slice none 0 0),.prim (.int .i64 b),.prim (.slice none 0 0)]=>some ⟨a,b⟩
 | _=>none
theorem b8d {d:D}{q:Q2}(h:asQ d=some q):d=q.D:=by
 unfold asQ at h;split at h
 ·cases h;rfl
 ·cases h
def c3b (p q:Q2):Bool:=psB p.d&&psB q.d&&smB p.n&&smB q.n&&smB p.d&&smB q.d&&smB (p.n*q.d)&&smB (q.n*p.d)&&smB (p.n*q.d+q.n*p.d)&&smB (p.d*q.d)
def c0j (p q:Q2):Bool:=psB p.d&&psB q.d&&smB p.n&&smB q.n&&smB p.d&&smB q.d&&smB (p.n*q.d)&&smB (-q.n*p.d)&&smB (p.n*q.d + -q.n*p.d)&&smB (p.d*q.d)
def c0n (p q:Q2):Bool:=psB p.d&&psB q.d&&smB p.n&&smB q.n&&smB p.d&&smB q.d&&smB (p.n*q.n)&&smB (p.d*q.d)
def d2P (p q:Q2):Bool:=smB p.n&&smB q.n&&smB p.d&&smB q.d&&smB (p.n*q.d)&&smB (q.n*p.d)
def d2T (p q r:Q2):Bool:=nzB q.n&&psB p.d&&psB r.d&&smB p.n&&smB q.n&&smB p.d&&smB q.d&&smB r.n&&smB r.d&&smB (p.n*r.n)&&smB (p.d*r.d)
def b7P (p q:Q2):Q2:=c3O p (d2J q)
def c5J (p q:Q2):Q2:=mkQ (p.n*q.n) (p.d*q.d)
theorem b8A {p q:Q2}(hb:c0j p q=true):a0b C0 137 [p.D,q.D] (b7P p q).D:=by
 simp only [c0j,d9B] at hb;obtain ⟨⟨⟨⟨⟨⟨⟨⟨⟨b1,b2⟩,b3⟩,b4⟩,b5⟩,b6⟩,b7⟩,b8⟩,b9⟩,b10⟩:=hb;exact c6X p q (a7E b1) (a7E b2) (a0K b3) (a0K b4) (a0K b5) (a0K b6) (a0K b7) (a0K b8) (a0K b9) (a0K b10)
theorem c5X {p q:Q2}(hb:c3b p q=true):a0b C0 77 [p.D,q.D] (c3O p q).D:=by
 simp only [c3b,d9B] at hb;obtain ⟨⟨⟨⟨⟨⟨⟨⟨⟨b1,b2⟩,b3⟩,b4⟩,b5⟩,b6⟩,b7⟩,b8⟩,b9⟩,b10⟩:=hb;exact b9a p q (a7E b1) (a7E b2) (a0K b3) (a0K b4) (a0K b5) (a0K b6) (a0K b7) (a0K b8) (a0K b9) (a0K b10)
theorem c0z {p q:Q2}(hb:c0n p q=true):a0b C0 79 [p.D,q.D] (c5J p q).D:=by
 simp only [c0n,d9B] at hb;obtain ⟨⟨⟨⟨⟨⟨⟨b1,b2⟩,b3⟩,b4⟩,b5⟩,b6⟩,b7⟩,b8⟩:=hb;exact b9i p q (a7E b1) (a7E b2) (a0K b3) (a0K b4) (a0K b5) (a0K b6) (a0K b7) (a0K b8)
abbrev ptD (x y:Q2):D:=.agg [i64 x.n,a1w,i64 x.d,a1w,i64 y.n,a1w,i64 y.d,a1w]
def c6D (dx dy:Q2):Q2:=c3O (c5J dx dx) (c5J dy dy)
def c0k (a b c d dx dy:Q2):Bool:=c0j a c&&c0j b d&&c0n dx dx&&c0n dy dy&&c3b (c5J dx dx) (c5J dy dy)
theorem c6E {a b c d:Q2}(hb:c0k a b c d (b7P a c) (b7P b d)=true):a0b C0 94 [ptD a b,ptD c d] (c6D (b7P a c) (b7P b d)).D:=by
 simp only [c0k,d9B] at hb;obtain ⟨⟨⟨⟨b1,b2⟩,b3⟩,b4⟩,b5⟩:=hb;have c1:=b8A b1;have c2:=b8A b2;have c3:=c0z b3;have c4:=c0z b4;have c5:=c5X b5;unfold c6D;generalize b7P a c=dx at *;generalize b7P b d=dy at *;generalize c5J dx dx=px at *;generalize c5J dy dy=py at *;generalize c3O px py=s at *;obtain ⟨a1,a2⟩:=a;obtain ⟨b1,b2⟩:=b;obtain ⟨c1',c2'⟩:=c;obtain ⟨d1,d2⟩:=d;obtain ⟨x1,x2⟩:=dx;obtain ⟨y1,y2⟩:=dy;obtain ⟨p1,p2⟩:=px;obtain ⟨q1,q2⟩:=py;obtain ⟨s1,s2⟩:=s;unfold Q2.D ptD at *;dsimp only at *;refine a0c.walk w1 d2l rfl fun F=>?_
 refine fR 0 ?_;refine OkS.seq ?_;refine d8K w1 100 [0,1,2,3,4,5,6,7,8,9,10,11] [12,13] (by kernel_rfl) ?_;refine nxI ?_;refine a0q.same _ (c1) d9k ?_;refine nxI ?_;refine a0q.same _ (c2) d9k ?_;refine nxI ?_;refine OkS.seq ?_;refine d8K w1 200 [0,1,2,3,4] [5,6,7] (by kernel_rfl) ?_;refine nxI ?_;refine a0q.same _ (c3) d9k ?_;refine nxI ?_;refine dI c4 ?_;refine dI c5 ?_;refine rtI ?_;exact a0a rfl IsPure.out
def d3D:D->Option (Q2 × Q2)
 | .agg [.prim (.int .i64 a),.prim (.slice none 0 0),.prim (.int .i64 b),.prim (.slice none 0 0),.prim (.int .i64 c),.prim (.slice none 0 0),.prim (.int .i64 d),.prim (.slice none 0 0)]=>some (⟨a,b⟩,⟨c,d⟩)
 | _=>none
theorem b8c {d:D}{q:Q2 × Q2}(h:d3D d=some q):d=ptD q.1 q.2:=by
 unfold d3D at h;split at h
 ·cases h;rfl
 ·cases h
instance  (a b:Q2):CellsPure (ptD a b):=d9k
def c7c (b:Bool)(d:D):Option D:=match b with
 | true=>some d
 | false=>none
theorem a7a {b:Bool}{d d':D}(h:c7c b d=some d'):b=true/\d=d':=by
 cases b
 ·cases h
 ·cases h;exact ⟨rfl,rfl⟩
def d5w (f:Nat)(ds:List D):Option D:=match ds with
 | [x,y]=>match Nat.beq f 94 with
  | true=>match d3D x with
   | some (a,b)=>match d3D y with
    | some (c,d)=>c7c (c0k a b c d (b7P a c) (b7P b d)) (c6D (b7P a c) (b7P b d)).D
    | none=>none
   | none=>none
  | false=>match asQ x with
   | some p=>match asQ y with
    | some q=>match Nat.beq f 77 with
     | true=>c7c (c3b p q) (c3O p q).D
     | false=>match Nat.beq f 137 with
      | true=>c7c (c0j p q) (b7P p q).D
      | false=>match Nat.beq f 79 with
       | true=>c7c (c0n p q) (c5J p q).D
       | false=>match Nat.beq f 117 with
        | true=>c7c (d2P p q) (i64 (a6M (p.n*q.d) (q.n*p.d)))
        | false=>match Nat.beq f 74 with
         | true=>c7c (d2T p q (b5K q)) (mkQ (p.n*(b5K q).n) (p.d*(b5K q).d)).D
         | false=>none
    | none=>none
   | none=>none
 | [x]=>match Nat.beq f 135 with
  | true=>match asQ x with
   | some p=>some (i64 (max (-1) (min 1 p.n)))
   | none=>none
  | false=>match Nat.beq f 72 with
   | true=>match x with
    | .prim (.int .i64 z)=>some (smF z 1)
    | _=>none
   | false=>none
 | _=>none
theorem d2Z (p q:Q2):ArePure [p.D,q.D]:=d9k
theorem c7y {f:Nat}{ds:List D}{d:D}(h:d5w f ds=some d):a0b C0 f ds d/\ArePure ds:=by
 unfold d5w at h;split at h<;>try(cases h;done)
 ·split at h
  ·rename_i hf
   obtain rfl:=d9v hf;split at h<;>try(cases h;done)
   rename_i ha;split at h<;>try(cases h;done)
   rename_i hb;obtain rfl:=b8c ha;obtain rfl:=b8c hb;obtain ⟨hk,rfl⟩:=a7a h;exact ⟨c6E hk,d9k⟩
  split at h<;>try(cases h;done)
  rename_i p hp;split at h<;>try(cases h;done)
  rename_i q hq;obtain rfl:=b8d hp;obtain rfl:=b8d hq;refine ⟨?_,d2Z p q⟩;split at h
  ·rename_i hf
   obtain rfl:=d9v hf;obtain ⟨hb,rfl⟩:=a7a h;exact c5X hb
  split at h
  ·rename_i hf
   obtain rfl:=d9v hf;obtain ⟨hb,rfl⟩:=a7a h;exact b8A hb
  split at h
  ·rename_i hf
   obtain rfl:=d9v hf;obtain ⟨hb,rfl⟩:=a7a h;exact c0z hb
  split at h
  ·rename_i hf
   obtain rfl:=d9v hf;obtain ⟨hb,rfl⟩:=a7a h;simp only [d2P,d9B] at hb;obtain ⟨⟨⟨⟨⟨b1,b2⟩,b3⟩,b4⟩,b5⟩,b6⟩:=hb;exact b9b p q (a0K b1) (a0K b2) (a0K b3) (a0K b4) (a0K b5) (a0K b6)
  split at h<;>try(cases h;done)
  rename_i hf;obtain rfl:=d9v hf;obtain ⟨hb,rfl⟩:=a7a h;simp only [d2T,d9B] at hb;obtain ⟨⟨⟨⟨⟨⟨⟨⟨⟨⟨b1,b2⟩,b3⟩,b4⟩,b5⟩,b6⟩,b7⟩,b8⟩,b9⟩,b10⟩,b11⟩:=hb;exact c6L p q (d2M b1) (a7E b2) (a7E b3) (a0K b4) (a0K b5) (a0K b6) (a0K b7) (a0K b8) (a0K b9) (a0K b10) (a0K b11)
 ·split at h
  ·rename_i hf
   obtain rfl:=d9v hf;split at h<;>try(cases h;done)
   rename_i p hp;obtain rfl:=b8d hp;cases h;exact ⟨c2C p,d9k⟩
  split at h<;>try(cases h;done)
  rename_i hf;obtain rfl:=d9v hf;split at h<;>try(cases h;done)
  cases h;exact ⟨d6i _,d9k⟩
def c8I (o:Nat->List D->Option D)(f:Nat)(ds:List D):Option D:=match d5w f ds with
 | some d=>some d
 | none=>o f ds
theorem b4G {o:Nat->List D->Option D}(ho:∀ f ds d,o f ds=some d->a0b C0 f ds d/\ArePure ds)(f:Nat)(ds:List D)(d:D)(h:c8I o f ds=some d):a0b C0 f ds d/\ArePure ds:=by
 unfold c8I at h;split at h
 ·rename_i hf;cases h;exact c7y hf
 ·exact ho _ _ _ h
def c6G:Value->Value->Bool
 | .int .i64 a,.int .i64 b=>a==b
 | .string a,.string b=>a.data.toList==b.data.toList
 | .bool a,.bool b=>a==b
 | .slice none 0 0,.slice none 0 0=>true
 | _,_=>false
theorem c2u {a b:Value}(h:c6G a b=true):a=b:=by
 unfold c6G at h;split at h
 ·rw [eq_of_beq h]
 ·rename_i a b
  have:=eq_of_beq h
  congr 1
  exact ByteArray.ext (Array.toList_inj.1 this)
 ·rw [eq_of_beq h]
 ·rfl
 ·cases h
def eqL (f:D->D->Bool):List D->List D->Bool
 | [],[]=>true
 | a::l,b::m=>f a b&&eqL f l m
 | _,_=>false
theorem b2C {f:D->D->Bool}(hf:∀ a b,f a b=true->a=b):∀ {l m:List D},eqL f l m=true->l=m
 | [],[],_=>rfl
 | a::l,b::m,h=>by
  simp only [eqL,d9B] at h;rw [hf a b h.1,b2C hf h.2]
 | [],_::_,h=>by simp [eqL] at h
 | _::_,[],h=>by simp [eqL] at h
def eqD:Nat->D->D->Bool
 | 0,_,_=>false
 | n+1,a,b=>match a,b with
  | .prim a,.prim b=>c6G a b
  | .agg l,.agg m=>eqL (eqD n) l m
  | .sl x y l,.sl x' y' m=>(x==x')&&Nat.beq y y'&&eqL (eqD n) l m
  | _,_=>false
theorem b2B:∀ (n:Nat) (a b:D),eqD n a b=true->a=b
 | 0,_,_,h=>by simp [eqD] at h
 | n+1,a,b,h=>by
  unfold eqD at h;split at h
  ·rw [c2u h]
  ·rw [b2C (b2B n) h]
  ·simp only [d9B] at h
   rw [eq_of_beq h.1.1,d9v h.1.2,b2C (b2B n) h.2]
  ·cases h
def dig:Nat->Nat->List UInt8
 | 0,_=>[]
 | k+1,u=>match Nat.blt u 10 with
  | true=>[UInt8.ofNat (48+u)]
  | false=>dig k (u / 10)++[UInt8.ofNat (48+u%10)]
theorem b8B:∀ (k u:Nat),u<10^k->dig k u=Lib.decDigits u\/k=0
 | 0,_,_=>.inr rfl
 | k+1,u,h=>by
  left;unfold dig Lib.decDigits
  by_cases hu:u<10
  ·rw [dif_pos hu,show Nat.blt u 10=true from by rw [Nat.blt_eq];exact hu]
  ·rw [dif_neg hu,show Nat.blt u 10=false from by rw [<- Bool.not_eq_true,Nat.blt_eq];exact hu]
   dsimp only;rw [e0h] at h;rcases b8B k (u / 10) (by omega) with h1|h1
   ·rw [h1]
   ·subst h1;simp at h;omega
def a1Q:D:=.agg [.sl true 4 [.agg [.prim (.string ⟨#[109,111,105,115,116,117,114,101]⟩),.prim (.string ⟨#[49,47,53]⟩),.prim (.string ⟨#[104,97,108,102,45,117,112]⟩),.prim (.string ⟨#[49,47,49,48]⟩)],.agg [.prim (.string ⟨#[119,101,105,103,104,116]⟩),.prim (.string ⟨#[49,47,50]⟩),.prim (.string ⟨#[104,97,108,102,45,101,118,101,110]⟩),.prim (.string ⟨#[49,47,50]⟩)]],.sl true 3 [.agg [.prim (.string ⟨#[111,110,101]⟩),.sl true 1 [.prim (.string ⟨#[]⟩),.prim (.string ⟨#[55,56]⟩)],.sl true 1 [.prim (.string ⟨#[49,51]⟩),.prim (.string ⟨#[]⟩)]],.agg [.prim (.string ⟨#[116,119,111]⟩),.sl true 1 [.prim (.string ⟨#[]⟩),.prim (.string ⟨#[55,53]⟩)],.sl true 1 [.prim (.string ⟨#[49,52]⟩),.prim (.string ⟨#[]⟩)]],.agg [.prim (.string ⟨#[116,104,114,101,101]⟩),.sl true 1 [.prim (.string ⟨#[]⟩),.prim (.string ⟨#[]⟩)],.sl true 1 [.prim (.string ⟨#[49,54]⟩),.prim (.string ⟨#[]⟩)]]]]
def c8F:List D:=[.agg [i64 67,a1w,i64 5,a1w],.agg [i64 69,a1w,i64 5,a1w],.agg [i64 68,a1w,i64 5,a1w]]
def d5o:D:=.agg [i64 68,a1w,i64 5,a1w]
def c8H (f:Nat)(ds:List D):Option D:=match Nat.beq f 90 with
 | true=>match ds with
  | []=>some b1n
  | _=>none
 | false=>match Nat.beq f 204 with
  | true=>match ds with
   | []=>some a4A
   | _=>none
  | false=>match Nat.beq f 172 with
   | true=>match ds with
    | [d]=>match eqD 30 d a1Q with
     | true=>some (i64 0)
     | false=>none
    | _=>none
   | false=>match Nat.beq f 148 with
    | true=>match ds with
     | [.prim (.string s)]=>some (boo (a1q s.data.toList))
     | _=>none
    | false=>match Nat.beq f 179 with
     | true=>match ds with
      | [.prim (.int .i64 (.ofNat z))]=>match Nat.ble z 9223372036854775807 with
       | true=>some (str ⟨(dig 19 z).toArray⟩)
       | false=>none
      | _=>none
     | false=>match Nat.beq f 192 with
      | true=>match ds with
       | [.prim (.string s)]=>match Nat.ble s.size 18 with
        | true=>match Lib.atoi s.data.toList with
         | some n=>some (.tup [i64 n,.prim .nilIface])
         | none=>none
        | false=>none
       | _=>none
      | false=>match Nat.beq f 89 with
       | true=>match ds with
        | [.sl _ z es]=>match Nat.beq z 4&&eqL (eqD 30) es c8F with
         | true=>some d5o
         | false=>none
        | _=>none
       | false=>none
def Kn:Prop:=a0b C0 172 [a1Q] (i64 0)/\∀ b,a0b C0 89 [.sl b 4 c8F] d5o
theorem a7p:a2n a1Q:=a1a (n:=30) (by kernel_rfl)
theorem c2U (b:Bool):a2n (.sl b 4 c8F):=by cases b<;>exact a1a (n:=30) (by kernel_rfl)
theorem b5Y {d:D}(h:a2n d):ArePure [d]:=⟨fun x hx=>by simp at hx;subst hx;exact h⟩
theorem c7x (K:Kn)(f:Nat)(ds:List D)(d:D)(h:c8H f ds=some d):a0b C0 f ds d/\ArePure ds:=by
 unfold c8H at h;split at h
 ·rename_i hf
  obtain rfl:=d9v hf;split at h<;>try(cases h;done)
  cases h;exact ⟨b0n,d9k⟩
 split at h
 ·rename_i hf
  obtain rfl:=d9v hf;split at h<;>try(cases h;done)
  cases h;exact ⟨b1z,d9k⟩
 split at h
 ·rename_i hf
  obtain rfl:=d9v hf;split at h<;>try(cases h;done)
  split at h<;>try(cases h;done)
  rename_i hd;obtain rfl:=b2B _ _ _ hd;cases h;exact ⟨K.1,b5Y a7p⟩
 split at h
 ·rename_i hf
  obtain rfl:=d9v hf;split at h<;>try(cases h;done)
  cases h;exact ⟨a6t _,d9k⟩
 split at h
 ·rename_i hf
  obtain rfl:=d9v hf;split at h<;>try(cases h;done)
  split at h<;>try(cases h;done)
  rename_i z x hz;have hz:=d9A hz;cases h;refine ⟨?_,d9k⟩
  have:=b4B (z:Int) (by omega) (by omega)
  have e:Lib.itoa (z:Int)=dig 19 z:=by
   rcases b8B 19 z (e0f hz (by decide)) with h1|h1
   ·rw [h1];rfl
   ·cases h1
  rw [e] at this;exact this
 split at h
 ·rename_i hf
  obtain rfl:=d9v hf;split at h<;>try(cases h;done)
  split at h<;>try(cases h;done)
  split at h<;>try(cases h;done)
  rename_i s b hs o n hn;cases h;exact ⟨b3Z _ n (d9A hs) hn,d9k⟩
 split at h
 ·rename_i hf
  obtain rfl:=d9v hf;split at h<;>try(cases h;done)
  split at h<;>try(cases h;done)
  rename_i hd;simp only [d9B] at hd;obtain rfl:=d9v hd.1;obtain rfl:=b2C (b2B _) hd.2;cases h;exact ⟨K.2 _,b5Y (c2U _)⟩
 ·cases h
def mtA (t:Nat)(name:String):Option Nat:=match Nat.beq t 116 with
 | true=>match decide (name = "Cmp") with
  | true=>some 117
  | false=>none
 | false=>none
theorem b3i (t:Nat)(name:String)(f:Nat)(h:mtA t name=some f)(v:Value)(w:World):(method (C0.P.types.size+Made.depth) t v name).run C0.P w=.ok (f,v) w:=by
 unfold mtA at h;split at h<;>try(cases h;done)
 rename_i ht;split at h<;>try(cases h;done)
 rename_i hn;obtain rfl:=d9v ht;obtain rfl:=d9N hn;cases h
 kernel_rfl
def d7C:a0n:=⟨.arr 256 1 false,256,256,true,.agg (Array.replicate 256 (.bool false))⟩
noncomputable def tt2 (t:Nat):Option a0n:=match Nat.beq t 341 with
 | true=>some d7C
 | false=>tbt.get t
theorem d3r:Tab C0.P tt2:=fun t i h=>by
 unfold tt2 at h;split at h
 ·rename_i ht
  obtain rfl:=d9v ht;cases h
  kernel_rfl
 ·exact tab t i h
noncomputable def X2:EV:=⟨tt2,xbt.get,fbt.get,fun _=>false,c8I c8H,mtA,b7R⟩
end Go.Ide
