/- The layer of own lemmas and contracts, part 7. -/
import Derived.Test.YtegpdgcahcikoaaGreatDoorZ5
import Derived.Test.YtegpdgcahcikoaaGreatDoorZ3
import Derived.Test.YtegpdgcahcikoaaGreatDoorZ6
import Derived.Lib.AppendIntMem
import Derived.Lib.SmallJoins
import Derived.Shelf.Spec.BitsCarry
import Derived.Laws.StandIn
import Derived.Lib.Bytealg
set_option linter.unusedVariables false
set_option linter.unusedSimpArgs false
namespace Go.Ide
open Go Go.Ide Go.Proofs Go.RowKit
set_option maxRecDepth 100000
def G0 (w:World):Prop:=Lib.TabIs Tryz.prog w "internal/strconv.uint64pow10" .u64 Lib.pow10Tab
theorem mr:Tryz.prog.globalNamed "internal/strconv.uint64pow10" = some 3:=by kernel_rfl
theorem m5 {w w':World}(h:G0 w)(b:Below (3+1) w w'):G0 w':=by
 unfold G0 Lib.TabIs World.var? at h⊢;rw[mr]at h⊢;simp only[Option.bind_some]at h⊢;rw[b.block _ (by decide)];exact h
noncomputable def C0:BD:={P:=Tryz.prog,G:=G0,nG:=3+1,hG:=λ_ _=>m5}
theorem fX {ρ:Lk}{O:Nat->Prop}{w:World}{a b c:Value}{vs:Array Value}(hn:vs.size=3)(h:∀(i:Nat) (x:D),[D.prim a,.prim b,.prim c][i]?=some x->AW ρ O w x (vs.getD i undef)):vs = #[a,b,c]:=by
 match vs,hn with
 |⟨[u,v,x]⟩,_=>
  have h0:=h 0 _ rfl;have h1:=h 1 _ rfl;have h2:=h 2 _ rfl;simp at h0 h1 h2;cases h0;cases h1;cases h2;rfl
theorem kJ (x y c:Nat)(hc:c<=1):Kl C0 252 [.prim (.int .u64 x),.prim (.int .u64 y),.prim (.int .u64 c)]
  (.tup [.prim (.int .u64 (((x+y+c)%18446744073709551616:Nat):Int)),.prim (.int .u64 (((x+y+c)/18446744073709551616:Nat):Int))]):=λρ O w vs hn h=>by
 have:=fX hn h
 subst this;refine⟨.tuple #[.int .u64 (((x+y+c)%18446744073709551616:Nat):Int),.int .u64 (((x+y+c)/18446744073709551616:Nat):Int)],?_,.tup rfl λi d hd=>?_⟩
 ·show(callFunc 252 _).run Tryz.prog w=_
  rw[run_callFunc_extern Tryz.func252 (by kernel_rfl) (by kernel_rfl) (by kernel_rfl) (e:=add64Entry) (by kernel_rfl),run_add64 x y c (by omega) (by omega) (by omega) (by omega)];simp only[Result.andThen]
  congr 5<;>omega
 ·match i with
  | 0=>simp at hd;subst hd;exact .prim _
  | 1=>simp at hd;subst hd;exact .prim _
  |n+2=>simp at hd
theorem yE {ρ:Lk}{O:Nat->Prop}{w:World}{a b:Value}{vs:Array Value}(hn:vs.size=2)(h:∀(i:Nat) (x:D),[D.prim a,.prim b][i]?=some x->AW ρ O w x (vs.getD i undef)):vs = #[a,b]:=by
 match vs,hn with
 |⟨[u,v]⟩,_=>
  have h0:=h 0 _ rfl;have h1:=h 1 _ rfl;simp at h0 h1;cases h0;cases h1;rfl
theorem iV (s:ByteArray)(c:Int):Kl C0 294 [.prim (.string s),.prim (.int .u8 c)] (.prim (.int .i64 (firstIdx s c.toNat.toUInt8))):=λρ O w vs hn h=>by
 have:=yE hn h
 subst this;refine⟨_,?_,.prim _⟩;show(callFunc 294 _).run Tryz.prog w=_;rw[run_callFunc_indexByte Tryz.func294 (by kernel_rfl) (by kernel_rfl) (by kernel_rfl) (by kernel_rfl),run_indexByte_string];rfl
theorem lz (x y b:Nat)(hb:b<=1):Kl C0 253 [.prim (.int .u64 x),.prim (.int .u64 y),.prim (.int .u64 b)]
  (.tup [.prim (.int .u64 (((x+18446744073709551616-y-b)%18446744073709551616:Nat):Int)),.prim (.int .u64 ((if x<y+b then 1 else 0:Nat):Int))]):=λρ O w vs hn h=>by
 have:=fX hn h
 subst this;refine⟨.tuple #[.int .u64 (((x+18446744073709551616-y-b)%18446744073709551616:Nat):Int),.int .u64 ((if x<y+b then 1 else 0:Nat):Int)],?_,.tup rfl λi d hd=>?_⟩
 ·show(callFunc 253 _).run Tryz.prog w=_
  rw[run_callFunc_extern Tryz.func253 (by kernel_rfl) (by kernel_rfl) (by kernel_rfl) (e:=sub64Entry) (by kernel_rfl),run_sub64 x y b hb];rfl
 ·match i with
  | 0=>simp at hd;subst hd;exact .prim _
  | 1=>simp at hd;subst hd;exact .prim _
  |n+2=>simp at hd
theorem Ql {O:Nat->Prop}{w:World}{v:Value}{vs:Array Value}(hn:vs.size=1)(h:∀(i:Nat) (x:D),[D.prim v][i]?=some x->AW nol O w x (vs.getD i undef)):vs = #[v]:=by
 match vs,hn with
 |⟨[u]⟩,_=>
  have h0:=h 0 _ rfl;simp at h0;cases h0;rfl
theorem oP (n:Int)(h0 : -9223372036854775808<=n)(h1:n<=9223372036854775807):AJ C0 166 [i64 n] (str ⟨(Lib.itoa n).toArray⟩):=by
 refine⟨⟨_,_,Tryz.func166,rfl,by kernel_rfl⟩,λY w vs hG hnG hX hvs hr=>?_⟩
 have:=Ql hvs hr
 subst this;refine(Tryz.strconv_Itoa n h0 h1 w hG).mono ?_;rintro e w' ⟨rfl,k,os,rfl⟩;exact⟨_,_,rfl,Lib.below_grow _ _ (Ai _) _ _,rfl,.prim _⟩
theorem oB (s:ByteArray)(n:Int)(hl:s.size<=18)(h:Lib.atoi s.data.toList=some n):AJ C0 197 [str s] (.tup [i64 n,.prim .nilIface]):=by
 refine⟨⟨_,_,Tryz.func197,rfl,by kernel_rfl⟩,λY w vs hG hnG hX hvs hr=>?_⟩
 have:=Ql hvs hr
 subst this;refine(Tryz.strconv_Atoi s n hl h w).mono ?_;rintro e w' ⟨rfl,t,rfl⟩;exact⟨_,_,rfl,Joins.below_bytesWorld _ _ _ _ (Ai _),rfl,.tup rfl λi d hd=>by
  match i with
  | 0=>simp at hd;subst hd;exact .prim _
  | 1=>simp at hd;subst hd;exact .prim _
  |n+2=>simp at hd⟩
def LI (f:Nat)(ds:List D):Option D:=match Nat.beq f 252 with
 |true=>match ds with
  | [.prim (.int .u64 (.ofNat a)),.prim (.int .u64 (.ofNat b)),.prim (.int .u64 (.ofNat c))]=>match Nat.ble c 1 with
   |true=>some (.tup [.prim (.int .u64 (((a+b+c)%18446744073709551616:Nat):Int)),.prim (.int .u64 (((a+b+c)/18446744073709551616:Nat):Int))])
   |false=>none
  |_=>none
 |false=>match Nat.beq f 253 with
  |true=>match ds with
   | [.prim (.int .u64 (.ofNat a)),.prim (.int .u64 (.ofNat b)),.prim (.int .u64 (.ofNat c))]=>match Nat.ble c 1 with
    |true=>some (.tup [.prim (.int .u64 (((a+18446744073709551616-b-c)%18446744073709551616:Nat):Int)),.prim (.int .u64 ((if a<b+c then 1 else 0:Nat):Int))])
    |false=>none
   |_=>none
  |false=>match Nat.beq f 294 with
   |true=>match ds with
    | [.prim (.string s),.prim (.int .u8 c)]=>some (.prim (.int .i64 (firstIdx s c.toNat.toUInt8)))
    |_=>none
   |false=>none
theorem Qr (f:Nat)(ds:List D)(d:D)(h:LI f ds=some d):Kl C0 f ds d:=by
 unfold LI at h;split at h
 ·rename_i hf
  obtain rfl:=B6 hf;split at h<;>try(cases h;done)
  split at h<;>try(cases h;done)
  rename_i hc;cases h;exact kJ _ _ _ (Bj hc)
 ·split at h
  ·rename_i hf
   obtain rfl:=B6 hf;split at h<;>try(cases h;done)
   split at h<;>try(cases h;done)
   rename_i hc;cases h;exact lz _ _ _ (Bj hc)
  ·split at h
   ·rename_i hf
    obtain rfl:=B6 hf;split at h<;>try(cases h;done)
    cases h;exact iV _ _
   ·cases h
noncomputable def X1:EV:=⟨Py.get,Mc.get,Nu.get,λ_=>false,λ_ _=>none,λ_ _=>none,LI⟩
theorem Da:FL C0 X1:=⟨iF,SH,KQ,λ_ _ _ h=>by simp[X1]at h,by kernel_rfl,λ_ _ _ h=>by simp[X1]at h,Qr⟩
theorem w1:DJ C0 X1:=Da.w
theorem wI {z:Int}(h1 : -9223372036854775808<=z)(h2:z<=9223372036854775807):IntKind.i64.wrap z=z:=by
 have e1:(2:Int)^IntKind.i64.bits=18446744073709551616:=rfl;have e2:(2:Int)^(IntKind.i64.bits-1)=9223372036854775808:=rfl;unfold IntKind.wrap;simp only[e1,e2];have e3:IntKind.i64.signed=true:=rfl;rw[e3];simp only[Gi,F8];split<;>omega
theorem wN {n:Nat}(h:n<=9223372036854775807):IntKind.i64.wrap (n:Int)=n:=wI (by omega) (by omega)
set_option maxRecDepth 20000
theorem PG (n:Int):AJ C0 122 [i64 n] (C3 n):=by
 refine Aj.walk w1 aJ rfl λF=>?_
 refine fR 0 ?_;refine fR 100 ?_;refine Ak ?_;exact AK rfl (AA.out (d:=C3 n))
theorem Md:∀(k u:Nat),u<10^(k+1)->(Lib.decDigits u).length<=k+1
 | 0,u,h=>by
  unfold Lib.decDigits;rw[dif_pos (by simpa using h)];simp
 |k+1,u,h=>by
  unfold Lib.decDigits;split
  ·simp
  ·rw[Bk]
   have:=Md k (u/10) (by
    rw[CN]at h;omega)
   simp only[Bp,G5];omega
theorem JH (a b:List UInt8):(⟨a.toArray⟩:ByteArray)++⟨b.toArray⟩=⟨(a++b).toArray⟩:=by
 apply ByteArray.ext;simp[ByteArray.data_append]
theorem Oj (l:List UInt8):(⟨l.toArray⟩:ByteArray).size=l.length:=by simp[ByteArray.size]
def Sm (z:Int):Prop:=-9223372036854775808<z/\z<9223372036854775808
theorem wS {z:Int}(h:Sm z):IntKind.i64.wrap z=z:=wI (by have:=h.1;omega) (by have:=h.2;omega)
theorem ff {z:Int}(h:Sm z):(z != -9223372036854775808)=true:=by
 have:=h.1
 simp only[bne_iff_ne,ne_eq];omega
theorem wU {z:Int}(h1:0<=z)(h2:z<18446744073709551616):IntKind.u64.wrap z=z:=by
 have e1:(2:Int)^IntKind.u64.bits=18446744073709551616:=rfl;unfold IntKind.wrap;simp only[e1];have e3:IntKind.u64.signed=false:=rfl;rw[e3];simp only[HX,ID,if_false];omega
theorem pQ (z:Int)(h:Sm z):AJ C0 204 [i64 z] (u64 (z.natAbs:Nat)):=by
 refine Aj.walk w1 bw rfl λF=>?_
 obtain⟨h1,h2⟩:=h;refine fR 0 ?_;refine AC.seq ?_;refine fR 100 ?_;refine AM ?_
 (refine By (λh4=>?_) (λh4=>?_))<;>(try simp only[Bi,Bv]at h4)<;>(try simp only[h4])
 ·have hz:z<0:=by simpa using h4
  have e1:IntKind.i64.wrap (0-z)=(z.natAbs:Nat):=by rw[wI (by omega) (by omega)];omega
  have e2:IntKind.u64.wrap ((z.natAbs:Nat):Int)=(z.natAbs:Nat):=wU (by omega) (by omega);refine sZ 200 ?_;refine KS (Ad e1 e2) ?_;refine Ak ?_;exact AK rfl AA.out
 ·have hz:¬z<0:=by simpa using h4
  have e2:IntKind.u64.wrap z=(z.natAbs:Nat):=by rw[wU (by omega) (by omega)];omega
  refine Ao ?_;refine sZ 300 ?_;refine KS e2 ?_;refine Ak ?_;exact AK rfl AA.out
theorem vR (z:Int)(h:Sm z):AJ C0 199 [C3 z] (C3 (-z)):=by
 refine Aj.walk w1 Ur rfl λF=>?_
 refine fR 0 ?_;refine AC.seq ?_;refine sZ 100 ?_
 repeat'(first|(refine And.intro (by exact Bx) ?_;refine An ?_)|((refine By (λhb=>?_) (λhb=>?_))<;>(try simp only[Bi,Bv]at hb)<;>(try simp only[hb])<;>(refine An ?_)))
 rw[ff h];refine AM ?_;have e1:IntKind.i64.wrap (0-z) = -z:=by
  have:=h.1;have:=h.2
  rw[wI (by omega) (by omega)];omega
 refine sZ 200 ?_;refine KS e1 ?_;refine Ak ?_;exact AK rfl AA.out
theorem OR (x y:Nat)(hx:x<18446744073709551616)(hy:y<18446744073709551616):AJ C0 203 [u64 x,u64 y] (.tup [u64 (x*y/18446744073709551616:Nat),u64 (x*y%18446744073709551616:Nat)]):=by
 refine⟨⟨_,_,Tryz.func203,rfl,by kernel_rfl⟩,λY w vs hG hnG hX hvs hr=>?_⟩;obtain⟨v1,v2,rfl⟩:∃a b,vs = #[a,b]:=by
  match vs,hvs with
  |⟨[a,b]⟩,_=>exact⟨a,b,rfl⟩
 have h0:=hr 0 _ rfl;have h1:=hr 1 _ rfl;simp at h0 h1;cases h0;cases h1;refine(Tryz.bits_Mul64 x y hx hy w).mono ?_;rintro e w' ⟨rfl,rfl⟩;exact⟨_,_,rfl,.refl _ _,rfl,.tup rfl λi d hd=>by
  match i with
  | 0=>simp at hd;subst hd;exact .prim _
  | 1=>simp at hd;subst hd;exact .prim _
  |n+2=>simp at hd⟩
theorem pj {a b:Int}(hb:0<b):(a.tmod b<0->a.tdiv b-1=a/b/\a.tmod b+b=a%b)/\(¬a.tmod b<0->a.tdiv b=a/b/\a.tmod b=a%b):=by
 have h1:=Int.mul_tdiv_add_tmod a b;have h2:=Int.tmod_lt_of_pos a hb;have h3:=Int.lt_tmod_of_pos a hb;constructor
 ·intro h
  have:=(Int.ediv_emod_unique (a:=a) (r:=a.tmod b+b) (q:=a.tdiv b-1) hb).2 ⟨by rw[Int.mul_sub,Int.mul_one];omega,by omega,by omega⟩
  exact⟨this.1.symm,this.2.symm⟩
 ·intro h
  have:=(Int.ediv_emod_unique (a:=a) (r:=a.tmod b) (q:=a.tdiv b) hb).2 ⟨by omega,by omega,by omega⟩
  exact⟨this.1.symm,this.2.symm⟩
theorem Zu {a b:Int}(ha:Sm a):Sm (a.tdiv b):=by
 have h:(a.tdiv b).natAbs<=a.natAbs:=by rw[Int.natAbs_tdiv];exact GA _ _
 have:=ha.1;have:=ha.2
 exact⟨by omega,by omega⟩
theorem kA (a b:Int)(hb0:0<b)(ha:Sm a)(hb:Sm b):AJ C0 251 [C3 a,C3 b] (.tup [C3 (a/b),C3 (a%b)]):=by
 refine Aj.walk w1 Us rfl λF=>?_
 obtain⟨t1,t2⟩:=pj (a:=a) hb0;have h2:=Int.tmod_lt_of_pos a hb0;have h3:=Int.lt_tmod_of_pos a hb0;have q1:=wS (Zu (b:=b) ha);have q2:IntKind.i64.wrap (a.tmod b)=a.tmod b:=wI (by have:=hb.2;omega) (by have:=hb.2;omega);have q0:=Zu (b:=b) ha;refine fR 0 ?_;refine AC.seq ?_;refine sZ 100 ?_
 repeat'(first|(refine And.intro (by exact Bx) ?_;refine An ?_)|((refine By (λhb=>?_) (λhb=>?_))<;>(try simp only[Bi,Bv]at hb)<;>(try simp only[hb])<;>(refine An ?_)))
 rw[ff ha];refine AM ?_;refine AC.seq ?_;refine B9 w1 200 [0,1,2,3,4,5,6,7,8,9,10] [11] (by kernel_rfl) ?_;refine And.intro (by(refine An ?_);(try simp only[q1,q2]);all_goals exact Bx) ?_;refine An ?_
 try simp only[q1,q2]
 refine AC.seq ?_;refine fR 300 ?_;refine AM ?_
 (refine By (λh40=>?_) (λh40=>?_))<;>(try simp only[Bi,Bv]at h40)<;>(try simp only[h40])
 ·obtain⟨e1,e2⟩:=t1 (by simpa using h40)
  have q3:IntKind.i64.wrap (a.tdiv b-1)=a/b:=by rw[wI (by have:=q0.1;omega) (by have:=q0.2;omega)];exact e1
  have q4:IntKind.i64.wrap (a.tmod b+b)=a%b:=by rw[wI (by have:=hb.2;omega) (by have:=hb.2;omega)];exact e2
  refine B9 w1 400 [0,1,2,3,4,5,6] [7] (by kernel_rfl) ?_;refine And.intro (by(refine An ?_);(try simp only[q3,q4]);all_goals exact Bx) ?_;refine An ?_
  try simp only[q3,q4]
  refine fR 500 ?_;refine Ak ?_;exact AK rfl AA.out
 ·obtain⟨e1,e2⟩:=t2 (by simpa using h40)
  refine Ao ?_;refine AC.seq ?_;rw[e1,e2];refine fI 500 ?_;refine Ak ?_;exact AK rfl AA.out
theorem nM (z:Int):AJ C0 121 [C3 z] (Mb z 1):=by
 refine Aj.walk w1 Um rfl λF=>?_
 refine fR 0 ?_;refine AC.seq ?_;refine B9 w1 100 [0,1] [2,3] (by kernel_rfl) ?_;refine CD ?_;refine BU.same _ (PG 1) AI ?_;refine CD ?_;refine Ak ?_;exact AK rfl AA.out
theorem yu (z:Int):AJ C0 76 [i64 z] (Mb z 1):=by
 refine Aj.walk w1 eJ rfl λF=>?_
 refine fR 0 ?_;refine fR 100 ?_;refine dI (PG z) ?_;refine dI (nM z) ?_;refine Ak ?_;exact AK rfl AA.out
def D4 (a b:Int):Int:=if a<b then -1 else if b<a then 1 else 0
theorem oK (a b:Int):AJ C0 273 [C3 a,C3 b] (i64 (D4 a b)):=by
 refine Aj.walk w1 Ut rfl λF=>?_
 unfold D4;refine fR 0 ?_;refine AC.seq ?_;refine sZ 100 ?_
 repeat'(first|(refine And.intro (by exact Bx) ?_;refine An ?_)|((refine By (λhb=>?_) (λhb=>?_))<;>(try simp only[Bi,Bv]at hb)<;>(try simp only[hb])<;>(refine An ?_)))
 refine AM ?_;refine AC.seq ?_;refine AC.block ?_;refine fR 200 ?_;refine AM ?_
 (refine By (λh13=>?_) (λh13=>?_))<;>(try simp only[Bi,Bv]at h13)<;>(try simp only[h13])
 ·have h1:a<b:=by simpa using h13
  rw[AH h1];refine fR 300 ?_;refine Ak ?_;exact AK rfl AA.out
 ·have h1:¬a<b:=by simpa using h13
  rw[AF h1];refine fR 400 ?_;refine AM ?_
  (refine By (λh19=>?_) (λh19=>?_))<;>(try simp only[Bi,Bv]at h19)<;>(try simp only[h19])
  ·have h2:b<a:=by simpa using h19
   rw[AH h2];refine fR 500 ?_;refine Ak ?_;exact AK rfl AA.out
  ·have h2:¬b<a:=by simpa using h19
   rw[AF h2];refine Ao ?_;refine fR 600 ?_;refine Ak ?_;exact AK rfl AA.out
theorem ah {n k:Nat}(h:Nat.blt n k=true):n<k:=by rw[Nat.blt_eq]at h;exact h
def smB:Int->Bool
 | .ofNat n=>Nat.blt n 9223372036854775808
 | .negSucc n=>Nat.blt n 9223372036854775807
theorem vg {z:Int}(h:smB z=true):Sm z:=by
 cases z with
 |ofNat n=>have:=ah h;exact⟨by rw[Int.ofNat_eq_natCast];omega,by rw[Int.ofNat_eq_natCast];omega⟩
 |negSucc n=>have:=ah h;exact⟨by omega,by omega⟩
abbrev BB:Nat:=18446744073709551616
def Af (n:Nat):List Nat:=if _h:n=0 then[]else(n%BB)::Af (n/BB)
termination_by n
decreasing_by exact IE (D8 _h) (by decide)
def AS:List Nat->Nat
 | []=>0
 |a::l=>a+BB*AS l
def Wd (l:List Nat):Prop:=∀a∈l,a<BB
theorem Ft:Af 0=[]:=by unfold Af;rfl
theorem GK {n:Nat}(h:n≠0):Af n=(n%BB)::Af (n/BB):=by rw[Af,dif_neg h]
theorem FG (n:Nat):Wd (Af n):=by
 induction n using Nat.strongRecOn with
 |ind n ih=>
  by_cases h:n=0
  ·subst h;rw[Ft];intro a ha;cases ha
  ·rw[GK h]
   intro a ha;rcases BA.1 ha with rfl|ha
   ·exact B4 _ (by decide)
   ·exact ih _ (IE (D8 h) (by decide)) a ha
theorem Et (n:Nat):AS (Af n)=n:=by
 induction n using Nat.strongRecOn with
 |ind n ih=>
  by_cases h:n=0
  ·subst h;rw[Ft];rfl
  ·rw[GK h,AS,ih _ (IE (D8 h) (by decide))]
   exact Er n BB
theorem KX (l m:List Nat):AS (l++m)=AS l+BB^l.length*AS m:=by
 induction l with
 |nil=>simp[AS]
 |cons a l ih=>
  simp only[Em,AS,ih,Bp,CN,BN];rw[BS (BB^l.length) BB,Bz,Ed]
theorem Wd.tail {a:Nat}{l:List Nat}(h:Wd (a::l)):Wd l:=λb hb=>h b (CF _ hb)
theorem Wd.head {a:Nat}{l:List Nat}(h:Wd (a::l)):a<BB:=h a CA
theorem Wd.append {l m:List Nat}(h:Wd l)(k:Wd m):Wd (l++m):=λa ha=>(List.mem_append.1 ha).elim (h a) (k a)
theorem Wd.take {l:List Nat}(h:Wd l)(n:Nat):Wd (l.take n):=λa ha=>h a (FX ha)
theorem Ho:∀ {l:List Nat},Wd l->AS l<BB^l.length
 | [],_=>by simp[AS]
 |a::l,h=>by
  have h1:=Ho h.tail;have h2:=h.head;rw[AS,Bp,CN]
  calc a+BB*AS l<BB+BB*AS l:=by omega
   _=BB*(AS l+1):=by rw[BN,EG,LO]
   _<=BB*BB^l.length:=Cc _ h1
   _=_:=BS _ _
theorem Xr:∀ {l:List Nat},Wd l->(∀a∈l.getLast?,a≠0)->Af (AS l)=l
 | [],_,_=>Ft
 | [a],h,hl=>by
  have ha:a≠0:=hl a (by simp);have hb:=h.head;rw[show AS [a]=a from by simp[AS],GK ha,Dj hb,HZ hb,Ft]
 |a::b::l,h,hl=>by
  have ih:=Xr h.tail (λx hx=>hl x (by simpa using hx));have hb:=h.head;have hv:AS (b::l)≠0:=by
   intro h0;rw[h0,Ft]at ih;cases ih
  have e1:AS (a::b::l)%BB=a:=by rw[AS,SO,Dj hb]
  have e2:AS (a::b::l)/BB=AS (b::l):=by
   rw[AS,SU _ _ (by decide),HZ hb,BV]
  have hne:AS (a::b::l)≠0:=by
   intro h0;rw[h0]at e2;exact hv (by rw[<-e2];rfl)
  rw[GK hne,e1,e2,ih]
theorem QG:∀(k:Nat),AS (List.replicate k 0)=0
 | 0=>rfl
 |k+1=>by rw[List.replicate_succ,AS,QG k,Eb]
theorem XR {l:List Nat}(h:Wd l)(n:Nat)(hz:∀j,n<=j->∀a,l[j]?=some a->a=0)(hn:n<=l.length)(hl:∀m,n=m+1->∀a,l[m]?=some a->a≠0):l.take n=Af (AS l):=by
 have hd:l.drop n=List.replicate (l.length-n) 0:=by
  refine Pq λi=>?_
  rw[Hc,List.getElem?_replicate];split
  ·rename_i hi
   rw[BG (by omega)]
   congr 1
   exact hz _ (Nat.le_add_right _ _) _ (BG (by omega))
  ·exact Dk (by omega)
 have hv:AS l=AS (l.take n):=by
  conv=>lhs;rw[<-E8 n l]
  rw[KX,hd,QG,Eb,De]
 rw[hv];refine(Xr (h.take n) λa ha=>?_).symm
 match n,hl,hn with
 | 0,_,_=>simp at ha
 |m+1,hl,hn=>
  refine hl m rfl a ?_;rw[List.getLast?_eq_getElem?,Bb,FC hn,Eo,AH (by omega)]at ha;simpa using ha
abbrev AR (n:Nat):D:=u64 (n:Int)
def wL (l:List Nat):D:=.sl false 1 (l.map AR)
def wD (n:Nat):D:=wL (Af n)
theorem Kr (l:List Nat):B8 (wL l):=.sl λe he d hd=>by
 obtain⟨a,_,rfl⟩:=List.mem_map.1 he;simp only[D.cells,BA,Dc,or_false]at hd;subst hd;exact .prim _
instance  (l:List Nat):AA (wL l):=⟨Kr l⟩
instance  (n:Nat):AA (wD n):=⟨Kr _⟩
theorem DT {l:List Nat}{i a:Nat}(h:l[i]?=some a):(l.map AR)[i]?=some (AR a):=by rw[A7,h];rfl
theorem trim_ok (l:List Nat)(h:Wd l)(hlen:l.length<4000000000):AJ C0 226 [wL l] (wD (AS l)):=by
 refine Aj.walk w1 bC rfl λF=>?_
 unfold wL;refine sR 0 ?_;refine sR 100 ?_;refine AC.seq ?_;refine AC.block ?_;have hml:((l.map AR).length:Int)=(l.length:Int):=by rw[Am]
 rw[hml];refine AC.loop (α:=Nat×Nat) (λp=>⟨[(0,.sl false 1 (l.map AR)),(3,i64 p.1)],[],p.2⟩) (λp=>p.1)
  (λp=>p.1<=l.length/\∀j,p.1<=j->∀a,l[j]?=some a->a=0) (l.length,_) ⟨Ai _,λj hj a ha=>by rw[Dk hj]at ha;cases ha⟩ AL ?_
 rintro⟨n,m⟩ F ⟨h1,h2⟩;dsimp only at h1 h2⊢;refine AC.seq ?_;refine AC.seq ?_;rcases n with _|n
 ·have z0:decide (((0:Nat):Int)>0)=false:=rfl
  refine Ap w1 200 (by kernel_rfl) ?_;refine AE z0 ?_;refine AM ?_;refine CC ?_;have ht:=XR h 0 h2 (BX _) (by simp);refine sR 400 ?_;refine Ak ?_;refine AK (d0:=wL (l.take 0)) ?_ AA.out;rw[ht];rfl
 ·obtain⟨a,ha⟩:∃a,l[n]?=some a:=⟨l[n],BG (by omega)⟩
  have hx:=DT ha;have z1:decide (((n+1:Nat):Int)>0)=true:=AZ (by omega);have w2:IntKind.i64.wrap (((n+1:Nat):Int)-1)=(n:Int):=by rw[wI (by omega) (by omega)];omega
  refine Ap w1 200 (by kernel_rfl) ?_;refine AE (Ad z1 w2) ?_;refine Bs z1 hx ?_;refine AE (Ad z1 w2) ?_;refine AM ?_
  (refine By (λh15=>?_) (λh15=>?_))<;>(try simp only[Bi,Bv]at h15)<;>(try simp only[h15])
  ·have ha0:a=0:=by
    have:(a:Int)=0:=by simpa using h15
    omega
   subst ha0;refine Ao ?_;refine AC.block ?_;refine Ap w1 300 (by kernel_rfl) ?_;refine AV w2 ?_;refine⟨(n,_),⟨by dsimp only;omega,λj hj b hb=>?_⟩,by dsimp only;omega,AL⟩;rcases Nat.eq_or_lt_of_le hj with rfl|hlt
   ·exact F7 (hb.symm.trans ha)
   ·exact h2 j hlt b hb
  ·have ha0:a≠0:=by
    intro h0;subst h0;simp at h15
   refine CC ?_;have ht:=XR h (n+1) h2 h1 (λm hm b hb=>by
    obtain rfl:n=m:=by omega
    rw[ha]at hb;cases hb;exact ha0)
   refine sR 400 ?_;refine Ak ?_;have e4:List.take ((((n+1:Nat):Int)).toNat-0) (List.drop 0 (l.map AR))=(l.take (n+1)).map AR:=by
    rw[List.map_take];simp
   rw[e4];refine AK (d0:=wL (l.take (n+1))) ?_ AA.out;rw[ht];rfl
theorem Hi (b:Nat):∀a,b<=a->(Af b).length<=(Af a).length:=by
 induction b using Nat.strongRecOn with
 |ind b ih=>
  intro a h
  by_cases hb:b=0
  ·subst hb;rw[Ft];exact BX _
  ·rw[GK hb,GK (n:=a) (by omega),Bp,Bp]
   exact Nat.succ_le_succ (ih _ (IE (D8 hb) (by decide)) _ (Nat.div_le_div_right h))
theorem WP {a b:Nat}(h:(Af a).length<(Af b).length):a<b:=by
 rcases BI a b with h1|h1
 ·exact h1
 ·have:=Hi b a h1;omega
theorem Kt {l:List Nat}{k a:Nat}(h:l[k]?=some a):AS l=AS (l.take k)+BB^k*(a+BB*AS (l.drop (k+1))):=by
 have hk:k<l.length:=(List.getElem?_eq_some_iff.1 h).1
 conv=>lhs;rw[<-E8 k l]
 rw[KX,Bb,FC (by omega)]
 have:l.drop k=a::l.drop (k+1):=by
  rw[EU hk]
  congr 1
  exact(List.getElem?_eq_some_iff.1 h).2
 rw[this,AS]
theorem W8 {l m:List Nat}{k a b:Nat}(hl:Wd l)(ha:l[k]?=some a)(hb:m[k]?=some b)(hd:l.drop (k+1)=m.drop (k+1))(hab:a<b):AS l<AS m:=by
 have hk:k<l.length:=(List.getElem?_eq_some_iff.1 ha).1;rw[Kt ha,Kt hb,hd];have h1:=Ho (hl.take k);rw[Bb,FC (by omega)]at h1;generalize AS (m.drop (k+1))=r;have h2:BB^k*(a+BB*r)+BB^k<=BB^k*(b+BB*r):=by
  rw[<-Nat.mul_succ];exact Cc _ (by omega)
 omega
theorem Q2 (a b:Nat)(ha:(Af a).length<4000000000)(hb:(Af b).length<4000000000):AJ C0 208 [wD a,wD b] (i64 (D4 a b)):=by
 refine Aj.walk w1 cQ rfl λF=>?_
 have hwa:=FG a;have hwb:=FG b;have va:=Et a;have vb:=Et b;have hlt:=@WP a b;have hgt:=@WP b a;unfold wD wL D4;generalize Af a=la at*;generalize Af b=lb at*;have ea:(((la.map AR).length:Nat):Int)=(la.length:Int):=by rw[Am]
 have eb:(((lb.map AR).length:Nat):Int)=(lb.length:Int):=by rw[Am]
 refine sR 0 ?_;refine AC.seq ?_;refine sZ 100 ?_;refine AV (Ad ea eb) ?_;refine AM ?_
 (refine By (λh10=>?_) (λh10=>?_))<;>(try simp only[Bi,Bv]at h10)<;>(try simp only[h10])
 ·have hne:la.length≠lb.length:=by
   have:(la.length:Int)≠lb.length:=by simpa using h10
   omega
  refine AC.seq ?_;refine sZ 200 ?_;refine AV (Ad ea eb) ?_;refine AM ?_
  (refine By (λh15=>?_) (λh15=>?_))<;>(try simp only[Bi,Bv]at h15)<;>(try simp only[h15])
  ·have h1:la.length<lb.length:=by
    have:(la.length:Int)<lb.length:=by simpa using h15
    omega
   rw[AH (by have:=hlt h1;omega)];refine sR 300 ?_;refine Ak ?_;exact AK rfl AA.out
  ·have h1:lb.length<la.length:=by
    have:¬(la.length:Int)<lb.length:=by simpa using h15
    omega
   have h2:=hgt h1;rw[AF (by omega),AH (by omega)];refine Ao ?_;refine sR 400 ?_;refine Ak ?_;exact AK rfl AA.out
 ·have hl:la.length=lb.length:=by
   have:(la.length:Int)=lb.length:=by simpa using h10
   omega
  clear hlt hgt;refine Ao ?_;refine AC.seq ?_;refine sZ 500 ?_;refine AV ea ?_;refine AC.block ?_;have w0:IntKind.i64.wrap ((la.length:Int)-1)=(la.length:Int)-1:=wI (by omega) (by omega);rw[w0];refine AC.loop (α:=Nat×Nat) (λp=>⟨[(0,.sl false 1 (la.map AR)),(1,.sl false 1 (lb.map AR)),(5,i64 ((p.1:Int)-1))],[],p.2⟩) (λp=>p.1)
   (λp=>p.1<=la.length/\la.drop p.1=lb.drop p.1) (la.length,_) ⟨Ai _,by rw[JX,hl,JX]⟩ AL ?_
  rintro⟨k,m⟩ F ⟨h1,h2⟩;dsimp only at h1 h2⊢;refine AC.seq ?_;refine sR 600 ?_;refine AM ?_
  (refine By (λh20=>?_) (λh20=>?_))<;>(try simp only[Bi,Bv]at h20)<;>(try simp only[h20])
  ·obtain⟨j,rfl⟩:∃j,k=j+1:=⟨k-1,by
    have:(k:Int)-1>=0:=by simpa using h20
    omega⟩
   have wj:((j+1:Nat):Int)-1=(j:Int):=by omega
   obtain⟨x,hx⟩:∃x,la[j]?=some x:=⟨la[j],BG (by omega)⟩
   obtain⟨y,hy⟩:∃y,lb[j]?=some y:=⟨lb[j],BG (by omega)⟩
   have hx':=DT hx;have hy':=DT hy;rw[wj];refine Ao ?_;refine AC.seq ?_;refine AC.block ?_;refine AC.seq ?_;refine B9 w1 800 [0,1,2,3,4,5,6,7] [8] (by kernel_rfl) ?_;refine AE kN ?_;refine Bs kT hx' ?_;refine AE kN ?_;refine Bs kT hy' ?_;refine AE kN ?_;refine AE kN ?_;refine AM ?_
   (refine By (λh31=>?_) (λh31=>?_))<;>(try simp only[Bi,Bv]at h31)<;>(try simp only[h31])
   ·have hne:x≠y:=by
     intro h0;subst h0;simp at h31
    refine AC.seq ?_;refine AC.seq ?_;refine B9 w1 900 [0,1,2,3,4,5,6,7] [8] (by kernel_rfl) ?_;refine AE kN ?_;refine Bs kT hx' ?_;refine AE kN ?_;refine Bs kT hy' ?_;refine AE kN ?_;refine AE kN ?_;refine AM ?_
    (refine By (λh40=>?_) (λh40=>?_))<;>(try simp only[Bi,Bv]at h40)<;>(try simp only[h40])
    ·have hxy:x<y:=by
      have:(x:Int)<y:=by simpa using h40
      omega
     have:=W8 hwa hx hy h2 hxy
     rw[AH (by omega)];refine sR 1000 ?_;refine Ak ?_;exact AK rfl AA.out
    ·have hxy:y<x:=by
      have:¬(x:Int)<y:=by simpa using h40
      omega
     have:=W8 hwb hy hx h2.symm hxy
     rw[AF (by omega),AH (by omega)];refine Ao ?_;refine sR 1100 ?_;refine Ak ?_;exact AK rfl AA.out
   ·have hxy:x=y:=by
     have:(x:Int)=y:=by simpa using h31
     omega
    subst hxy;have w5:IntKind.i64.wrap ((j:Int)-1)=(j:Int)-1:=wI (by omega) (by omega);refine Ao ?_;refine Ap w1 700 (by kernel_rfl) ?_;refine AV w5 ?_;have hj:=(List.getElem?_eq_some_iff.1 hx)
    have hj':=(List.getElem?_eq_some_iff.1 hy)
    refine⟨(j,_),⟨by dsimp only;omega,?_⟩,by dsimp only;omega,AL⟩;dsimp only;rw[EU hj.1,EU hj'.1,hj.2,hj'.2,h2]
  ·have hk:k=0:=by
    have:¬((k:Int)-1>=0):=by simpa using h20
    omega
   subst hk;have hab:a=b:=by
    rw[<-va,<-vb]
    have:la=lb:=by simpa using h2
    rw[this]
   subst hab;rw[AF (by omega),AF (by omega)];refine CC ?_;refine sR 1200 ?_;refine Ak ?_;exact AK rfl AA.out
theorem YO {a b c:Nat}(hc:c<=1):LI 252 [AR a,AR b,AR c]=some (.tup [AR ((a+b+c)%BB),AR ((a+b+c)/BB)]):=by
 show(match Nat.ble c 1 with
  |true=>some (D.tup [.prim (.int .u64 (((a+b+c)%18446744073709551616:Nat):Int)),.prim (.int .u64 (((a+b+c)/18446744073709551616:Nat):Int))])
  |false=>none)=_
 have h1:Nat.ble c 1=true:=by rw[Nat.ble_eq];exact hc
 rw[h1]
theorem FF {l:List Nat}{i a:Nat}(h:l[i]?=some a):l.take (i+1)=l.take i++[a]:=by rw[Dp,h];rfl
theorem Qn {l:List Nat}{i a:Nat}(h:i<l.length):(l.set i a).take (i+1)=l.take i++[a]:=by
 rw[FF (l:=l.set i a) (i:=i) (a:=a) (by simp[h]),List.take_set_of_le (Ai _)]
theorem Gr {l:List Nat}{i a:Nat}(hi:l.length=i):AS (l++[a])=AS l+BB^i*a:=by rw[KX,hi];simp[AS]
theorem map_set {l:List Nat}{i a:Nat}:(l.map AR).set i (AR a)=(l.set i a).map AR:=List.map_set.symm
theorem Wd.set {l:List Nat}(h:Wd l){i a:Nat}(ha:a<BB):Wd (l.set i a):=λb hb=>by
 rcases Nj hb with h1|rfl
 ·exact h b h1
 ·exact ha
theorem Mo (n:Nat):Wd (List.replicate n 0):=λa ha=>by rw[Pr ha];decide
theorem VH {env:Au}{t K g n N:Nat}{z:List Nat}{T:Nat}(hl:z.length=N)(he:env.get t=.osl K g 1 0 N:=by exact rfl):Wk ⟨env,[⟨K,g,T,1,z.map AR⟩],n⟩ ⟨[(t,.sl false 1 (z.map AR))],[],n⟩:=by
 subst hl;refine⟨.drop .nil,⟨?_,trivial⟩,Ai _⟩;dsimp only;rw[he]
 have:=RP K g T 1 (z.map AR)
 rwa [Am]at this
theorem oA (la lb:List Nat)(ha:Wd la)(hb:Wd lb)(hla:la.length<4000000)(hlb:lb.length<4000000):AJ C0 207 [wL la,wL lb] (wD (AS la+AS lb)):=by
 refine Aj.walk w1 cJ rfl λF=>?_
 unfold wL;have ea:(((la.map AR).length:Nat):Int)=(la.length:Int):=by rw[Am]
 have eb:(((lb.map AR).length:Nat):Int)=(lb.length:Int):=by rw[Am]
 obtain⟨x,y,hsw,hle,hx,hy,hlx,hv⟩:∃x y:List Nat,(la.length<lb.length/\x=lb/\y=la\/¬la.length<lb.length/\x=la/\y=lb)/\y.length<=x.length/\Wd x/\Wd y/\x.length<4000000/\AS la+AS lb=AS x+AS y:=by
  by_cases h:la.length<lb.length
  ·exact⟨lb,la,.inl ⟨h,rfl,rfl⟩,by omega,hb,ha,hlb,by omega⟩
  ·exact⟨la,lb,.inr ⟨h,rfl,rfl⟩,by omega,ha,hb,hla,rfl⟩
 rw[hv];refine sR 0 ?_;refine DU ⟨[(0,.sl false 1 (x.map AR)),(1,.sl false 1 (y.map AR)),(4,CR)],[],20⟩ ?_ ?_
 ·refine sZ 100 ?_
  refine AV (Ad ea eb) ?_;refine AM ?_;rcases hsw with⟨h,rfl,rfl⟩|⟨h,rfl,rfl⟩
  ·have e1:decide ((y.length:Int)<(x.length:Int))=true:=AZ (by omega)
   rw[e1];refine rI 200 ?_;exact And.intro (by trivial) (AL)
  ·have e1:decide ((x.length:Int)<(y.length:Int))=false:=Ah (by omega)
   rw[e1];refine Ao ?_;exact And.intro (by trivial) (AL)
 clear hsw ea eb;have ex:(((x.map AR).length:Nat):Int)=(x.length:Int):=by rw[Am]
 have ey:(((y.map AR).length:Nat):Int)=(y.length:Int):=by rw[Am]
 have w3:IntKind.i64.wrap ((x.length:Int)+1)=((x.length+1:Nat):Int):=by rw[wI (by omega) (by omega)];omega
 have r3:List.replicate (x.length+1) (ofV (.int .u64 0))=(List.replicate (x.length+1) 0).map AR:=by rw[KM];rfl
 refine sZ 300 ?_;refine AV (At ex w3 kN) ?_;refine sR 400 ?_;refine AC.seq ?_;refine sZ 500 ?_;refine AV ex ?_;refine AC.block ?_;refine AC.loop (α:=Nat×Nat×List Nat×Nat) (λp=>⟨[(0,.sl false 1 (x.map AR)),(1,.sl false 1 (y.map AR)),(4,CR),(5,.osl 303 23 1 0 (x.length+1)),(6,AR p.2.1),(21,i64 x.length),(22,i64 p.1)],[⟨303,23,210,1,p.2.2.1.map AR⟩],p.2.2.2⟩) (λp=>x.length-p.1)
  (λp=>p.1<=x.length/\p.2.1<=1/\p.2.2.1.length=x.length+1/\Wd p.2.2.1/\AS (p.2.2.1.take p.1)+BB^p.1*p.2.1=AS (x.take p.1)+AS (y.take p.1)) (0,0,List.replicate (x.length+1) 0,_)
  ⟨BX _,BX _,by simp,Mo _,by simp[AS]⟩ (by rw[<-r3];exact AL) ?_
 rintro⟨i,c,o,m⟩ F ⟨h1,h2,h3,h4,h5⟩;dsimp only at h1 h2 h3 h4 h5⊢;refine sR 600 ?_;refine AC.seq ?_;refine AM ?_
 (refine By (λh23=>?_) (λh23=>?_))<;>(try simp only[Bi,Bv]at h23)<;>(try simp only[h23])
 ·have hi:i<x.length:=by simpa using h23
  obtain⟨a,hxa⟩:∃a,x[i]?=some a:=⟨x[i],BG hi⟩
  have ha:=DT hxa;obtain⟨v,hvl,hvv⟩:∃v,v<BB/\(i<y.length/\y[i]?=some v\/y.length<=i/\v=0):=by
   by_cases h:i<y.length
   ·exact⟨y[i],hy _ (List.getElem_mem h),.inl ⟨h,BG h⟩⟩
   ·exact⟨0,by decide,.inr ⟨by omega,rfl⟩⟩
  have hal:a<BB:=hx a (Aw hxa);have hyv:AS (y.take (i+1))=AS (y.take i)+BB^i*v:=by
   rcases hvv with⟨h,hh⟩|⟨h,rfl⟩
   ·rw[FF hh,Gr (i:=i) (by rw[Bb];omega)]
   ·rw[CE (by omega),CE h];simp
  have hoi:i<o.length:=by omega
  obtain⟨oi,hoa⟩:∃a,o[i]?=some a:=⟨o[i],BG hoi⟩
  have hob:=DT hoa;have hadd:=YO (a:=a) (b:=v) h2;have wi:IntKind.i64.wrap ((i:Int)+1)=((i+1:Nat):Int):=wI (by omega) (by omega);refine Ao ?_;refine AC.seq ?_;refine AC.block ?_;refine sR 700 ?_;refine sR 800 ?_;refine DU ⟨[(0,.sl false 1 (x.map AR)),(1,.sl false 1 (y.map AR)),(4,CR),(5,.osl 303 23 1 0 (x.length+1)),(6,AR c),(7,i64 i),(8,AR v),(21,i64 x.length),(22,i64 i)],[⟨303,23,210,1,o.map AR⟩],m+30⟩ ?_ ?_
  ·refine sZ 900 ?_
   refine AV ey ?_;refine AM ?_;rcases hvv with⟨h,hh⟩|⟨h,rfl⟩
   ·have hy':=DT hh
    have e1:decide ((i:Int)<(y.length:Int))=true:=AZ (by omega);rw[e1];refine rI 1000 ?_;refine AE kN ?_;refine Bs kT hy' ?_;refine BP ?_;exact And.intro (by trivial) (AL)
   ·have e1:decide ((i:Int)<(y.length:Int))=false:=Ah (by omega)
    rw[e1];refine Ao ?_;exact And.intro (by trivial) (AL)
  refine rI 1100 ?_;refine AE kN ?_;refine Bs kT ha ?_;refine AE kN ?_
  first|(refine EB rfl rfl ?_;refine RE rfl rfl (hadd) ?_)|(refine Eh rfl rfl ?_;refine On rfl rfl (hadd) ?_)
  refine AE (At kN BV hob) ?_;have hs:(a+v+c)%BB<BB:=B4 _ (by decide);have hc':(a+v+c)/BB<=1:=by
   have:a+v+c<2*BB:=by omega
   exact Nh (E9 (by rw[BS];exact this))
  rw[map_set];refine Ap w1 1200 (by kernel_rfl) ?_;refine AV wi ?_;refine⟨(i+1,(a+v+c)/BB,o.set i ((a+v+c)%BB),_),⟨hi,hc',by dsimp only;rw[DF];exact h3,h4.set hs,?_⟩,by dsimp only;omega,AL⟩;dsimp only;rw[Qn hoi,Gr (i:=i) (by rw[Bb];omega),FF hxa,Gr (i:=i) (by rw[Bb];omega),hyv];have hm:=Er (a+v+c) BB;rw[CN,Bz,Ed,<-BN,hm,BN,BN];omega
 ·have hi:i=x.length:=by
   have:¬i<x.length:=by simpa using h23
   omega
  subst hi;obtain⟨oi,hoa⟩:∃a,o[x.length]?=some a:=⟨o[x.length],BG (by omega)⟩
  have hob:=DT hoa;refine CC ?_;refine sZ 1300 ?_;refine AE (BZ ex kN BV hob) ?_;rw[map_set];have ho:o.set x.length c=o.take x.length++[c]:=by
   have:=Qn (l:=o) (i:=x.length) (a:=c) (by omega)
   rwa [CE (by rw[DF];omega)]at this
  have hov:AS (o.set x.length c)=AS x+AS y:=by
   rw[ho,Gr (i:=x.length) (by rw[Bb];omega),h5,CE (Ai _),CE hle]
  have how:Wd (o.set x.length c):=h4.set (Db h2 (by decide));have hol:(o.set x.length c).length=x.length+1:=by rw[DF];exact h3
  generalize o.set x.length c=z at*;refine AC.weak ⟨[(5,.sl false 1 (z.map AR))],[],_⟩ (VH hol) ?_;refine sR 1400 ?_;refine BE.same _ (trim_ok z how (by omega)) AI ?_;refine BP ?_;refine Ak ?_;exact AK (by rw[hov]) AA.out
theorem Tm {a b c:Nat}(hc:c<=1):LI 253 [AR a,AR b,AR c]=some (.tup [AR ((a+BB-b-c)%BB),AR (if a<b+c then 1 else 0)]):=by
 show(match Nat.ble c 1 with
  |true=>some (D.tup [.prim (.int .u64 (((a+18446744073709551616-b-c)%18446744073709551616:Nat):Int)),.prim (.int .u64 ((if a<b+c then 1 else 0:Nat):Int))])
  |false=>none)=_
 have h1:Nat.ble c 1=true:=by rw[Nat.ble_eq];exact hc
 rw[h1]
theorem TM {a v c:Nat}(ha:a<BB)(hv:v<BB)(hc:c<=1):(a+BB-v-c)%BB+v+c=a+BB*(if a<v+c then 1 else 0):=by
 by_cases h:a<v+c
 ·rw[AH h,Dj (by omega)];omega
 ·rw[AF h]
  have:a+BB-v-c=(a-v-c)+BB:=by omega
  rw[this,Nat.add_mod_right,Dj (by omega)];omega
theorem pd (x y:List Nat)(hx:Wd x)(hy:Wd y)(hlx:x.length<4000000)(hle:y.length<=x.length)(hv:AS y<=AS x):AJ C0 209 [wL x,wL y] (wD (AS x-AS y)):=by
 refine Aj.walk w1 cR rfl λF=>?_
 unfold wL;have ex:(((x.map AR).length:Nat):Int)=(x.length:Int):=by rw[Am]
 have ey:(((y.map AR).length:Nat):Int)=(y.length:Int):=by rw[Am]
 have r3:List.replicate x.length (ofV (.int .u64 0))=(List.replicate x.length 0).map AR:=by rw[KM];rfl
 refine sR 0 ?_;refine sZ 100 ?_;refine AV (Ad ex kN) ?_;refine sR 200 ?_;refine AC.seq ?_;refine sZ 300 ?_;refine AV ex ?_;refine AC.block ?_;refine AC.loop (α:=Nat×Nat×List Nat×Nat) (λp=>⟨[(0,.sl false 1 (x.map AR)),(1,.sl false 1 (y.map AR)),(4,CR),(5,.osl 102 3 1 0 x.length),(6,AR p.2.1),(13,i64 x.length),(14,i64 p.1)],[⟨102,3,210,1,p.2.2.1.map AR⟩],p.2.2.2⟩) (λp=>x.length-p.1)
  (λp=>p.1<=x.length/\p.2.1<=1/\p.2.2.1.length=x.length/\Wd p.2.2.1/\AS (p.2.2.1.take p.1)+AS (y.take p.1)=AS (x.take p.1)+BB^p.1*p.2.1) (0,0,List.replicate x.length 0,_)
  ⟨BX _,BX _,by simp,Mo _,by simp[AS]⟩ (by rw[<-r3];exact AL) ?_
 rintro⟨i,c,o,m⟩ F ⟨h1,h2,h3,h4,h5⟩;dsimp only at h1 h2 h3 h4 h5⊢;refine sR 400 ?_;refine AC.seq ?_;refine AM ?_
 (refine By (λh23=>?_) (λh23=>?_))<;>(try simp only[Bi,Bv]at h23)<;>(try simp only[h23])
 ·have hi:i<x.length:=by simpa using h23
  obtain⟨a,hxa⟩:∃a,x[i]?=some a:=⟨x[i],BG hi⟩
  have ha:=DT hxa;obtain⟨v,hvl,hvv⟩:∃v,v<BB/\(i<y.length/\y[i]?=some v\/y.length<=i/\v=0):=by
   by_cases h:i<y.length
   ·exact⟨y[i],hy _ (List.getElem_mem h),.inl ⟨h,BG h⟩⟩
   ·exact⟨0,by decide,.inr ⟨by omega,rfl⟩⟩
  have hal:a<BB:=hx a (Aw hxa);have hyv:AS (y.take (i+1))=AS (y.take i)+BB^i*v:=by
   rcases hvv with⟨h,hh⟩|⟨h,rfl⟩
   ·rw[FF hh,Gr (i:=i) (by rw[Bb];omega)]
   ·rw[CE (by omega),CE h];simp
  have hoi:i<o.length:=by omega
  obtain⟨oi,hoa⟩:∃a,o[i]?=some a:=⟨o[i],BG hoi⟩
  have hob:=DT hoa;have hsub:=Tm (a:=a) (b:=v) h2;have hdig:=TM hal hvl h2;have hc':(if a<v+c then 1 else 0)<=1:=by split<;>decide
  have hs:(a+BB-v-c)%BB<BB:=B4 _ (by decide);generalize(if a<v+c then 1 else 0)=c' at*;generalize(a+BB-v-c)%BB=d at*;have wi:IntKind.i64.wrap ((i:Int)+1)=((i+1:Nat):Int):=wI (by omega) (by omega);refine Ao ?_;refine AC.seq ?_;refine AC.block ?_;refine sR 500 ?_;refine sR 600 ?_;refine DU ⟨[(0,.sl false 1 (x.map AR)),(1,.sl false 1 (y.map AR)),(4,CR),(5,.osl 102 3 1 0 x.length),(6,AR c),(7,i64 i),(8,AR v),(13,i64 x.length),(14,i64 i)],[⟨102,3,210,1,o.map AR⟩],m+30⟩ ?_ ?_
  ·refine sZ 700 ?_
   refine AV ey ?_;refine AM ?_;rcases hvv with⟨h,hh⟩|⟨h,rfl⟩
   ·have hy':=DT hh
    have e1:decide ((i:Int)<(y.length:Int))=true:=AZ (by omega);rw[e1];refine rI 800 ?_;refine AE kN ?_;refine Bs kT hy' ?_;refine BP ?_;exact And.intro (by trivial) (AL)
   ·have e1:decide ((i:Int)<(y.length:Int))=false:=Ah (by omega)
    rw[e1];refine Ao ?_;exact And.intro (by trivial) (AL)
  refine rI 900 ?_;refine AE kN ?_;refine Bs kT ha ?_;refine AE kN ?_
  first|(refine EB rfl rfl ?_;refine RE rfl rfl (hsub) ?_)|(refine Eh rfl rfl ?_;refine On rfl rfl (hsub) ?_)
  refine AE (At kN BV hob) ?_;rw[map_set];refine Ap w1 1000 (by kernel_rfl) ?_;refine AV wi ?_;refine⟨(i+1,c',o.set i d,_),⟨hi,hc',by dsimp only;rw[DF];exact h3,h4.set hs,?_⟩,by dsimp only;omega,AL⟩;dsimp only;rw[Qn hoi,Gr (i:=i) (by rw[Bb];omega),FF hxa,Gr (i:=i) (by rw[Bb];omega),hyv];have h6:BB^i*d+BB^i*v+BB^i*c=BB^i*a+BB^(i+1)*c':=by
   rw[CN,Bz,<-BN,<-BN,<-BN,hdig]
  omega
 ·have hi:i=x.length:=by
   have:¬i<x.length:=by simpa using h23
   omega
  subst hi;rw[CE (Nat.le_of_eq h3),CE (Ai _),CE hle]at h5;have hlt:=Ho h4;rw[h3]at hlt;have hc0:c=0:=by
   rcases Dh c with h|h
   ·exact h
   ·have:c=1:=by omega
    subst this;rw[EG]at h5;omega
  subst hc0;have hov:AS o=AS x-AS y:=by
   rw[Eb]at h5;omega
  refine CC ?_;refine AC.weak ⟨[(5,.sl false 1 (o.map AR))],[],_⟩ (VH h3) ?_;refine sR 1100 ?_;refine BE.same _ (trim_ok o h4 (by omega)) AI ?_;refine BP ?_;refine Ak ?_;exact AK (by rw[hov]) AA.out
theorem Jj:∀ {l:List Nat} {k o d:Nat},l[k]?=some o->AS (l.set k d)+BB^k*o=AS l+BB^k*d
 |a::l,0,o,d,h=>by
  simp only[SP,BM]at h;subst h;simp only[List.set_cons_zero,AS,MX,JV];omega
 |a::l,k+1,o,d,h=>by
  simp only[KI]at h;have ih:=Jj (d:=d) h;simp only[List.set_cons_succ,AS];have h1:BB^(k+1)*o=BB*(BB^k*o):=by rw[CN,BS (BB^k) BB,Bz]
  have h2:BB^(k+1)*d=BB*(BB^k*d):=by rw[CN,BS (BB^k) BB,Bz]
  have h3:BB*AS (l.set k d)+BB*(BB^k*o)=BB*AS l+BB*(BB^k*d):=by rw[<-BN,<-BN,ih]
  omega
theorem lL {x y o c:Nat}(hx:x<BB)(hy:y<BB)(ho:o<BB)(hc:c<BB):
  ∃hi lo c1 lo1 hi1 c2 lo2 c',hi=x*y/BB/\lo=x*y%BB/\lo1=(lo+o+0)%BB/\c1=(lo+o+0)/BB/\hi1=hi+c1/\hi1<BB/\lo2=(lo1+c+0)%BB/\c2=(lo1+c+0)/BB/\c'=hi1+c2/\c'<BB/\lo2<BB /\
   lo2+BB*c'=x*y+o+c:=by
 refine⟨_,_,_,_,_,_,_,_,rfl,rfl,rfl,rfl,rfl,?_,rfl,rfl,rfl,?_,B4 _ (by decide),?_⟩
 all_goals
  unfold BB at*;have e1:=Er (x*y) 18446744073709551616;have e2:=Er (x*y%18446744073709551616+o+0) 18446744073709551616;have e3:=Er ((x*y%18446744073709551616+o+0)%18446744073709551616+c+0) 18446744073709551616;have hxy:x*y<=(18446744073709551616-1)*(18446744073709551616-1):=Iw (by omega) (by omega);have hk:(18446744073709551616-1)*(18446744073709551616-1)=340282366920938463426481119284349108225:=by decide
  rw[hk]at hxy;have l1:=B4 (x*y) (show 18446744073709551616>0 by decide);have l2:=B4 (x*y%18446744073709551616+o+0) (show 18446744073709551616>0 by decide);have l3:=B4 ((x*y%18446744073709551616+o+0)%18446744073709551616+c+0) (show 18446744073709551616>0 by decide);generalize x*y=p at*;generalize hA:p/18446744073709551616=A at*;generalize hB:p%18446744073709551616=B at*;generalize hC:(B+o+0)/18446744073709551616=C at*;generalize hD:(B+o+0)%18446744073709551616=D at*;generalize hE:(D+c+0)/18446744073709551616=E at*;generalize hF:(D+c+0)%18446744073709551616=F at*;omega
theorem WG {n:Nat}(h:n<BB):IntKind.u64.wrap (n:Int)=(n:Int):=wU (by omega) (by unfold BB at h;omega)
theorem pt (a b:List Nat)(ha:Wd a)(hb:Wd b)(hla:a.length<1000000)(hlb:b.length<1000000):AJ C0 206 [wL a,wL b] (wD (AS a*AS b)):=by
 refine Aj.walk w1 bz rfl λF=>?_
 unfold wL;have ea:(((a.map AR).length:Nat):Int)=(a.length:Int):=by rw[Am]
 have eb:(((b.map AR).length:Nat):Int)=(b.length:Int):=by rw[Am]
 have wl:IntKind.i64.wrap ((a.length:Int)+(b.length:Int))=((a.length+b.length:Nat):Int):=by rw[wI (by omega) (by omega)];omega
 have r3:List.replicate (a.length+b.length) (ofV (.int .u64 0))=(List.replicate (a.length+b.length) 0).map AR:=by rw[KM];rfl
 refine sR 0 ?_;refine sZ 100 ?_;refine AV (BZ ea eb wl kN) ?_;refine AC.seq ?_;refine sZ 200 ?_;refine AV ea ?_;refine AC.block ?_;refine AC.loop (α:=Nat×List Nat×Nat) (λp=>⟨[(0,.sl false 1 (a.map AR)),(1,.sl false 1 (b.map AR)),(4,CR),(5,.osl 105 6 1 0 (a.length+b.length)),(20,.sl false 1 (a.map AR)),(21,i64 a.length),(22,i64 p.1)],[⟨105,6,210,1,p.2.1.map AR⟩],p.2.2⟩) (λp=>a.length-p.1)
  (λp=>p.1<=a.length/\p.2.1.length=a.length+b.length/\Wd p.2.1/\AS p.2.1=AS (a.take p.1)*AS b/\∀k,p.1+b.length<=k->∀d,p.2.1[k]?=some d->d=0) (0,List.replicate (a.length+b.length) 0,_)
  ⟨BX _,by simp,Mo _,by simp[AS,QG],λk _ d hd=>Pr (Aw hd)⟩ (by rw[<-r3];exact AL) ?_
 rintro⟨i,o,m⟩ F ⟨h1,h2,h3,h4,h5⟩;dsimp only at h1 h2 h3 h4 h5⊢;refine sR 300 ?_;refine AC.seq ?_;refine AM ?_
 (refine By (λh23=>?_) (λh23=>?_))<;>(try simp only[Bi,Bv]at h23)<;>(try simp only[h23])
 ·have hi:i<a.length:=by simpa using h23
  obtain⟨x,hx⟩:∃x,a[i]?=some x:=⟨a[i],BG hi⟩
  have hx':=DT hx;have hxl:x<BB:=ha x (Aw hx);have wi:IntKind.i64.wrap ((i:Int)+1)=((i+1:Nat):Int):=wI (by omega) (by omega);have hax:AS (a.take (i+1))=AS (a.take i)+BB^i*x:=by rw[FF hx,Gr (i:=i) (by rw[Bb];omega)]
  refine Ao ?_;refine AC.seq ?_;refine AC.block ?_;refine sR 400 ?_;refine Bs kT hx' ?_;refine BP ?_;refine sR 500 ?_;refine AC.seq ?_;refine sZ 600 ?_;refine AV eb ?_;refine AC.block ?_;refine AC.loop (α:=Nat×Nat×List Nat×Nat) (λp=>⟨[(0,.sl false 1 (a.map AR)),(1,.sl false 1 (b.map AR)),(4,CR),(5,.osl 105 6 1 0 (a.length+b.length)),(6,i64 i),(7,AR x),(8,AR p.2.1),(20,.sl false 1 (a.map AR)),(21,i64 a.length),(22,i64 i),(27,.sl false 1 (b.map AR)),(28,i64 b.length),(29,i64 p.1)],[⟨105,6,210,1,p.2.2.1.map AR⟩],p.2.2.2⟩) (λp=>b.length-p.1)
   (λp=>p.1<=b.length/\p.2.1<BB/\p.2.2.1.length=a.length+b.length/\Wd p.2.2.1/\AS p.2.2.1+BB^(i+p.1)*p.2.1=AS (a.take i)*AS b+BB^i*x*AS (b.take p.1)/\∀k,i+b.length<=k->∀d,p.2.2.1[k]?=some d->d=0) (0,0,o,_)
   ⟨BX _,show 0<BB by decide,h2,h3,by simp[AS,h4],h5⟩ AL ?_
  rintro⟨j,c,q,m2⟩ F ⟨g1,g2,g3,g4,g5,g6⟩;dsimp only at g1 g2 g3 g4 g5 g6⊢;clear h2 h3 h4 h5 r3 wl;refine sR 700 ?_;refine AC.seq ?_;refine AM ?_
  (refine By (λh30=>?_) (λh30=>?_))<;>(try simp only[Bi,Bv]at h30)<;>(try simp only[h30])
  ·have hj:j<b.length:=by simpa using h30
   obtain⟨y,hy⟩:∃y,b[j]?=some y:=⟨b[j],BG hj⟩
   have hy':=DT hy;have hyl:y<BB:=hb y (Aw hy);obtain⟨z,hz⟩:∃z,q[i+j]?=some z:=⟨q[i+j],BG (by omega)⟩
   have hz':=DT hz;have hzl:z<BB:=g4 z (Aw hz);have wj:IntKind.i64.wrap ((j:Int)+1)=((j+1:Nat):Int):=wI (by omega) (by omega);have wij:IntKind.i64.wrap ((i:Int)+(j:Int))=((i+j:Nat):Int):=by rw[wI (by omega) (by omega)];omega
   have hbx:AS (b.take (j+1))=AS (b.take j)+BB^j*y:=by rw[FF hy,Gr (i:=j) (by rw[Bb];omega)]
   have cm:=OR x y hxl hyl;obtain⟨hi',lo,c1,lo1,hi1,c2,lo2,c',e1,e2,e3,e4,e5,e6,e7,e8,e9,e10,e11,e12⟩:=lL hxl hyl hzl g2;rw[show x*y/18446744073709551616=hi' from e1.symm,show x*y%18446744073709551616=lo from e2.symm]at cm;have e3':(lo+z+0)%18446744073709551616=lo1:=e3.symm;have e4':(lo+z+0)/18446744073709551616=c1:=e4.symm;have e7':(lo1+c+0)%18446744073709551616=lo2:=e7.symm;have e8':(lo1+c+0)/18446744073709551616=c2:=e8.symm;have w6:IntKind.u64.wrap ((hi':Int)+(c1:Int))=(hi1:Int):=by rw[<-Int.natCast_add,<-e5];exact WG e6
   have w7:IntKind.u64.wrap ((hi1:Int)+(c2:Int))=(c':Int):=by rw[<-Int.natCast_add,<-e9];exact WG e10
   refine Ao ?_;refine AC.seq ?_;refine AC.block ?_;refine sR 800 ?_;refine Bs kT hy' ?_;refine BP ?_;refine sR 900 ?_;refine BE.same _ cm AI ?_;refine BP ?_;refine sR 1000 ?_;refine sZ 1100 ?_;refine AE (EQ wij kN BV hz' e3' e4') ?_;refine sZ 1200 ?_;refine AV w6 ?_;refine sZ 1300 ?_;refine AV (Ad e7' e8') ?_;refine Ap w1 1400 (by kernel_rfl) ?_;refine AE (CO wij w7 kN BV hz') ?_;rw[show(D.prim (Value.int IntKind.u64 (lo2:Int)))=AR lo2 from rfl,map_set];refine Ap w1 1500 (by kernel_rfl) ?_;refine AV wj ?_;refine⟨(j+1,c',q.set (i+j) lo2,_),⟨hj,e10,by dsimp only;rw[DF];exact g3,g4.set e11,?_,λk hk d hd=>?_⟩,by dsimp only;omega,AL⟩
   ·dsimp only
    have hs:=Jj (d:=lo2) hz;rw[hbx,BN,<-Ed (AS (a.take i)*AS b),<-g5];have h6:BB^(i+j)*lo2+BB^(i+(j+1))*c'=BB^i*x*(BB^j*y)+BB^(i+j)*z+BB^(i+j)*c:=by
     have:BB^i*x*(BB^j*y)=BB^(i+j)*(x*y):=by
      rw[GC,Bz,Bz,Iq x]
     rw[this,<-Ed i j 1,CN,Bz,<-BN,<-BN,<-BN,e12]
    omega
   ·dsimp only at hk hd
    rw[Io (by omega)]at hd;exact g6 k hk d hd
  ·have hj:j=b.length:=by
    have:¬j<b.length:=by simpa using h30
    omega
   subst hj;obtain⟨z,hz⟩:∃z,q[i+b.length]?=some z:=⟨q[i+b.length],BG (by omega)⟩
   have hz0:z=0:=g6 _ (Ai _) _ hz;subst hz0;have hz':=DT hz;have wij:IntKind.i64.wrap ((i:Int)+(b.length:Int))=((i+b.length:Nat):Int):=by rw[wI (by omega) (by omega)];omega
   have wij0:IntKind.i64.wrap ((i:Int)+(((b.map AR).length:Nat):Int))=((i+b.length:Nat):Int):=by rw[eb];exact wij
   refine CC ?_;refine Ap w1 1600 (by kernel_rfl) ?_;refine AE (CO eb wij kN BV hz') ?_;rw[map_set];refine Ap w1 1700 (by kernel_rfl) ?_;refine AV wi ?_;refine⟨(i+1,q.set (i+b.length) c,_),⟨hi,by dsimp only;rw[DF];exact g3,g4.set g2,?_,λk hk d hd=>?_⟩,by dsimp only;omega,AL⟩
   ·dsimp only
    have hs:=Jj (d:=c) hz;rw[CE (Ai _)]at g5;rw[hax,Bw];omega
   ·dsimp only at hk hd
    rw[Io (by omega)]at hd;exact g6 k (by omega) d hd
 ·have hi:i=a.length:=by
   have:¬i<a.length:=by simpa using h23
   omega
  subst hi;rw[CE (Ai _)]at h4;refine CC ?_;refine AC.weak ⟨[(5,.sl false 1 (o.map AR))],[],_⟩ (VH h2) ?_;refine sR 1800 ?_;refine BE.same _ (trim_ok o h3 (by omega)) AI ?_;refine BP ?_;refine Ak ?_;exact AK (by rw[h4]) AA.out
structure GI where
 z:Int
 sm:Bool
def GI.wf (x:GI):Prop:=(x.sm=true→-9223372036854775808<=x.z/\x.z<9223372036854775808)/\(x.sm=false->¬Sm x.z)
def GI.s (x:GI):Int:=match x.sm with
 |true=>x.z
 |false=>if x.z<0 then -1 else 1
def GI.w (x:GI):D:=match x.sm with
 |true=>CR
 |false=>wD x.z.natAbs
abbrev GI.D (x:GI):D:=.agg [i64 x.s,x.w]
theorem ux (x:GI):B8 x.w:=by
 unfold GI.w;split
 ·exact .prim _
 ·exact Kr _
instance  (x:GI):AA x.w:=⟨ux x⟩
instance  (z:Int):Decidable (Sm z):=inferInstanceAs (Decidable (_/\_))
def AX (z:Int):GI:=⟨z,decide (Sm z)⟩
theorem Cj (z:Int):(AX z).wf:=by
 refine⟨λh=>?_,λh=>?_⟩
 ·have h:Sm z:=C6 h
  exact⟨Int.le_of_lt h.1,h.2⟩
 ·exact DP h
theorem Jt {z:Int}(h:Sm z):AX z=⟨z,true⟩:=by unfold AX;rw[AZ h]
theorem U4 {z:Int}(h:¬Sm z):AX z=⟨z,false⟩:=by unfold AX;rw[Ah h]
theorem Mg {n:Nat}(h0:n≠0)(h:n<BB):Af n=[n]:=by
 rw[GK h0,Dj h,HZ h,Ft]
theorem Hq {n:Nat}(h:n≠0):(Af n).map AR≠[]:=by rw[GK h];simp
theorem d6 (x:GI)(h:x.wf):(x.s<0)=(x.z<0):=by
 obtain⟨z,sm⟩:=x;cases sm with
 |true=>rfl
 |false=>
  unfold GI.s;dsimp only;split<;>simp<;>omega
theorem xI {H Hf:Hp}(n:Nat)(h0:n≠0)(h:n<BB):Fz H Hf (.sl true 1 [AR n]) (wD n):=by
 unfold wD wL;rw[Mg h0 h];exact .nn true 1 _
theorem cr {H Hf:Hp}{a b c d:D}(h:Fz H Hf a c)(k:Fz H Hf b d):Fz H Hf (.tup [a,b]) (.tup [c,d]):=.tup rfl λi x y hx hy=>by
 match i with
 | 0=>simp at hx hy;subst hx;subst hy;exact h
 | 1=>simp at hx hy;subst hx;subst hy;exact k
 |i+2=>simp at hx
instance  (a b:Nat):AA (.tup [wD a,wD b]):=AI
theorem nI:AJ C0 204 [i64 (-9223372036854775808)] (AR 9223372036854775808):=CH Da 1000 40 (by kernel_rfl)
theorem O0 {z:Int}(h1 : -9223372036854775808<=z)(h2:z<9223372036854775808):AJ C0 204 [i64 z] (AR z.natAbs):=by
 by_cases h:z = -9223372036854775808
 ·subst h;exact nI
 ·exact pQ z ⟨by omega,h2⟩
theorem Jh (x:GI)(h:x.wf):AJ C0 167 [x.D] (.tup [As (decide (x.z<0)),wD x.z.natAbs]):=by
 refine Aj.walk w1 bc rfl λF=>?_
 obtain⟨z,sm⟩:=x;obtain⟨h1,h2⟩:=h;unfold GI.D GI.s GI.w;cases sm with
 |true=>
  obtain⟨h3,h4⟩:=h1 rfl;dsimp only at h3 h4⊢;have cs:=O0 h3 h4;refine sR 0 ?_;refine AC.seq ?_;refine AC.block ?_;refine sR 100 ?_;refine AM ?_;refine sR 300 ?_;refine AM ?_
  (refine By (λh13=>?_) (λh13=>?_))<;>(try simp only[Bi,Bv]at h13)<;>(try simp only[h13])
  ·have hz:z=0:=by simpa using h13
   subst hz;refine sR 400 ?_;refine Ak ?_;refine⟨_,cr (.refl _) (c:=As (decide ((0:Int)<0))) (d:=wD (Int.natAbs 0)) ?_,AA.out,rfl⟩;show Fz _ _ CR (wD 0);unfold wD wL;rw[Ft];exact .nil 1
  ·have hz:z≠0:=by simpa using h13
   refine Ao ?_;refine AC.seq ?_;refine B9 w1 500 [0,1,2,3,4,5,6,7] [8] (by kernel_rfl) ?_;refine AE kN ?_;refine BU.same _ cs AI ?_;refine BP ?_;refine Ak ?_;refine⟨_,cr (.refl _) (c:=As (decide (z<0))) (xI z.natAbs (by omega) (by unfold BB;omega)),AA.out,rfl⟩
 |false=>
  have hb:=h2 rfl;have hs:=d6 ⟨z,false⟩ ⟨h1,h2⟩;unfold GI.s at hs;dsimp only at hb hs⊢;have hne:=Hq (n:=z.natAbs) (by intro h0;apply hb;exact⟨by omega,by omega⟩);have hp:B8 (.sl false 1 ((Af z.natAbs).map AR)):=Kr _;unfold wD wL;generalize(Af z.natAbs).map AR=l at*;generalize(if z<0 then(-1:Int)else 1)=sg at*;refine sR 0 ?_;refine AC.seq ?_;refine AC.block ?_;refine sZ 100 ?_;refine AV (At (@ne_eq (List D)) hne EW) ?_;refine AM ?_;refine AC.seq ?_;refine B9 w1 200 [0,1,2,3,4,5] [6] (by kernel_rfl) ?_;refine BP ?_;refine Ak ?_;refine AK ?_ (.tup λd hd=>?_)
  ·simp only[hs]
  ·simp only[BA,Dc,or_false]at hd
   rcases hd with rfl|rfl
   ·exact .prim _
   ·exact hp
def D6 (neg:Bool)(n:Nat):Int:=match neg with
 |true=>-(n:Int)
 |false=>n
theorem Lx (neg:Bool)(n:Nat)(hlen:(Af n).length<4000000):AJ C0 205 [As neg,wD n] (AX (D6 neg n)).D:=by
 refine Aj.walk w1 bx rfl λF=>?_
 by_cases h0:n=0
 ·subst h0
  have e:AX (D6 neg 0)=⟨0,true⟩:=by cases neg<;>exact Jt ⟨by decide,by decide⟩
  rw[e];unfold wD wL GI.D GI.s GI.w;rw[Ft];dsimp only[List.map];refine sR 0 ?_;refine AC.seq ?_;refine AC.block ?_;refine sR 100 ?_;refine AM ?_;refine sR 200 ?_;refine Ak ?_;exact AK rfl AA.out
 ·by_cases h1:n<BB
  ·have hl:=Mg h0 h1
   have b1:(((1:Nat):Int)==0)=false:=rfl;have b2:(((1:Nat):Int)==1)=true:=rfl;have hx:[AR n][(0:Int).toNat]?=some (AR n):=rfl
   by_cases h2:n<=9223372036854775807
   ·have b3:decide ((n:Int)<=9223372036854775807)=true:=AZ (by omega)
    have hsm:Sm (D6 neg n):=by unfold D6;split<;>exact⟨by omega,by omega⟩
    rw[Jt hsm];unfold wD wL GI.D GI.s GI.w;rw[hl];dsimp only[List.map];have w1':IntKind.i64.wrap (n:Int)=(n:Int):=wN h2;have w2':IntKind.i64.wrap (0-(n:Int)) = -(n:Int):=by rw[wI (by omega) (by omega)];omega
    cases neg with
    |true=>
     unfold D6;dsimp only;refine sR 0 ?_;refine AC.seq ?_;refine AC.block ?_;refine sZ 100 ?_;refine AV b1 ?_;refine AM ?_;refine sZ 300 ?_;refine AE (Ad b2 b3) ?_;refine AE (Ad b2 b3) ?_;refine Bs b2 hx ?_;refine AE (Ad b2 b3) ?_;refine AE (Ad b2 b3) ?_;refine AM ?_;refine sZ 400 ?_;refine AE b2 ?_;refine Bs b2 hx ?_;refine AE (Ad w1' w2') ?_;refine Ak ?_;exact AK rfl AA.out
    |false=>
     unfold D6;dsimp only;refine sR 0 ?_;refine AC.seq ?_;refine AC.block ?_;refine sZ 100 ?_;refine AV b1 ?_;refine AM ?_;refine sZ 300 ?_;refine AE (Ad b2 b3) ?_;refine AE (Ad b2 b3) ?_;refine Bs b2 hx ?_;refine AE (Ad b2 b3) ?_;refine AE (Ad b2 b3) ?_;refine AM ?_;refine sZ 500 ?_;refine AE (Ad b2 b3) ?_;refine AE (Ad b2 b3) ?_;refine Bs b2 hx ?_;refine AE (Ad b2 b3) ?_;refine AE (Ad b2 b3) ?_;refine AM ?_;refine sZ 600 ?_;refine AE b2 ?_;refine Bs b2 hx ?_;refine AE (Ad w1' w2') ?_;refine Ak ?_;exact AK rfl AA.out
   ·have b3:decide ((n:Int)<=9223372036854775807)=false:=Ah (by omega)
    have hsm:¬Sm (D6 neg n):=by
     intro hs;have h3:=hs.1;have h4:=hs.2
     revert h3 h4
     unfold D6;split<;>intro h3 h4<;>omega
    rw[U4 hsm];have ha:(D6 neg n).natAbs=n:=by unfold D6;split<;>omega
    unfold GI.D GI.s GI.w;dsimp only;rw[ha];unfold wD wL;rw[hl];dsimp only[List.map];cases neg with
    |true=>
     have hs:(if D6 true n<0 then(-1:Int)else 1) = -1:=AH (by show -(n:Int)<0;omega);rw[hs];refine sR 0 ?_;refine AC.seq ?_;refine AC.block ?_;refine sZ 100 ?_;refine AV b1 ?_;refine AM ?_;refine sZ 300 ?_;refine AE (Ad b2 b3) ?_;refine AE (Ad b2 b3) ?_;refine Bs b2 hx ?_;refine AE (Ad b2 b3) ?_;refine AE (Ad b2 b3) ?_;refine AM ?_;refine sZ 500 ?_;refine AE (Ad b2 b3) ?_;refine AE (Ad b2 b3) ?_;refine Bs b2 hx ?_;refine AE (Ad b2 b3) ?_;refine AE (Ad b2 b3) ?_;refine AM ?_;refine sR 700 ?_;refine AM ?_;refine sR 800 ?_;refine Ak ?_;exact AK rfl AA.out
    |false=>
     have hs:(if D6 false n<0 then(-1:Int)else 1)=1:=AF (by show ¬(n:Int)<0;omega);rw[hs];refine sR 0 ?_;refine AC.seq ?_;refine AC.block ?_;refine sZ 100 ?_;refine AV b1 ?_;refine AM ?_;refine sZ 300 ?_;refine AE (Ad b2 b3) ?_;refine AE (Ad b2 b3) ?_;refine Bs b2 hx ?_;refine AE (Ad b2 b3) ?_;refine AE (Ad b2 b3) ?_;refine AM ?_;refine sZ 500 ?_;refine AE (Ad b2 b3) ?_;refine AE (Ad b2 b3) ?_;refine Bs b2 hx ?_;refine AE (Ad b2 b3) ?_;refine AE (Ad b2 b3) ?_;refine AM ?_;refine sR 700 ?_;refine AM ?_;refine Ao ?_;refine sR 900 ?_;refine Ak ?_;exact AK rfl AA.out
  ·have hl2:2<=(Af n).length:=by
    rw[GK h0,GK (n:=n/BB) (by
     intro h
     have:=Ec n BB
     have:=B4 n (show BB>0 by decide)
     rw[h]at*;omega)]
    simp
   have hsm:¬Sm (D6 neg n):=by
    intro hs;have h3:=hs.1;have h4:=hs.2;have h5:BB<=n:=by omega
    unfold BB at h5
    revert h3 h4
    unfold D6;split<;>intro h3 h4<;>omega
   rw[U4 hsm];have ha:(D6 neg n).natAbs=n:=by unfold D6;split<;>omega
   have hp:AA (.sl false 1 ((Af n).map AR)):=⟨Kr _⟩
   unfold GI.D GI.s GI.w;dsimp only;rw[ha];unfold wD wL;have hel:((((Af n).map AR).length:Nat):Int)=((Af n).length:Int):=by rw[Am]
   generalize(Af n).map AR=l at*;generalize hL:(Af n).length=L at*;have b1:((L:Int)==0)=false:=Bu.2 (by omega);have b2:((L:Int)==1)=false:=Bu.2 (by omega);cases neg with
   |true=>
    have hs:(if D6 true n<0 then(-1:Int)else 1) = -1:=AH (by show -(n:Int)<0;omega);rw[hs];refine sR 0 ?_;refine AC.seq ?_;refine AC.block ?_;refine sZ 100 ?_;refine AV (Ad hel b1) ?_;refine AM ?_;refine sZ 300 ?_;refine AV (Ad hel b2) ?_;refine AE (Ad hel b2) ?_;refine AE (Ad hel b2) ?_;refine AM ?_;refine sZ 500 ?_;refine AV (Ad hel b2) ?_;refine AE (Ad hel b2) ?_;refine AM ?_;refine sR 700 ?_;refine AM ?_;refine sR 800 ?_;refine Ak ?_;exact AK rfl AA.out
   |false=>
    have hs:(if D6 false n<0 then(-1:Int)else 1)=1:=AF (by show ¬(n:Int)<0;omega);rw[hs];refine sR 0 ?_;refine AC.seq ?_;refine AC.block ?_;refine sZ 100 ?_;refine AV (Ad hel b1) ?_;refine AM ?_;refine sZ 300 ?_;refine AV (Ad hel b2) ?_;refine AE (Ad hel b2) ?_;refine AE (Ad hel b2) ?_;refine AM ?_;refine sZ 500 ?_;refine AV (Ad hel b2) ?_;refine AE (Ad hel b2) ?_;refine AM ?_;refine sR 700 ?_;refine AM ?_;refine Ao ?_;refine sR 900 ?_;refine Ak ?_;exact AK rfl AA.out
theorem M8 (x:GI)(h:x.wf):AJ C0 200 [x.D] (i64 (max (-1) (min 1 x.z))):=by
 refine Aj.walk w1 bt rfl λF=>?_
 have e:max (-1) (min 1 x.s)=max (-1) (min 1 x.z):=by
  obtain⟨z,sm⟩:=x;cases sm with
  |true=>rfl
  |false=>
   have hb:=h.2 rfl;unfold GI.s;dsimp only at hb⊢;unfold Sm at hb;split<;>omega
 refine fR 0 ?_;refine fR 100 ?_;rw[e];refine Ak ?_;exact AK rfl AA.out
theorem nH (z:Int):D6 (!decide (z<0)) z.natAbs = -z:=by
 by_cases h:z<0
 ·rw[AZ h];show((z.natAbs:Nat):Int) = -z;omega
 ·rw[Ah h];show -((z.natAbs:Nat):Int) = -z;omega
def GI.few (x:GI):Prop:=(Af x.z.natAbs).length<1000000
theorem PF (x:GI)(h:x.wf)(hf:x.few):AJ C0 199 [x.D] (AX (-x.z)).D:=by
 by_cases hs:x.sm=true/\x.z ≠ -9223372036854775808
 ·obtain⟨z,sm⟩:=x
  obtain⟨rfl,hz⟩:=hs;have h1:=h.1 rfl;dsimp only at h1 hz⊢;have hsm:Sm z:=⟨by omega,h1.2⟩
  have:=vR z hsm
  rw[Jt ⟨by have:=hsm.2;omega,by have:=hsm.1;omega⟩];exact this
 ·refine Aj.walk w1 Ur rfl λF=>?_
  have cp:=Jh x h;have cm:=Lx (!decide (x.z<0)) x.z.natAbs (GB hf (by decide));rw[nH]at cm;have hpr:AA (AX (-x.z)).w:=AI;dsimp only[GI.D]at cp cm⊢;generalize(AX (-x.z)).s=rs at*;generalize(AX (-x.z)).w=rw at*;obtain⟨z,sm⟩:=x;unfold GI.s GI.w at*;cases sm with
  |true=>
   have hz:z = -9223372036854775808:=Dd λh0=>hs ⟨rfl,h0⟩
   subst hz;dsimp only at cp cm⊢;refine fR 0 ?_;refine AC.seq ?_;refine sZ 100 ?_
   repeat'(first|(refine And.intro (by exact Bx) ?_;refine An ?_)|((refine By (λhb=>?_) (λhb=>?_))<;>(try simp only[Bi,Bv]at hb)<;>(try simp only[hb])<;>(refine An ?_)))
   refine AM ?_;refine Ao ?_;refine fR 300 ?_;refine dI cp ?_;refine fR 400 ?_;refine dI cm ?_;refine Ak ?_;exact AK rfl AA.out
  |false=>
   have hne:=Hq (n:=z.natAbs) (by
    intro h0
    have:=h.2 rfl
    apply this;exact⟨by dsimp only;omega,by dsimp only;omega⟩)
   dsimp only at cp cm⊢;unfold wD wL at*;have hp:AA (.sl false 1 ((Af z.natAbs).map AR)):=⟨Kr _⟩
   generalize(Af z.natAbs).map AR=l at*;generalize(if z<0 then(-1:Int)else 1)=sg at*;generalize decide (z<0)=nb at*;refine fR 0 ?_;refine AC.seq ?_;refine AC.seq ?_;refine Ap w1 100 (by kernel_rfl) ?_;refine AV (At (@ne_eq (List D)) hne EW) ?_;refine AE kT ?_;refine AE kT ?_;refine AM ?_;refine Ao ?_;refine fR 300 ?_;refine dI cp ?_;refine fR 400 ?_;refine dI cm ?_;refine Ak ?_;exact AK rfl AA.out
theorem yi (a b:Nat)(ha:(Af a).length<1000000)(hb:(Af b).length<1000000):AJ C0 207 [wD a,wD b] (wD (a+b)):=by
 have:=oA (Af a) (Af b) (FG a) (FG b) (GB ha (by decide)) (GB hb (by decide))
 rwa [Et,Et]at this
theorem gR (a b:Nat)(h:b<=a)(ha:(Af a).length<1000000):AJ C0 209 [wD a,wD b] (wD (a-b)):=by
 have:=pd (Af a) (Af b) (FG a) (FG b) (GB ha (by decide)) (Hi b a h) (by rw[Et,Et];exact h)
 rwa [Et,Et]at this
theorem yU (a b:Nat)(ha:(Af a).length<1000000)(hb:(Af b).length<1000000):AJ C0 206 [wD a,wD b] (wD (a*b)):=by
 have:=pt (Af a) (Af b) (FG a) (FG b) ha hb
 rwa [Et,Et]at this
theorem HB {n k:Nat}(h:n<BB^k):(Af n).length<=k:=by
 induction k generalizing n with
 |zero=>
  have:n=0:=by simpa using h
  subst this;rw[Ft];exact Ai _
 |succ k ih=>
  by_cases h0:n=0
  ·subst h0;rw[Ft];exact BX _
  ·rw[GK h0,Bp]
   exact Nat.succ_le_succ (ih (E9 (by rw[BS,<-CN];exact h)))
theorem Jf (n:Nat):n<BB^(Af n).length:=by
 have:=Ho (FG n)
 rwa [Et]at this
theorem Xp (a b:Nat):(Af (a+b)).length<=max (Af a).length (Af b).length+1:=by
 refine HB ?_;have h1:=Jf a;have h2:=Jf b;have m1:BB^(Af a).length<=BB^max (Af a).length (Af b).length:=FY (by decide) (Nat.le_max_left _ _);have m2:BB^(Af b).length<=BB^max (Af a).length (Af b).length:=FY (by decide) (Nat.le_max_right _ _);rw[CN];generalize BB^max (Af a).length (Af b).length=q at*;unfold BB;omega
theorem Xq (a b:Nat):(Af (a-b)).length<=(Af a).length:=Hi _ _ (Nat.sub_le _ _)
def EE (x y:GI):GI:=if x.sm=true/\y.sm=true/\x.z+y.z = -9223372036854775808 then⟨x.z+y.z,true⟩else AX (x.z+y.z)
theorem ND (x y:GI):(EE x y).z=x.z+y.z:=by unfold EE;split<;>rfl
theorem Mr (x y:GI):(EE x y).wf:=by
 unfold EE;split
 ·rename_i h
  refine⟨λ_=>?_,λh=>by cases h⟩;dsimp only;rw[h.2.2];decide
 ·exact Cj _
theorem kK (x y:GI)(hx:x.sm=true)(hy:y.sm=true)(h1 : -9223372036854775808<=x.z+y.z)(h2:x.z+y.z<9223372036854775808):AJ C0 153 [x.D,y.D] (EE x y).D:=by
 obtain⟨a,sa⟩:=x;obtain⟨b,sb⟩:=y;dsimp only at hx hy h1 h2;subst hx;subst hy;have e:(EE ⟨a,true⟩ ⟨b,true⟩).D=C3 (a+b):=by
  unfold EE;dsimp only;split
  ·rfl
  ·rename_i h
   have h3:¬a+b = -9223372036854775808:=λh0=>h ⟨rfl,rfl,h0⟩
   rw[Jt ⟨by omega,h2⟩];rfl
 rw[e];show AJ C0 _ [C3 a,C3 b] _;refine Aj.walk w1 Uo rfl λF=>?_
 refine fR 0 ?_;refine AC.seq ?_;refine sZ 100 ?_
 repeat'(first|(refine And.intro (by exact Bx) ?_;refine An ?_)|((refine By (λhb=>?_) (λhb=>?_))<;>(try simp only[Bi,Bv]at hb)<;>(try simp only[hb])<;>(refine An ?_)))
 refine AM ?_;have e1:IntKind.i64.wrap (a+b)=a+b:=wI (by omega) (by omega);have e2:(decide (a+b>a)==decide (b>0))=true:=by
  rw[EH,C5];omega
 refine sZ 200 ?_;refine KS e1 ?_;refine fR 300 ?_;rw[e2];refine AM ?_;refine fR 400 ?_;refine Ak ?_;exact AK rfl AA.out
theorem nz (x y:GI)(hx:x.wf)(hy:y.wf)(fx:x.few)(fy:y.few)(hn:¬(x.sm=true/\y.sm=true∧-9223372036854775808<=x.z+y.z/\x.z+y.z<9223372036854775808)):AJ C0 153 [x.D,y.D] (AX (x.z+y.z)).D:=by
 refine Aj.walk w1 Uo rfl λF=>?_
 have cx:=Jh x hx;have cy:=Jh y hy;have hpr:AA (AX (x.z+y.z)).w:=AI;have hpx:AA x.w:=AI;have hpy:AA y.w:=AI;have la:=Xp x.z.natAbs y.z.natAbs;have ls:=Xq x.z.natAbs y.z.natAbs;have ls':=Xq y.z.natAbs x.z.natAbs;unfold GI.few at fx fy;dsimp only[GI.D]at*;refine fR 0 ?_;refine DU ⟨[(2,.optr 0 0 2 0 0),(3,.optr 1 1 2 0 0),(4,.optr 2 2 2 0 0)],[⟨2,2,120,2,[C3 0]⟩,⟨1,1,120,2,[.agg [i64 y.s,y.w]]⟩,⟨0,0,120,2,[.agg [i64 x.s,x.w]]⟩],60⟩ ?_ ?_
 ·obtain⟨a,sa⟩:=x
  obtain⟨b,sb⟩:=y;clear cx cy la ls ls' hpr;have nx:sa=false->(Af a.natAbs).map AR≠[]:=λh=>Hq (by
   intro h0;subst h;exact hx.2 rfl ⟨by dsimp only;omega,by dsimp only;omega⟩)
  have ny:sb=false->(Af b.natAbs).map AR≠[]:=λh=>Hq (by
   intro h0;subst h;exact hy.2 rfl ⟨by dsimp only;omega,by dsimp only;omega⟩)
  unfold GI.s GI.w wD wL at*;dsimp only at*;generalize(Af a.natAbs).map AR=ka at*;generalize(Af b.natAbs).map AR=kb at*;cases sa with
  |false=>
   have nx:=nx rfl;dsimp only at*;generalize(if a<0 then(-1:Int)else 1)=sg at*;generalize(match sb with|true=>b|false=>if b<0 then(-1:Int)else 1)=sh at*;generalize(match sb with|true=>CR|false=>D.sl false 1 kb)=wy at*;refine AC.seq ?_;refine Ap w1 100 (by kernel_rfl) ?_;refine AV (At (@ne_eq (List D)) nx EW) ?_;refine AE kT ?_;refine AE kT ?_;refine AM ?_;refine Ao ?_;exact And.intro (by trivial) (AL)
  |true=>
   dsimp only at*;cases sb with
   |false=>
    have ny:=ny rfl;dsimp only at*;generalize(if b<0 then(-1:Int)else 1)=sh at*;refine AC.seq ?_;refine Ap w1 100 (by kernel_rfl) ?_;refine AV (At (@ne_eq (List D)) ny EW) ?_;refine AE (BZ kT (@ne_eq (List D)) ny EW) ?_;refine AE (BZ kT (@ne_eq (List D)) ny EW) ?_;refine AM ?_;refine Ao ?_;exact And.intro (by trivial) (AL)
   |true=>
    have ra:=hx.1 rfl;have rb:=hy.1 rfl;dsimp only at*;have e2:(decide (IntKind.i64.wrap (a+b)>a)==decide (b>0))=false:=by
     have hov:¬(-9223372036854775808<=a+b/\a+b<9223372036854775808):=λh=>hn ⟨rfl,rfl,h.1,h.2⟩
     have ew:IntKind.i64.wrap (a+b)=a+b-18446744073709551616/\9223372036854775808<=a+b\/IntKind.i64.wrap (a+b)=a+b+18446744073709551616/\a+b < -9223372036854775808:=by
      have e1:(2:Int)^IntKind.i64.bits=18446744073709551616:=rfl;have e2:(2:Int)^(IntKind.i64.bits-1)=9223372036854775808:=rfl;have e3:IntKind.i64.signed=true:=rfl;unfold IntKind.wrap;simp only[e1,e2,e3,Gi,F8];split<;>omega
     rw[Bu,ne_eq,C5];omega
    refine sZ 100 ?_
    repeat'(first|(refine And.intro (by exact Bx) ?_;refine An ?_)|((refine By (λhb=>?_) (λhb=>?_))<;>(try simp only[Bi,Bv]at hb)<;>(try simp only[hb])<;>(refine An ?_)))
    refine AM ?_;refine fR 200 ?_;refine fR 300 ?_;rw[e2];refine AM ?_;refine Ao ?_;exact And.intro (by trivial) (AL)
 ·refine fR 500 ?_
  refine dI cx ?_;refine fR 600 ?_;refine dI cy ?_;refine AC.seq ?_;refine AC.block ?_;refine fR 700 ?_
  by_cases hs:(decide (x.z<0))=(decide (y.z<0))
  ·have e1:(decide (x.z<0)==decide (y.z<0))=true:=EH.2 hs
   rw[e1];have ca:=yi x.z.natAbs y.z.natAbs fx fy;have cm:=Lx (decide (x.z<0)) (x.z.natAbs+y.z.natAbs) (by omega);have ez:D6 (decide (x.z<0)) (x.z.natAbs+y.z.natAbs)=x.z+y.z:=by
    rw[C5]at hs
    by_cases h:x.z<0
    ·rw[AZ h];have:=hs.1 h;show -(((x.z.natAbs+y.z.natAbs:Nat)):Int)=_;omega
    ·rw[Ah h];have:¬y.z<0:=λh0=>h (hs.2 h0);show(((x.z.natAbs+y.z.natAbs:Nat)):Int)=_;omega
   rw[ez]at cm;dsimp only[GI.D]at cm;refine AM ?_;refine fR 800 ?_;refine dI ca ?_;refine dI cm ?_;refine Ak ?_;exact AK rfl AA.out
  ·have e1:(decide (x.z<0)==decide (y.z<0))=false:=Bu.2 hs
   rw[e1];have cc:=Q2 x.z.natAbs y.z.natAbs (by omega) (by omega);refine AM ?_;refine fR 900 ?_;refine dI cc ?_
   by_cases hc:y.z.natAbs<=x.z.natAbs
   ·have e2:decide (D4 (x.z.natAbs:Nat) (y.z.natAbs:Nat)>=0)=true:=AZ (by unfold D4;split<;>(try split)<;>omega)
    rw[e2];have ca:=gR x.z.natAbs y.z.natAbs hc fx;have cm:=Lx (decide (x.z<0)) (x.z.natAbs-y.z.natAbs) (by omega);have ez:D6 (decide (x.z<0)) (x.z.natAbs-y.z.natAbs)=x.z+y.z:=by
     rw[C5]at hs
     by_cases h:x.z<0
     ·rw[AZ h];have:¬y.z<0:=λh0=>hs ⟨λ_=>h0,λ_=>h⟩;show -(((x.z.natAbs-y.z.natAbs:Nat)):Int)=_;omega
     ·rw[Ah h];have:y.z<0:=Dd λh0=>hs ⟨λh1=>Ae h1 h,λh1=>Ae h1 h0⟩;show(((x.z.natAbs-y.z.natAbs:Nat)):Int)=_;omega
    rw[ez]at cm;dsimp only[GI.D]at cm;refine AM ?_;refine fR 1000 ?_;refine dI ca ?_;refine dI cm ?_;refine Ak ?_;exact AK rfl AA.out
   ·have e2:decide (D4 (x.z.natAbs:Nat) (y.z.natAbs:Nat)>=0)=false:=Ah (by unfold D4;split<;>(try split)<;>omega)
    rw[e2];have ca:=gR y.z.natAbs x.z.natAbs (by omega) fy;have cm:=Lx (decide (y.z<0)) (y.z.natAbs-x.z.natAbs) (by omega);have ez:D6 (decide (y.z<0)) (y.z.natAbs-x.z.natAbs)=x.z+y.z:=by
     rw[C5]at hs
     by_cases h:y.z<0
     ·rw[AZ h];have:¬x.z<0:=λh0=>hs ⟨λ_=>h,λ_=>h0⟩;show -(((y.z.natAbs-x.z.natAbs:Nat)):Int)=_;omega
     ·rw[Ah h];have:x.z<0:=Dd λh0=>hs ⟨λh1=>Ae h1 h0,λh1=>Ae h1 h⟩;show(((y.z.natAbs-x.z.natAbs:Nat)):Int)=_;omega
    rw[ez]at cm;dsimp only[GI.D]at cm;refine AM ?_;refine Ao ?_;refine fR 1100 ?_;refine dI ca ?_;refine dI cm ?_;refine Ak ?_;exact AK rfl AA.out
theorem O7 (x y:GI)(hx:x.wf)(hy:y.wf)(fx:x.few)(fy:y.few):AJ C0 153 [x.D,y.D] (EE x y).D:=by
 by_cases h:x.sm=true/\y.sm=true∧-9223372036854775808<=x.z+y.z/\x.z+y.z<9223372036854775808
 ·exact kK x y h.1 h.2.1 h.2.2.1 h.2.2.2
 ·have:=nz x y hx hy fx fy h
  have e:EE x y=AX (x.z+y.z):=by
   unfold EE;rw[AF];rintro⟨h1,h2,h3⟩;exact h ⟨h1,h2,by omega,by omega⟩
  rw[e];exact this
theorem ZZ {z:Int}(h:(Af z.natAbs).length<1000000):(AX (-z)).few:=by
 show(Af (-z).natAbs).length<1000000;rw[MU];exact h
def Im (x y:GI):GI:=EE x (AX (-y.z))
theorem dc (x y:GI):(Im x y).z=x.z-y.z:=by unfold Im;rw[ND];show x.z + -y.z=_;omega
theorem Z8 (x y:GI):(Im x y).wf:=Mr _ _
theorem gC (x y:GI)(hx:x.wf)(hy:y.wf)(fx:x.few)(fy:y.few):AJ C0 284 [x.D,y.D] (Im x y).D:=by
 refine Aj.walk w1 bR rfl λF=>?_
 have c1:=PF y hy fy;have c2:=O7 x (AX (-y.z)) hx (Cj _) fx (ZZ fy);unfold Im;refine fR 0 ?_;refine AC.seq ?_;refine B9 w1 100 [0,1,2] [3,4] (by kernel_rfl) ?_;refine CD ?_;refine BU.same _ (c1) AI ?_;refine CD ?_;refine dI c2 ?_;refine Ak ?_;exact AK rfl AA.out
theorem xO (x y:GI)(hx:x.wf)(hy:y.wf)(fx:x.few)(fy:y.few):AJ C0 273 [x.D,y.D] (i64 (D4 x.z y.z)):=by
 by_cases h:x.sm=true/\y.sm=true
 ·obtain⟨a,sa⟩:=x
  obtain⟨b,sb⟩:=y;obtain⟨h1,h2⟩:=h;dsimp only at h1 h2;subst h1;subst h2;exact oK a b
 ·have cs:=gC x y hx hy fx fy
  have cg:=M8 (Im x y) (Z8 x y);rw[dc]at cg;have e:max (-1) (min 1 (x.z-y.z))=D4 x.z y.z:=by unfold D4;split<;>(try split)<;>omega
  rw[e]at cg;have hpr:AA (Im x y).w:=AI;have hpx:AA x.w:=AI;have hpy:AA y.w:=AI;dsimp only[GI.D]at*;generalize(Im x y).s=rs at*;generalize(Im x y).w=rw at*;generalize D4 x.z y.z=r at*;refine Aj.walk w1 Ut rfl λF=>?_
  obtain⟨a,sa⟩:=x;obtain⟨b,sb⟩:=y;have nx:sa=false->(Af a.natAbs).map AR≠[]:=λh=>Hq (by
   intro h0;subst h;exact hx.2 rfl ⟨by dsimp only;omega,by dsimp only;omega⟩)
  have ny:sb=false->(Af b.natAbs).map AR≠[]:=λh=>Hq (by
   intro h0;subst h;exact hy.2 rfl ⟨by dsimp only;omega,by dsimp only;omega⟩)
  unfold GI.s GI.w wD wL at*;dsimp only at*;generalize(Af a.natAbs).map AR=ka at*;generalize(Af b.natAbs).map AR=kb at*;cases sa with
  |false=>
   have nx:=nx rfl;dsimp only at*;generalize(if a<0 then(-1:Int)else 1)=sg at*;generalize(match sb with|true=>b|false=>if b<0 then(-1:Int)else 1)=sh at*;generalize(match sb with|true=>CR|false=>D.sl false 1 kb)=wy at*;refine fR 0 ?_;refine AC.seq ?_;refine AC.seq ?_;refine Ap w1 100 (by kernel_rfl) ?_;refine AV (At (@ne_eq (List D)) nx EW) ?_;refine AE kT ?_;refine AE kT ?_;refine AM ?_;refine Ao ?_;refine fR 700 ?_;refine dI cs ?_;refine dI cg ?_;refine Ak ?_;exact AK rfl AA.out
  |true=>
   dsimp only at*;cases sb with
   |false=>
    have ny:=ny rfl;dsimp only at*;generalize(if b<0 then(-1:Int)else 1)=sh at*;refine fR 0 ?_;refine AC.seq ?_;refine AC.seq ?_;refine Ap w1 100 (by kernel_rfl) ?_;refine AV (At (@ne_eq (List D)) ny EW) ?_;refine AE (BZ kT (@ne_eq (List D)) ny EW) ?_;refine AE (BZ kT (@ne_eq (List D)) ny EW) ?_;refine AM ?_;refine Ao ?_;refine fR 700 ?_;refine dI cs ?_;refine dI cg ?_;refine Ak ?_;exact AK rfl AA.out
   |true=>exact Ae ⟨rfl,rfl⟩ h
theorem Li (a b:Nat):(Af (a*b)).length<=(Af a).length+(Af b).length:=by
 refine HB ?_;rw[GC];exact Nat.mul_lt_mul'' (Jf a) (Jf b)
theorem nF (a b:Int):D6 (decide (a<0) != decide (b<0)) (a.natAbs*b.natAbs)=a*b:=by
 rw[<-Ni]
 by_cases h1:a<0<;>by_cases h2:b<0
 ·rw[AZ h1,AZ h2]
  have:0<=a*b:=Int.mul_nonneg_of_nonpos_of_nonpos (by omega) (by omega)
  show(((a*b).natAbs:Nat):Int)=a*b;omega
 ·rw[AZ h1,Ah h2]
  have:a*b<=0:=Int.mul_nonpos_of_nonpos_of_nonneg (by omega) (by omega)
  show -(((a*b).natAbs:Nat):Int)=a*b;omega
 ·rw[Ah h1,AZ h2]
  have:a*b<=0:=Int.mul_nonpos_of_nonneg_of_nonpos (by omega) (by omega)
  show -(((a*b).natAbs:Nat):Int)=a*b;omega
 ·rw[Ah h1,Ah h2]
  have:0<=a*b:=Int.mul_nonneg (by omega) (by omega)
  show(((a*b).natAbs:Nat):Int)=a*b;omega
theorem pn (x y:GI)(hx:x.wf)(hy:y.wf)(fx:(Af x.z.natAbs).length<400000)(fy:(Af y.z.natAbs).length<400000)(hn:¬(x.sm=true/\y.sm=true/\(x.z*y.z).natAbs<=9223372036854775807)):AJ C0 152 [x.D,y.D] (AX (x.z*y.z)).D:=by
 refine Aj.walk w1 Un rfl λF=>?_
 have cx:=Jh x hx;have cy:=Jh y hy;have hpr:AA (AX (x.z*y.z)).w:=AI;have hpx:AA x.w:=AI;have hpy:AA y.w:=AI;have lm:=Li x.z.natAbs y.z.natAbs;have ca:=yU x.z.natAbs y.z.natAbs (by omega) (by omega);have cm:=Lx (decide (x.z<0) != decide (y.z<0)) (x.z.natAbs*y.z.natAbs) (by omega);rw[nF]at cm;dsimp only[GI.D]at*;refine fR 0 ?_;refine DU ⟨[(2,.optr 0 0 2 0 0),(3,.optr 1 1 2 0 0),(4,.optr 2 2 2 0 0)],[⟨2,2,120,2,[C3 0]⟩,⟨1,1,120,2,[.agg [i64 y.s,y.w]]⟩,⟨0,0,120,2,[.agg [i64 x.s,x.w]]⟩],90⟩ ?_ ?_
 ·obtain⟨a,sa⟩:=x
  obtain⟨b,sb⟩:=y;clear cx cy lm ca cm hpr;have nx:sa=false->(Af a.natAbs).map AR≠[]:=λh=>Hq (by
   intro h0;subst h;exact hx.2 rfl ⟨by dsimp only;omega,by dsimp only;omega⟩)
  have ny:sb=false->(Af b.natAbs).map AR≠[]:=λh=>Hq (by
   intro h0;subst h;exact hy.2 rfl ⟨by dsimp only;omega,by dsimp only;omega⟩)
  unfold GI.s GI.w wD wL at*;dsimp only at*;generalize(Af a.natAbs).map AR=ka at*;generalize(Af b.natAbs).map AR=kb at*;cases sa with
  |false=>
   have nx:=nx rfl;dsimp only at*;generalize(if a<0 then(-1:Int)else 1)=sg at*;generalize(match sb with|true=>b|false=>if b<0 then(-1:Int)else 1)=sh at*;generalize(match sb with|true=>CR|false=>D.sl false 1 kb)=wy at*;refine AC.seq ?_;refine Ap w1 100 (by kernel_rfl) ?_;refine AV (At (@ne_eq (List D)) nx EW) ?_;refine AE kT ?_;refine AE kT ?_;refine AM ?_;refine Ao ?_;exact And.intro (by trivial) (AL)
  |true=>
   dsimp only at*;cases sb with
   |false=>
    have ny:=ny rfl;dsimp only at*;generalize(if b<0 then(-1:Int)else 1)=sh at*;refine AC.seq ?_;refine Ap w1 100 (by kernel_rfl) ?_;refine AV (At (@ne_eq (List D)) ny EW) ?_;refine AE (BZ kT (@ne_eq (List D)) ny EW) ?_;refine AE (BZ kT (@ne_eq (List D)) ny EW) ?_;refine AM ?_;refine Ao ?_;exact And.intro (by trivial) (AL)
   |true=>
    have ra:=hx.1 rfl;have rb:=hy.1 rfl;dsimp only at*;have sa:=O0 ra.1 ra.2;have sb:=O0 rb.1 rb.2;have la:a.natAbs<BB:=by unfold BB;omega
    have lb:b.natAbs<BB:=by unfold BB;omega
    have c0:=OR a.natAbs b.natAbs la lb;have hab:a.natAbs*b.natAbs=(a*b).natAbs:=(Ni a b).symm;have hbig:9223372036854775807<(a*b).natAbs:=Dd λh=>hn ⟨rfl,rfl,by omega⟩
    rw[hab]at c0;generalize(a*b).natAbs=p at*;refine sZ 100 ?_
    repeat'(first|(refine And.intro (by exact Bx) ?_;refine An ?_)|((refine By (λhb=>?_) (λhb=>?_))<;>(try simp only[Bi,Bv]at hb)<;>(try simp only[hb])<;>(refine An ?_)))
    refine AM ?_;refine AC.seq ?_;refine B9 w1 200 [0,1,2,3,4,5,6,7,8,9,10] [11] (by kernel_rfl) ?_;refine CD ?_;refine BU.same _ (sa) AI ?_;refine CD ?_;refine BU.same _ (sb) AI ?_;refine CD ?_;refine BU.same _ (c0) AI ?_;refine CD ?_;refine AC.seq ?_
    by_cases h0:p/18446744073709551616=0
    ·rw[h0]
     have h1:p%18446744073709551616=p:=by omega
     rw[h1];have e3:decide ((p:Int)<=9223372036854775807)=false:=Ah (by omega);refine Ap w1 300 (by kernel_rfl) ?_
     repeat'(first|(refine And.intro (by exact Bx) ?_;refine An ?_)|((refine By (λhb=>?_) (λhb=>?_))<;>(try simp only[Bi,Bv]at hb)<;>(try simp only[hb])<;>(refine An ?_)))
     rw[e3];refine AM ?_;refine Ao ?_;exact And.intro (by trivial) (AL)
    ·have e3:(((p/18446744073709551616:Nat):Int)==0)=false:=Bu.2 (by omega)
     refine Ap w1 300 (by kernel_rfl) ?_;refine AV e3 ?_;refine AE e3 ?_;refine AE e3 ?_;refine AM ?_;refine Ao ?_;exact And.intro (by trivial) (AL)
 ·refine fR 700 ?_
  refine dI cx ?_;refine fR 800 ?_;refine dI cy ?_;refine fR 900 ?_;refine dI ca ?_;refine dI cm ?_;refine Ak ?_;exact AK rfl AA.out
theorem lM (a b:Int)(hc:Sm (a*b))(ha : -9223372036854775808<=a/\a<9223372036854775808)(hb : -9223372036854775808<=b/\b<9223372036854775808):AJ C0 152 [C3 a,C3 b] (C3 (a*b)):=by
 refine Aj.walk w1 Un rfl λF=>?_
 have hab:a.natAbs*b.natAbs=(a*b).natAbs:=(Ni a b).symm;have h1:a.natAbs*b.natAbs/18446744073709551616=0:=by rw[hab];have:=hc.1;have:=hc.2;omega
 have h2:a.natAbs*b.natAbs%18446744073709551616=(a*b).natAbs:=by rw[hab];have:=hc.1;have:=hc.2;omega
 have c0:=OR a.natAbs b.natAbs (by omega) (by omega);rw[h1,h2]at c0;refine fR 0 ?_;refine AC.seq ?_;refine sZ 100 ?_
 repeat'(first|(refine And.intro (by exact Bx) ?_;refine An ?_)|((refine By (λhb=>?_) (λhb=>?_))<;>(try simp only[Bi,Bv]at hb)<;>(try simp only[hb])<;>(refine An ?_)))
 refine AM ?_;refine AC.seq ?_;refine B9 w1 200 [0,1,2,3,4,5,6,7,8,9,10] [11] (by kernel_rfl) ?_;refine CD ?_;refine BU.same _ (O0 ha.1 ha.2) AI ?_;refine CD ?_;refine BU.same _ (O0 hb.1 hb.2) AI ?_;refine CD ?_;refine BU.same _ (c0) AI ?_;refine CD ?_;refine sZ 300 ?_
 repeat'(first|(refine And.intro (by exact Bx) ?_;refine An ?_)|((refine By (λhb=>?_) (λhb=>?_))<;>(try simp only[Bi,Bv]at hb)<;>(try simp only[hb])<;>(refine An ?_)))
 have e3:decide ((((a*b).natAbs:Nat):Int)<=9223372036854775807)=true:=AZ (by have:=hc.1;have:=hc.2;omega);rw[e3];refine AM ?_;refine AC.seq ?_;refine fR 400 ?_;refine AM ?_;have e4:IntKind.i64.wrap (((a*b).natAbs:Nat):Int)=((a*b).natAbs:Nat):=wN (by have:=hc.1;have:=hc.2;omega)
 (refine By (λh41=>?_) (λh41=>?_))<;>(try simp only[Bi,Bv]at h41)<;>(try simp only[h41])
 ·have e5:IntKind.i64.wrap (0-(((a*b).natAbs:Nat):Int)) = -((a*b).natAbs:Nat):=by
   rw[wI (by have:=hc.1;have:=hc.2;omega) (by have:=hc.1;have:=hc.2;omega)];omega
  have e6 : -(((a*b).natAbs:Nat):Int)=a*b:=by
   have hs:(a<0)≠(b<0):=by simpa using h41
   have:a*b<=0:=by
    by_cases h1:a<0
    ·have h2:¬b<0:=λh2=>hs (by simp[h1,h2])
     exact Int.mul_nonpos_of_nonpos_of_nonneg (by omega) (by omega)
    ·have h2:b<0:=Dd λh2=>hs (by simp[h1,h2])
     exact Int.mul_nonpos_of_nonneg_of_nonpos (by omega) (by omega)
   omega
  refine sZ 500 ?_;refine KS (At e4 e5 e6) ?_;refine Ak ?_;exact AK rfl AA.out
 ·have e6:(((a*b).natAbs:Nat):Int)=a*b:=by
   have hs:¬((a<0)≠(b<0)):=by simpa using h41
   have:0<=a*b:=by
    by_cases h1:a<0
    ·have h2:b<0:=Dd λh2=>hs (by simp[h1,h2])
     exact Int.mul_nonneg_of_nonpos_of_nonpos (by omega) (by omega)
    ·have h2:¬b<0:=λh2=>hs (by simp[h1,h2])
     exact Int.mul_nonneg (by omega) (by omega)
   omega
  rw[e6]at e4;refine Ao ?_;refine sZ 600 ?_;refine KS (Ad e6 e4) ?_;refine Ak ?_;exact AK rfl AA.out
theorem fg (x y:GI)(hx:x.wf)(hy:y.wf)(fx:(Af x.z.natAbs).length<400000)(fy:(Af y.z.natAbs).length<400000):AJ C0 152 [x.D,y.D] (AX (x.z*y.z)).D:=by
 by_cases h:x.sm=true/\y.sm=true/\(x.z*y.z).natAbs<=9223372036854775807
 ·obtain⟨a,sa⟩:=x
  obtain⟨b,sb⟩:=y;obtain⟨h1,h2,h3⟩:=h;dsimp only at h1 h2 h3;subst h1;subst h2;have hs:Sm (a*b):=⟨by omega,by omega⟩
  dsimp only;rw[Jt hs];exact lM a b hs (hx.1 rfl) (hy.1 rfl)
 ·exact pn x y hx hy fx fy h
def MJ (x:GI):GI:=if x.z<0 then AX (-x.z)else x
theorem qU (x:GI):(MJ x).z=(x.z.natAbs:Nat):=by
 unfold MJ;split
 ·show -x.z=_;omega
 ·omega
theorem nu (x:GI)(h:x.wf):(MJ x).wf:=by
 unfold MJ;split
 ·exact Cj _
 ·exact h
theorem di (x:GI)(h:x.wf)(hf:x.few):AJ C0 250 [x.D] (MJ x).D:=by
 refine Aj.walk w1 bO rfl λF=>?_
 have hs:=d6 x h;have cn:=PF x h hf;have hpx:AA x.w:=AI;have hpr:AA (AX (-x.z)).w:=AI;unfold MJ
 by_cases hz:x.z<0
 ·have e:decide (x.s<0)=true:=AZ (by rw[hs];exact hz)
  rw[AH hz];dsimp only[GI.D]at*;refine fR 0 ?_;refine AC.seq ?_;refine fR 100 ?_;rw[e];refine AM ?_;refine fR 200 ?_;refine dI cn ?_;refine Ak ?_;exact AK rfl AA.out
 ·have e:decide (x.s<0)=false:=Ah (by rw[hs];exact hz)
  rw[AF hz];dsimp only[GI.D]at*;refine fR 0 ?_;refine AC.seq ?_;refine fR 100 ?_;rw[e];refine AM ?_;refine Ao ?_;refine fR 300 ?_;refine Ak ?_;exact AK rfl AA.out
structure Ll (B Y u1 u0:Nat)(q r:Nat):Prop where
 eq:q*(Y/B)+r=u1
 up:u1*B+u0<(q+1)*Y
 q2:q<=B+1
theorem Wv {B Y u1 u0:Nat}(hB:0<B)(hY:B*B<=2*Y)(hY2:Y<B*B)(hev:B%2=0)(hu:u1<Y)(h0:u0<B):
  Ll B Y u1 u0 (u1/(Y/B)) (u1-u1/(Y/B)*(Y/B))/\u1-u1/(Y/B)*(Y/B)<B:=by
 have e:=Ec Y B;have m:=B4 Y hB;generalize hg:Y/B=y1 at*;generalize Y%B=y0 at*;have hy1:y1<B:=by
  rcases BI y1 B with h|h
  ·exact h
  ·have:=Cc B h
   omega
 have hy2:B<=2*y1:=by
  rcases BI (2*y1) B with h|h
  ·exfalso
   have h1:2*y1+2<=B:=by omega
   have h2:=Cc B h1;have h3:B*(2*y1+2)=2*(B*y1)+2*B:=by
    rw[BN,Iq,BS B 2]
   omega
  ·exact h
 have e1:=Ec u1 y1;have m1:=B4 u1 (show 0<y1 by omega);have c1:y1*(u1/y1)=u1/y1*y1:=BS _ _;refine⟨⟨by rw[hg];omega,?_,?_⟩,by omega⟩
 ·generalize hq:u1/y1=q at*
  have h1:u1+1<=(q+1)*y1:=by rw[Bw];omega
  have h2:=CM B h1;have h3:(q+1)*Y=(q+1)*y1*B+(q+1)*y0:=by
   rw[<-e,BN,BS B y1,Bz]
  rw[Bw]at h2;omega
 ·rcases BI (B+1) (u1/y1)with h|h
  ·exfalso
   have h1:=Cc y1 (show B+2<=u1/y1 by omega);have h2:y1*(B+2)=B*y1+2*y1:=by rw[BN,BS y1 B,BS y1 2]
   omega
  ·exact h
theorem W4 {B Y u1 u0 q r:Nat}(hB:0<B)(hu:u1<Y)(h0:u0<B)(I:Ll B Y u1 u0 q r)
  (c:B<=q\/B*r+u0<q*(Y%B)):0<q/\Ll B Y u1 u0 (q-1) (r+Y/B):=by
 have e:=Ec Y B;obtain⟨i1,i2,i3⟩:=I;generalize hg:Y/B=y1 at*;generalize Y%B=y0 at*;have hq:0<q:=by
  rcases c with c|c
  ·omega
  ·rcases Dh q with h|h
   ·subst h;omega
   ·exact h
 obtain⟨p,rfl⟩:∃p,q=p+1:=⟨q-1,by omega⟩
 refine⟨hq,⟨?_,?_,?_⟩⟩
 ·rw[Ip,hg,BS p];rw[Bw,BS p]at i1;omega
 ·rw[Ip]
  rcases c with c|c
  ·have h1:=CM Y c
   have h2:(u1+1)*B<=Y*B:=CM B hu;rw[Bw]at h2;rw[BS Y B]at h2;omega
  ·have h3:(p+1)*Y=(p+1)*y1*B+(p+1)*y0:=by
    rw[<-e,BN,BS B y1,Bz]
   have h4:u1*B=(p+1)*y1*B+r*B:=by rw[<-i1,Bw]
   rw[BS r B]at h4;omega
 ·omega
theorem Tb {B Y u1 u0 q r:Nat}(I:Ll B Y u1 u0 q r)
  (c:q*(Y%B)<=B*r+u0):q=(u1*B+u0)/Y:=by
 have e:=Ec Y B;obtain⟨i1,i2,i3⟩:=I;have h3:q*Y=q*(Y/B)*B+q*(Y%B):=by
  conv=>lhs;rw[<-e]
  rw[BN,BS B (Y/B),Bz]
 have h4:u1*B=q*(Y/B)*B+r*B:=by rw[<-i1,Bw]
 rw[BS r B]at h4;have h5:0<Y:=by
  rcases Dh Y with h|h
  ·subst h;omega
  ·exact h
 symm
 apply Nat.div_eq_of_lt_le
 ·omega
 ·exact i2
theorem Wu {B Y u1 u0 q r:Nat}(hB:0<B)(I:Ll B Y u1 u0 q r)(hq:q<=B)(hr:B<=r):
  q=(u1*B+u0)/Y:=by
 refine Tb I ?_;have m:=B4 Y hB;have h1:q*(Y%B)<=B*B:=Iw hq (by omega);have h2:=Cc B hr;omega
theorem j6 {B N S y u32 u1 u0 v:Nat}(hS:0<S)(hy:0<y)(hN:N*S=u32*(B*B)+(u1*B+u0))(hv:v=(u32*B+u1)%(y*S)):
  (u32*B+u1)/(y*S)*B+(v*B+u0)/(y*S)=N/y/\(v*B+u0)%(y*S)/S=N%y:=by
 have hY0:0<y*S:=Hd hy hS;have e1:=Ec (u32*B+u1) (y*S);have e2:=Ec (v*B+u0) (y*S);have m2:=B4 (v*B+u0) hY0;rw[<-hv]at e1;have dY:N*S/(y*S)=N/y:=Pi _ _ hS;have mY:N*S%(y*S)=N%y*S:=Pj _ _ _;generalize(u32*B+u1)/(y*S)=q1 at*;generalize(v*B+u0)/(y*S)=q0 at*;generalize(v*B+u0)%(y*S)=r at*;generalize y*S=Y at*;have hT:N*S=r+Y*(q1*B+q0):=by
  have c1:u32*(B*B)+u1*B=Y*q1*B+v*B:=by
   rw[<-Bz,<-Bw,<-e1,Bw]
  rw[hN,BN,<-Bz Y q1 B];omega
 refine⟨?_,?_⟩
 ·rw[<-dY,hT,SU _ _ hY0,HZ m2,BV]
 ·rw[hT,SO,Dj m2]at mY
  rw[mY,Nat.mul_div_cancel _ hS]
theorem na {hi lo y s:Nat}(hs:s<=63)(h1:hi<y)(hlo:lo<18446744073709551616):
  lo/2^(64-s)<2^s/\hi*2^s+lo/2^(64-s)<y*2^s /\
   (hi*18446744073709551616+lo)*2^s=(hi*2^s+lo/2^(64-s))*18446744073709551616+lo*2^s%18446744073709551616:=by
 have hp:0<2^s:=G7 s;have hpp:2^(64-s)*2^s=18446744073709551616:=by
  rw[<-GC,show 64-s+s=64 by omega]
 have hl:lo*2^s/18446744073709551616=lo/2^(64-s):=by
  rw[<-hpp,Pi _ _ hp]
 have hl2:lo/2^(64-s)<2^s:=E9 (by rw[hpp];exact hlo);refine⟨hl2,?_,?_⟩
 ·have:(hi+1)*2^s<=y*2^s:=CM _ h1
  rw[Bw]at this;omega
 ·have e:=Ec (lo*2^s) 18446744073709551616
  rw[hl]at e;rw[Bw,Bw,Nat.mul_right_comm];omega
theorem VA {a b s:Nat}(h:b<2^s):(a*2^s) ||| b=a*2^s+b:=by
 rw[BS,Nat.two_pow_add_eq_or_of_lt h]
theorem fe (x:Nat)(hx:x<BB):AJ C0 227 [AR x] (i64 (64-(Lib.bitLen x:Int))):=by
 refine⟨⟨_,_,Tryz.func227,rfl,by kernel_rfl⟩,λY w vs hG hnG hX hvs hr=>?_⟩
 have:=Ql hvs hr
 subst this;refine(Tryz.bits_LeadingZeros64 x w (by omega) (by unfold BB at hx;omega)).mono ?_;rintro e w' ⟨rfl,rfl⟩;exact⟨_,_,rfl,.refl _ _,rfl,.prim _⟩
theorem XA {x:Nat}(h0:x≠0)(hx:x<BB):∃s,s<=63/\(64-(Lib.bitLen x:Int))=(s:Nat)/\9223372036854775808<=x*2^s/\x*2^s<18446744073709551616:=by
 obtain⟨h1,h2,h3⟩:=Lib.bitLenAux_bounds 64 x hx h0;have h4:=Lib.bitLen_le x 64 (Ai _) hx;have h5:Lib.bitLenAux 64 x=Lib.bitLen x:=rfl;rw[h5]at h1 h2 h3;refine⟨64-Lib.bitLen x,by omega,by omega,?_,?_⟩
 ·have:=CM (2^(64-Lib.bitLen x)) h2
  rw[<-GC,show Lib.bitLen x-1+(64-Lib.bitLen x)=63 by omega]at this;exact this
 ·have:=(Nat.mul_lt_mul_right (G7 (64-Lib.bitLen x))).2 h3
  rw[<-GC,show Lib.bitLen x+(64-Lib.bitLen x)=64 by omega]at this;exact this
theorem JC (n:Nat):IntKind.u64.wrap (n:Int)=((n%18446744073709551616:Nat):Int):=by
 have e1:(2:Int)^IntKind.u64.bits=18446744073709551616:=rfl;unfold IntKind.wrap;simp only[e1];have e3:IntKind.u64.signed=false:=rfl;rw[e3];simp only[HX,ID,if_false];omega
theorem PJ (x s:Nat)(hs:s<=63):LJ .u64 (x:Int) (s:Int)=((x*2^s%18446744073709551616:Nat):Int):=by
 have hm:min ((s:Int)).toNat (IntKind.bits .u64)=s:=by
  have:IntKind.bits .u64=64:=rfl
  rw[this];omega
 unfold LJ;rw[hm]
 have:(x:Int)*2^s=((x*2^s:Nat):Int):=by simp
 rw[this];exact JC _
theorem NL (x s:Nat)(hs:s<=64):MO .u64 (x:Int) (s:Int)=((x/2^s:Nat):Int):=by
 have hm:min ((s:Int)).toNat (IntKind.bits .u64)=s:=by
  have:IntKind.bits .u64=64:=rfl
  rw[this];omega
 unfold MO;rw[hm]
 have:(2:Int)^s=((2^s:Nat):Int):=by simp
 rw[this,Int.fdiv_eq_ediv_of_nonneg _ (Int.natCast_nonneg _)];exact(Int.natCast_ediv _ _).symm
theorem R4 (a:Nat)(ha:a<18446744073709551616):(BitVec.ofInt (IntKind.bits .u64) (a:Int)).toNat=a:=by
 rw[show IntKind.bits .u64=64 from rfl,BitVec.ofInt_natCast,BitVec.toNat_ofNat];exact Dj ha
theorem Vy (a b:Nat)(ha:a<18446744073709551616)(hb:b<18446744073709551616):HG .or .u64 (a:Int) (b:Int)=((a ||| b:Nat):Int):=by
 have h:a ||| b<2^64:=Nat.or_lt_two_pow ha hb;show IntKind.u64.wrap ((BitVec.ofInt (IntKind.bits .u64) (a:Int) ||| BitVec.ofInt (IntKind.bits .u64) (b:Int)).toNat:Int)=_;rw[BitVec.toNat_or,R4 a ha,R4 b hb,JC];exact congrArg Nat.cast (Dj h)
theorem dj (a:Nat)(ha:a<18446744073709551616):HG .and .u64 (a:Int) 4294967295=((a%4294967296:Nat):Int):=by
 show IntKind.u64.wrap ((BitVec.ofInt (IntKind.bits .u64) (a:Int) &&& BitVec.ofInt (IntKind.bits .u64) ((4294967295:Nat):Int)).toNat:Int)=_;rw[BitVec.toNat_and,R4 a ha,R4 _ (by decide),JC,show(4294967295:Nat)=2^32-1 from rfl,Nat.and_two_pow_sub_one_eq_mod];exact congrArg Nat.cast (Dj (by omega))
theorem VB (a b:Nat):IntKind.u64.wrap ((a:Int).tdiv (b:Int))=((a/b%18446744073709551616:Nat):Int):=by
 rw[<-Int.ofNat_tdiv];exact JC _
theorem de {a b:Nat}(h:b<=a)(ha:a<18446744073709551616):IntKind.u64.wrap ((a:Int)-(b:Int))=((a-b:Nat):Int):=by
 rw[<-Int.natCast_sub h,JC];exact congrArg Nat.cast (Dj (by omega))
section
variable {C:BD} {B F:Ac} {s:St} {rd:Option Nat} {Q:Exit->Ac->St->Prop}
theorem gf {a b:Code}(S:Nat->St)(h1:AC C B rd F a s (λe F1 s1=>JO (F1=F/\∃n,Wk s1 (S n)) (λe=>Q e F1 s1) e))(h2:∀n,AC C B rd F b (S n) Q):AC C B rd F (.seq a b) s Q:=
 AC.seq (h1.mono λe F1 s1 h=>by
  cases e with
  |normal=>
   obtain⟨h0,n,h3⟩:=(show F1=F/\∃n,Wk s1 (S n)from h)
   rw[h0];exact AC.weak (S n) h3 (h2 n)
  |ret=>exact h
  |exit j=>exact h
  |goto l=>exact h
  |panic c=>exact h
  |outgrown=>exact h)
end
theorem My (z:Int):IntKind.u64.wrap z=z%18446744073709551616:=by
 have e1:(2:Int)^IntKind.u64.bits=18446744073709551616:=rfl;unfold IntKind.wrap;simp only[e1];have e3:IntKind.u64.signed=false:=rfl;rw[e3];simp only[HX,ID,if_false]
theorem jK (a b:Nat)(ha:a<4294967296)(hb:b<4294967296):IntKind.u64.wrap (IntKind.u64.wrap ((a:Int)*4294967296)+(b:Int))=((a*4294967296+b:Nat):Int):=by
 rw[My,My];omega
theorem Xj (a c q Y:Nat)(hY:0<Y)(hY2:Y<18446744073709551616)(hq:q=(a*4294967296+c)/Y):
  IntKind.u64.wrap (IntKind.u64.wrap (IntKind.u64.wrap ((a:Int)*4294967296)+(c:Int))-IntKind.u64.wrap ((q:Int)*(Y:Int)))=(((a*4294967296+c)%Y:Nat):Int):=by
 have e:=Ec (a*4294967296+c) Y;have m:=B4 (a*4294967296+c) hY;rw[<-hq,BS Y q]at e;generalize(a*4294967296+c)%Y=v at*;rw[<-F9 q Y];generalize q*Y=Q at*;rw[My,My,My,My];omega
structure qP (hi lo y s Y u u10:Nat):Prop where
 s63:s<=63
 eY:Y=y*2^s
 big:9223372036854775808<=Y
 Yl:Y<18446744073709551616
 uY:u<Y
 u10l:u10<18446744073709551616
 N:(hi*BB+lo)*2^s=u*18446744073709551616+u10
 e8:LJ .u64 (y:Int) (s:Int)=(Y:Int)
 e9:MO .u64 (Y:Int) 32=((Y/4294967296:Nat):Int)
 e10:HG .and .u64 (Y:Int) 4294967295=((Y%4294967296:Nat):Int)
 ew:IntKind.u64.wrap (64-(s:Int))=((64-s:Nat):Int)
 e11:HG .or .u64 (LJ .u64 (hi:Int) (s:Int)) (MO .u64 (lo:Int) ((64-s:Nat):Int))=(u:Int)
 e12:LJ .u64 (lo:Int) (s:Int)=(u10:Int)
 e13:MO .u64 (u10:Int) 32=((u10/4294967296:Nat):Int)
 e14:HG .and .u64 (u10:Int) 4294967295=((u10%4294967296:Nat):Int)
theorem nS {hi lo y s:Nat}(h1:hi<y)(hlo:lo<BB)(hs:s<=63)(t1:9223372036854775808<=y*2^s)(t2:y*2^s<18446744073709551616):
  ∃Y u u10,qP hi lo y s Y u u10:=by
 obtain⟨m1,m2,m3⟩:=na hs h1 hlo;have hpos:0<2^s:=G7 s;have hh:hi*2^s<18446744073709551616:=Db (Nat.le_add_right _ _) (GB m2 t2);have hl:lo/2^(64-s)<18446744073709551616:=Db (GA _ _) hlo;refine⟨_,_,_,hs,rfl,t1,t2,m2,B4 _ (by decide),m3,?_,NL _ 32 (by decide),dj _ t2,?_,?_,PJ lo s hs,NL _ 32 (by decide),dj _ (B4 _ (by decide))⟩
 ·rw[PJ y s hs,Dj t2]
 ·rw[wU (by omega) (by omega)];omega
 ·rw[PJ hi s hs,Dj hh,NL lo (64-s) (by omega),Vy _ _ hh hl,VA m1]
theorem Ya (hi lo y:Nat)(h1:hi<y)(hlo:lo<BB)(hy:y<BB):AJ C0 225 [AR hi,AR lo,AR y] (.tup [AR ((hi*BB+lo)/y),AR ((hi*BB+lo)%y)]):=by
 refine Aj.walk w1 cj rfl λF=>?_
 have y0:¬(y:Int)=0:=by omega
 have c1:((y:Int)==0)=false:=by simp;omega
 have c2:decide ((y:Int)<=(hi:Int))=false:=Ah (by omega);refine sR 0 ?_;refine AC.seq ?_;refine sZ 100 ?_;refine AV c1 ?_;refine AM ?_;refine Ao ?_;refine AC.seq ?_;refine sZ 300 ?_;refine AV c2 ?_;refine AM ?_;refine Ao ?_;refine AC.seq ?_;refine sR 500 ?_;refine AM ?_
 (refine By (λh27=>?_) (λh27=>?_))<;>(try simp only[Bi,Bv]at h27)<;>(try simp only[h27])
 ·have hi0:hi=0:=by simpa using h27
  subst hi0;refine AC.seq ?_;refine B9 w1 600 [0,1,2,3,4,5,6] [7] (by kernel_rfl) ?_;refine BP ?_;refine Ak ?_;refine AK ?_ AA.out;have l1:lo/y<18446744073709551616:=Db (GA _ _) hlo;rw[VB,Dj l1,G8,BV];rfl
 ·obtain⟨s,hs,es,t1,t2⟩:=XA (x:=y) (by omega) hy
  have cl:=fe y hy;rw[es]at cl;have ws:IntKind.u64.wrap (s:Int)=(s:Int):=wU (by omega) (by omega);obtain⟨Y,u,u10,L⟩:=nS h1 hlo hs t1 t2;have ew0:(0:Int)<=IntKind.u64.wrap (64-(s:Int)):=by rw[L.ew];omega
  refine Ao ?_;refine sR 700 ?_;refine cI cl ?_;rw[ws];refine sZ 800 ?_;refine AV L.e8 ?_;refine sZ 900 ?_;refine AV L.e9 ?_;refine sZ 1000 ?_;refine AV L.e10 ?_;refine sZ 1100 ?_;refine AE (Ad L.ew L.e11) ?_;refine sZ 1200 ?_;refine AV L.e12 ?_;refine sZ 1300 ?_;refine AV L.e13 ?_;refine sZ 1400 ?_;refine AV L.e14 ?_;have hB:2147483648<=Y/4294967296:=by have:=L.big;omega
  have hB2:Y/4294967296<4294967296:=by have:=L.Yl;omega
  have n0:¬((Y/4294967296:Nat):Int)=0:=by omega
  obtain⟨I0,r0⟩:=Wv (B:=4294967296) (u0:=u10/4294967296) (by decide) (by have:=L.big;omega) L.Yl (by decide) L.uY (by have:=L.u10l;omega);have q0l:=I0.q2;have hu64:u<18446744073709551616:=GB L.uY L.Yl;have hqy:=Nat.div_mul_le_self u (Y/4294967296);have e15:IntKind.u64.wrap ((u:Int).tdiv ((Y/4294967296:Nat):Int))=((u/(Y/4294967296):Nat):Int):=by
   rw[VB,Dj (by omega)]
  have e16:IntKind.u64.wrap ((u:Int)-IntKind.u64.wrap (((u/(Y/4294967296):Nat):Int)*((Y/4294967296:Nat):Int)))=((u-u/(Y/4294967296)*(Y/4294967296):Nat):Int):=by
   rw[<-F9,JC,Dj (by omega),de hqy hu64]
  refine sZ 1500 ?_;refine AV e15 ?_;refine sZ 1600 ?_;refine AV e16 ?_;have hu1:u10/4294967296<4294967296:=by have:=L.u10l;omega
  have hy0:Y%4294967296<4294967296:=B4 _ (by decide);generalize hu1e:u10/4294967296=u1 at*;generalize hu0e:u10%4294967296=u0 at*;refine gf (λn=>⟨[(2,AR Y),(6,u64 0),(7,u64 0),(8,AR s),(9,AR (Y/4294967296)),(10,AR (Y%4294967296)),(11,AR u),(13,AR u1),(14,AR u0),(15,AR ((u*4294967296+u1)/Y))],[],n⟩) ?_ λn=>?_
  ·refine AC.block ?_
   refine Ge (α:=Nat×Nat×Nat) (λp=>⟨[(2,AR Y),(6,u64 0),(7,u64 0),(8,AR s),(9,AR (Y/4294967296)),(10,AR (Y%4294967296)),(11,AR u),(13,AR u1),(14,AR u0),(15,AR p.1),(16,AR p.2.1)],[],p.2.2⟩) (λp=>p.1)
    (λp F'=>F'=F/\Ll 4294967296 Y u u1 p.1 p.2.1/\p.2.1<4294967296) (_,_,_)
    ⟨rfl,I0,r0⟩ AL ?_
   rintro⟨q,r,m⟩ F' ⟨rfl,I,hr⟩;dsimp only at I hr⊢;have hq2:=I.q2;refine AC.seq ?_;obtain⟨b,hbt⟩:∃b:Bool,b=decide (4294967296<=q\/4294967296*r+u1<q*(Y%4294967296)):=⟨_,rfl⟩
   refine DU ⟨[(2,AR Y),(6,u64 0),(7,u64 0),(8,AR s),(9,AR (Y/4294967296)),(10,AR (Y%4294967296)),(11,AR u),(13,AR u1),(14,AR u0),(15,AR q),(16,AR r),(78,As b)],[],m+30⟩ ?_ ?_
   ·rcases BI q 4294967296 with hq|hq
    ·have e1:decide ((q:Int)>=4294967296)=false:=Ah (by omega)
     have hqy:q*(Y%4294967296)<=4294967295*4294967295:=Iw (by omega) (by omega);have k1:IntKind.u64.wrap ((q:Int)*((Y%4294967296:Nat):Int))=((q*(Y%4294967296):Nat):Int):=by
      rw[<-F9,JC,Dj (by omega)]
     have k2:IntKind.u64.wrap (4294967296*(r:Int))=((4294967296*r:Nat):Int):=by rw[wU (by omega) (by omega)];omega
     have k3:IntKind.u64.wrap (((4294967296*r:Nat):Int)+(u1:Int))=((4294967296*r+u1:Nat):Int):=by rw[wU (by omega) (by omega)];omega
     have k4:decide (((q*(Y%4294967296):Nat):Int)>((4294967296*r+u1:Nat):Int))=b:=by
      rw[hbt];exact C5.2 ⟨λh=>Or.inr (by omega),λh=>by rcases h with h|h<;>omega⟩
     refine Ap w1 1700 (by kernel_rfl) ?_;refine AE e1 ?_;refine AE (CO kF k1 k2 k3 k4) ?_;exact And.intro (by trivial) (AL)
    ·have e1:decide ((q:Int)>=4294967296)=true:=AZ (by omega)
     have hb:b=true:=by rw[hbt];exact AZ (Or.inl hq)
     subst hb;refine Ap w1 1700 (by kernel_rfl) ?_;refine AE e1 ?_;refine AE kT ?_;exact And.intro (by trivial) (AL)
   ·cases b
    ·have hc:=DP hbt.symm
     have hq:=Tb I (by omega);subst hq;refine AM ?_;refine CC ?_;exact⟨rfl,_,AL⟩
    ·have hc:=C6 hbt.symm
     obtain⟨hq0,I2⟩:=W4 (by decide) L.uY hu1 I hc;have hq3:=I2.q2;have k1:IntKind.u64.wrap ((q:Int)-1)=((q-1:Nat):Int):=by rw[wU (by omega) (by omega)];omega
     have k2:IntKind.u64.wrap ((r:Int)+((Y/4294967296:Nat):Int))=((r+Y/4294967296:Nat):Int):=by rw[wU (by omega) (by omega)];omega
     refine AM ?_;refine Ao ?_;refine AC.block ?_;refine sZ 1800 ?_;refine AV k1 ?_;refine sZ 1900 ?_;refine AV k2 ?_;refine sR 2000 ?_;refine AM ?_
     (refine By (λh85=>?_) (λh85=>?_))<;>(try simp only[Bi,Bv]at h85)<;>(try simp only[h85])
     ·have hq:=Wu (by decide) I2 (by omega) (by have:=C6 h85;omega)
      rw[hq];refine CC ?_;exact⟨rfl,_,AL⟩
     ·refine Ao ?_
      refine⟨(q-1,r+Y/4294967296,_),⟨rfl,I2,by have:=DP h85;dsimp only;omega⟩,by dsimp only;omega,AL⟩
  ·have hY0:0<Y:=by have:=L.big;omega
   have e21:=Xj u u1 _ Y hY0 L.Yl rfl;have q1l:(u*4294967296+u1)/Y<4294967296:=by
    refine E9 ?_
    have:(u+1)*4294967296<=Y*4294967296:=CM _ L.uY
    rw[Bw]at this;omega
   have hvY:(u*4294967296+u1)%Y<Y:=B4 _ hY0;have tr:=j6 (B:=4294967296) (N:=hi*BB+lo) (S:=2^s) (y:=y) (u32:=u) (u1:=u1) (u0:=u0) (v:=(u*4294967296+u1)%Y) (G7 s) (by omega) (by rw[L.N];omega) (by rw[L.eY]);rw[<-L.eY]at tr;clear e15 e16 I0 r0 q0l hqy;obtain⟨q1,hq1e⟩:∃x,x=(u*4294967296+u1)/Y:=⟨_,rfl⟩
   rw[<-hq1e]at e21 q1l tr⊢;obtain⟨v,hve⟩:∃x,x=(u*4294967296+u1)%Y:=⟨_,rfl⟩
   rw[<-hve]at e21 hvY tr;have hu0:u0<4294967296:=by rw[<-hu0e];exact B4 _ (by decide)
   obtain⟨J0,s0⟩:=Wv (B:=4294967296) (u0:=u0) (by decide) (by have:=L.big;omega) L.Yl (by decide) hvY hu0;have q0l:=J0.q2;have hv64:v<18446744073709551616:=GB hvY L.Yl;have hqy:=Nat.div_mul_le_self v (Y/4294967296);have e22:IntKind.u64.wrap ((v:Int).tdiv ((Y/4294967296:Nat):Int))=((v/(Y/4294967296):Nat):Int):=by
    rw[VB,Dj (by omega)]
   have e23:IntKind.u64.wrap ((v:Int)-IntKind.u64.wrap (((v/(Y/4294967296):Nat):Int)*((Y/4294967296:Nat):Int)))=((v-v/(Y/4294967296)*(Y/4294967296):Nat):Int):=by
    rw[<-F9,JC,Dj (by omega),de hqy hv64]
   refine sZ 2100 ?_;refine AV e21 ?_;refine sZ 2200 ?_;refine AV e22 ?_;refine sZ 2300 ?_;refine AV e23 ?_;refine gf (λn=>⟨[(2,AR Y),(6,u64 0),(7,u64 0),(8,AR s),(9,AR (Y/4294967296)),(10,AR (Y%4294967296)),(11,AR u),(13,AR u1),(14,AR u0),(15,AR q1),(17,AR v),(18,AR ((v*4294967296+u0)/Y))],[],n⟩) ?_ λn=>?_
   ·refine AC.block ?_
    refine Ge (α:=Nat×Nat×Nat) (λp=>⟨[(2,AR Y),(6,u64 0),(7,u64 0),(8,AR s),(9,AR (Y/4294967296)),(10,AR (Y%4294967296)),(11,AR u),(13,AR u1),(14,AR u0),(15,AR q1),(17,AR v),(18,AR p.1),(16,AR p.2.1)],[],p.2.2⟩) (λp=>p.1)
     (λp F'=>F'=F/\Ll 4294967296 Y v u0 p.1 p.2.1/\p.2.1<4294967296) (_,_,_)
     ⟨rfl,J0,s0⟩ AL ?_
    rintro⟨q,r,m⟩ F' ⟨rfl,I,hr⟩;dsimp only at I hr⊢;have hq2:=I.q2;refine AC.seq ?_;obtain⟨b,hbt⟩:∃b:Bool,b=decide (4294967296<=q\/4294967296*r+u0<q*(Y%4294967296)):=⟨_,rfl⟩
    refine DU ⟨[(2,AR Y),(6,u64 0),(7,u64 0),(8,AR s),(9,AR (Y/4294967296)),(10,AR (Y%4294967296)),(11,AR u),(13,AR u1),(14,AR u0),(15,AR q1),(17,AR v),(18,AR q),(16,AR r),(113,As b)],[],m+30⟩ ?_ ?_
    ·rcases BI q 4294967296 with hq|hq
     ·have e1:decide ((q:Int)>=4294967296)=false:=Ah (by omega)
      have hqy:q*(Y%4294967296)<=4294967295*4294967295:=Iw (by omega) (by omega);have k1:IntKind.u64.wrap ((q:Int)*((Y%4294967296:Nat):Int))=((q*(Y%4294967296):Nat):Int):=by
       rw[<-F9,JC,Dj (by omega)]
      have k2:IntKind.u64.wrap (4294967296*(r:Int))=((4294967296*r:Nat):Int):=by rw[wU (by omega) (by omega)];omega
      have k3:IntKind.u64.wrap (((4294967296*r:Nat):Int)+(u0:Int))=((4294967296*r+u0:Nat):Int):=by rw[wU (by omega) (by omega)];omega
      have k4:decide (((q*(Y%4294967296):Nat):Int)>((4294967296*r+u0:Nat):Int))=b:=by
       rw[hbt];exact C5.2 ⟨λh=>Or.inr (by omega),λh=>by rcases h with h|h<;>omega⟩
      refine Ap w1 2400 (by kernel_rfl) ?_;refine AE e1 ?_;refine AE (CO kF k1 k2 k3 k4) ?_;exact And.intro (by trivial) (AL)
     ·have e1:decide ((q:Int)>=4294967296)=true:=AZ (by omega)
      have hb:b=true:=by rw[hbt];exact AZ (Or.inl hq)
      subst hb;refine Ap w1 2400 (by kernel_rfl) ?_;refine AE e1 ?_;refine AE kT ?_;exact And.intro (by trivial) (AL)
    ·cases b
     ·have hc:=DP hbt.symm
      have hq:=Tb I (by omega);subst hq;refine AM ?_;refine CC ?_;exact⟨rfl,_,AL⟩
     ·have hc:=C6 hbt.symm
      obtain⟨hq0,I2⟩:=W4 (by decide) hvY hu0 I hc;have hq3:=I2.q2;have k1:IntKind.u64.wrap ((q:Int)-1)=((q-1:Nat):Int):=by rw[wU (by omega) (by omega)];omega
      have k2:IntKind.u64.wrap ((r:Int)+((Y/4294967296:Nat):Int))=((r+Y/4294967296:Nat):Int):=by rw[wU (by omega) (by omega)];omega
      refine AM ?_;refine Ao ?_;refine AC.block ?_;refine sZ 2500 ?_;refine AV k1 ?_;refine sZ 2600 ?_;refine AV k2 ?_;refine sR 2700 ?_;refine AM ?_
      (refine By (λh120=>?_) (λh120=>?_))<;>(try simp only[Bi,Bv]at h120)<;>(try simp only[h120])
      ·have hq:=Wu (by decide) I2 (by omega) (by have:=C6 h120;omega)
       rw[hq];refine CC ?_;exact⟨rfl,_,AL⟩
      ·refine Ao ?_
       refine⟨(q-1,r+Y/4294967296,_),⟨rfl,I2,by have:=DP h120;dsimp only;omega⟩,by dsimp only;omega,AL⟩
   ·have e28:=Xj v u0 _ Y hY0 L.Yl rfl
    have hm28:(v*4294967296+u0)%Y<Y:=B4 _ hY0;have q2l:(v*4294967296+u0)/Y<4294967296:=by
     refine E9 ?_
     have:(v+1)*4294967296<=Y*4294967296:=CM _ hvY
     rw[Bw]at this;omega
    have k1:=jK q1 ((v*4294967296+u0)/Y) q1l q2l;have k2:=NL ((v*4294967296+u0)%Y) s (by omega);rw[tr.1]at k1;rw[tr.2]at k2;refine sZ 2800 ?_;refine AE (At k1 e28 k2) ?_;refine Ak ?_;exact AK rfl AA.out
theorem Wi {n2 v1 P U V q:Nat}(hU:U<(n2+1)*P)(hV:v1*P<=V)(hq:n2+1<=(q+1)*v1):U<(q+1)*V:=by
 have h1:=CM P hq;have h2:=Cc (q+1) hV;rw[Bz]at h1;omega
theorem XN {n3 D P U V q:Nat}(hU:U<(n3+1)*P)(hV:D*P<=V)(hq:n3<q*D):U<q*V:=by
 have h1:=CM P (show n3+1<=q*D from hq);have h2:=Cc q hV;rw[Bz]at h1;omega
theorem Xg {n3 D P U V q B v:Nat}(hU:n3*P<=U)(hV:V=D*P+v)(hv:v<P)(hq:q*D<=n3)(hqB:q<=B)(hD:B<=D):q*V<=U+V:=by
 have h1:=CM P hq;rw[Bz]at h1;have h2:q*v<=B*P:=Iw hqB (by omega);have h3:=CM P hD;have h4:q*V=q*(D*P)+q*v:=by rw[hV,BN]
 omega
theorem Wn {c x s:Nat}(hs:s<=63)(hc:c<2^s)(hx:x<18446744073709551616):
  c |||(x*2^s%18446744073709551616)=c+x*2^s%18446744073709551616/\c+x*2^s%18446744073709551616<18446744073709551616 /\
   c+x*2^s%18446744073709551616+18446744073709551616*(x/2^(64-s))=c+x*2^s/\x/2^(64-s)<2^s:=by
 have hp:0<2^s:=G7 s;have hpp:2^(64-s)*2^s=18446744073709551616:=by
  rw[<-GC,show 64-s+s=64 by omega]
 have hl:x*2^s/18446744073709551616=x/2^(64-s):=by
  rw[<-hpp,Pi _ _ hp]
 have hm:x*2^s%18446744073709551616=x%2^(64-s)*2^s:=by
  rw[<-hpp,Pj]
 have hl2:x/2^(64-s)<2^s:=E9 (by rw[hpp];exact hx);have e:=Ec (x*2^s) 18446744073709551616;rw[hl]at e;have ho:c |||(x*2^s%18446744073709551616)=c+x*2^s%18446744073709551616:=by
  rw[hm,Nat.or_comm,VA hc,LO]
 have hlt:c+x*2^s%18446744073709551616<18446744073709551616:=by
  rw[hm]
  have:(x%2^(64-s)+1)*2^s<=2^(64-s)*2^s:=CM _ (B4 _ (G7 _))
  rw[hpp,Bw]at this;omega
 exact⟨ho,hlt,by omega,hl2⟩
structure Rr (w out:List Nat)(s i c:Nat):Prop where
 le:i<=w.length
 len:out.length=w.length+1
 wd:Wd out
 val:AS out=AS (w.take i)*2^s
 at_:out[i]?=some c
 cl:c<2^s
 zero:∀k,i<k->∀d,out[k]?=some d->d=0
theorem qh {w out:List Nat}{s i c x:Nat}(hs:s<=63)(hw:Wd w)(hi:i<w.length)(hx:w[i]?=some x)(I:Rr w out s i c):
  Rr w ((out.set i (c+x*2^s%18446744073709551616)).set (i+1) (x/2^(64-s))) s (i+1) (x/2^(64-s)):=by
 have hxl:x<BB:=hw x (Aw hx);obtain⟨_,d2,d3,d4⟩:=Wn hs I.cl hxl;obtain⟨z,hz⟩:∃z,out[i+1]?=some z:=⟨out[i+1]'(by have:=I.len;omega),BG _⟩
 have hz0:=I.zero _ (Ha i) z hz;subst hz0;have s1:=Jj (d:=c+x*2^s%18446744073709551616) I.at_;have hz1:(out.set i (c+x*2^s%18446744073709551616))[i+1]?=some 0:=by rw[Io (by omega)];exact hz
 have s2:=Jj (d:=x/2^(64-s)) hz1;have hbx:AS (w.take (i+1))=AS (w.take i)+BB^i*x:=by rw[FF hx,Gr (i:=i) (by rw[Bb];omega)]
 have hhi:x/2^(64-s)<BB:=Db (GA _ _) hxl;refine⟨by omega,by rw[DF,DF];exact I.len,(I.wd.set d2).set hhi,?_,?_,d4,λk hk d hd=>?_⟩
 ·have e1:BB^(i+1)*(x/2^(64-s))=BB^i*(18446744073709551616*(x/2^(64-s))):=by rw[CN,Bz]
  have e2:BB^i*(c+x*2^s%18446744073709551616+18446744073709551616*(x/2^(64-s)))=BB^i*(c+x*2^s):=by rw[d3]
  rw[BN,BN _ c (x*2^s)]at e2;rw[hbx,Bw,<-I.val,Bz];omega
 ·rw[Nl (by rw[DF];have:=I.len;omega)]
 ·rw[Io (by omega),Io (by omega)]at hd
  exact I.zero k (by omega) d hd
def Up (w:List Nat)(s:Nat)(H:Hp)(n:Nat)(d:D)(H':Hp)(n':Nat):Prop:=
 ∃(out:List Nat) (g:Nat),out.length=w.length+1/\Wd out/\AS out=AS w*2^s/\d=.osl 103 g 1 0 (w.length+1)/\H'=⟨103,g,210,1,out.map AR⟩::H/\n<=n'
theorem W6 (w:List Nat)(s:Nat)(hs:s<=63)(hw:Wd w)(hl:w.length<4000000)(H:Hp)(n:Nat):Cg C0 228 [wL w,i64 s] H n (Up w s H n):=by
 refine Cg.walk w1 bD rfl λF=>?_
 unfold wL;have ew:(((w.map AR).length:Nat):Int)=(w.length:Int):=by rw[Am]
 have wl:IntKind.i64.wrap ((w.length:Int)+1)=((w.length+1:Nat):Int):=by rw[wI (by omega) (by omega)];omega
 have r3:List.replicate (w.length+1) (ofV (.int .u64 0))=(List.replicate (w.length+1) 0).map AR:=by rw[KM];rfl
 refine sR 0 ?_;refine sZ 100 ?_;refine AV (At ew wl kN) ?_;refine AC.seq ?_;refine sZ 200 ?_;refine AV ew ?_;obtain⟨g,hg⟩:∃g,g=n+1+1+1+1:=⟨_,rfl⟩
 rw[<-hg];have I0:Rr w (List.replicate (w.length+1) 0) s 0 0:=⟨BX _,by simp,Mo _,by simp[AS,QG],by simp,G7 s,λk _ d hd=>Pr (Aw hd)⟩
 refine AC.weak ⟨[(0,.sl false 1 (w.map AR)),(1,i64 s),(4,CR),(5,.osl 103 g 1 0 (w.length+1)),(12,.sl false 1 (w.map AR)),(13,i64 w.length),(14,i64 0)],⟨103,g,210,1,(List.replicate (w.length+1) 0).map AR⟩::H,n+30⟩ (by rw[<-r3];exact AL) ?_;refine AC.block ?_;refine AC.loop (α:=Nat×Nat×List Nat×Nat) (λp=>⟨[(0,.sl false 1 (w.map AR)),(1,i64 s),(4,CR),(5,.osl 103 g 1 0 (w.length+1)),(12,.sl false 1 (w.map AR)),(13,i64 w.length),(14,i64 p.1)],⟨103,g,210,1,p.2.2.1.map AR⟩::H,p.2.2.2⟩) (λp=>w.length-p.1)
  (λp=>Rr w p.2.2.1 s p.1 p.2.1/\n<=p.2.2.2) (0,0,List.replicate (w.length+1) 0,n+30)
  ⟨I0,Nat.le_add_right _ _⟩ AL ?_
 rintro⟨i,c,o,m⟩ F ⟨I,hm⟩;dsimp only at I hm⊢;refine sR 300 ?_;refine AC.seq ?_;refine AM ?_
 (refine By (λh15=>?_) (λh15=>?_))<;>(try simp only[Bi,Bv]at h15)<;>(try simp only[h15])
 ·have hi:i<w.length:=by simpa using h15
  obtain⟨x,hx⟩:∃x,w[i]?=some x:=⟨w[i],BG hi⟩
  have hx':=DT hx;have hc':=DT I.at_;have hxl:x<BB:=hw x (Aw hx);obtain⟨d1,d2,d3,d4⟩:=Wn hs I.cl hxl;have J:=qh hs hw hi hx I;have e5:HG .or .u64 (c:Int) (LJ .u64 (x:Int) (s:Int))=((c+x*2^s%18446744073709551616:Nat):Int):=by
   rw[PJ x s hs,Vy _ _ (by omega) (B4 _ (by decide)),d1]
  refine Ao ?_;refine AC.seq ?_;refine AC.block ?_;refine sR 400 ?_;refine Bs kT hx' ?_;refine BP ?_;refine AC.seq ?_;refine B9 w1 500 [0,1,2,3,4,5,6] [7,8,9] (by kernel_rfl) ?_;refine AE (BZ e5 kN BV hc') ?_;refine EB rfl rfl ?_;refine NC rfl rfl rfl hc' ?_;refine AE @map_set ?_;refine AC.seq ?_;obtain⟨z,hz⟩:∃z,o[i+1]?=some z:=⟨o[i+1]'(by have:=I.len;omega),BG _⟩
  have hz0:=I.zero _ (Ha i) z hz;subst hz0;have hz1:(o.set i (c+x*2^s%18446744073709551616))[i+1]?=some 0:=by rw[Io (by omega)];exact hz
  have hz':=DT hz1;have wi:IntKind.i64.wrap ((i:Int)+1)=((i+1:Nat):Int):=wI (by omega) (by omega);rcases Dh s with hs0|hs0
  ·have e1:decide ((s:Int)>0)=false:=Ah (by omega)
   have hx0:x/2^(64-s)=0:=by rw[hs0];exact HZ hxl
   have hset:(o.set i (c+x*2^s%18446744073709551616)).set (i+1) 0=o.set i (c+x*2^s%18446744073709551616):=by
    refine Pq λk=>?_
    rcases Nat.decEq (i+1) k with hk|hk
    ·rw[Io hk]
    ·subst hk
     rw[Nl (by have:=(List.getElem?_eq_some_iff.1 hz1).1;exact this),hz1]
   rw[hx0,hset]at J;refine Ap w1 600 (by kernel_rfl) ?_;refine AV e1 ?_;refine AM ?_;refine Ao ?_;refine Ap w1 800 (by kernel_rfl) ?_;refine AV wi ?_;refine⟨(i+1,0,o.set i (c+x*2^s%18446744073709551616),m+200),⟨J,by dsimp only;omega⟩,by dsimp only;omega,AL⟩
  ·have e1:decide ((s:Int)>0)=true:=AZ (by omega)
   have w64:IntKind.i64.wrap (64-(s:Int))=((64-s:Nat):Int):=by rw[wI (by omega) (by omega)];omega
   have w640:(0:Int)<=IntKind.i64.wrap (64-(s:Int)):=by rw[w64];omega
   have e36:=NL x (64-s) (by omega);refine Ap w1 600 (by kernel_rfl) ?_;refine AV e1 ?_;refine AM ?_;refine Ap w1 700 (by kernel_rfl) ?_;refine AE (EQ wi w64 e36 kN BV hz') ?_
   try rw[map_set]
   refine Ap w1 800 (by kernel_rfl) ?_;refine AV wi ?_;refine⟨(i+1,x/2^(64-s),(o.set i (c+x*2^s%18446744073709551616)).set (i+1) (x/2^(64-s)),m+200),⟨J,by dsimp only;omega⟩,by dsimp only;omega,AL⟩
 ·have hi:i=w.length:=by
   have:¬i<w.length:=by simpa using h15
   have:=I.le
   omega
  subst hi;have hv:=I.val;rw[CE (Ai _)]at hv;refine CC ?_;refine sR 900 ?_;refine Ak ?_;exact⟨o,g,I.len,I.wd,hv,rfl,rfl,by omega⟩
section
variable {C:BD} {B F:Ac} {s:St} {rd:Option Nat} {Q:Exit->Ac->St->Prop}
theorem Cz {a b:Code}{α:Type}(S:α->St)(J:α->Prop)(h1:AC C B rd F a s (λe F1 s1=>JO (F1=F/\∃x,J x/\Wk s1 (S x)) (λe=>Q e F1 s1) e))(h2:∀x,J x->AC C B rd F b (S x) Q):AC C B rd F (.seq a b) s Q:=
 AC.seq (h1.mono λe F1 s1 h=>by
  cases e with
  |normal=>
   obtain⟨h0,x,hx,h3⟩:=(show F1=F/\∃x,J x/\Wk s1 (S x)from h)
   rw[h0];exact AC.weak (S x) h3 (h2 x hx)
  |ret=>exact h
  |exit j=>exact h
  |goto l=>exact h
  |panic c=>exact h
  |outgrown=>exact h)
end
theorem jt {q v c:Nat}(hq:q<BB)(hv:v<BB)(hc:c<BB):
  (q*v%BB+c)%BB+BB*(q*v/BB+(q*v%BB+c)/BB)=q*v+c/\q*v/BB+(q*v%BB+c)/BB<BB:=by
 have hqv:q*v<=(18446744073709551616-1)*(18446744073709551616-1):=Iw (by unfold BB at hq;omega) (by unfold BB at hv;omega);have hk:(18446744073709551616-1)*(18446744073709551616-1)=340282366920938463426481119284349108225:=by decide
 rw[hk]at hqv;generalize q*v=p at*;have e1:=Er p BB;have e2:=Er (p%BB+c) BB;have l1:=B4 p (show BB>0 by decide);have l2:=B4 (p%BB+c) (show BB>0 by decide);unfold BB at*;generalize p/18446744073709551616=A at*;generalize p%18446744073709551616=D at*;generalize(D+c)/18446744073709551616=E at*;generalize(D+c)%18446744073709551616=G at*;omega
theorem CU {l:List Nat}{i:Nat}(h:i<l.length):∃a,l[i]?=some a:=⟨l[i],BG h⟩
theorem Vs {l:List Nat}{k a:Nat}(hl:l.length=k+1)(ha:l[k]?=some a):AS l=AS (l.take k)+BB^k*a:=by
 rw[Kt ha,Hb (by omega)];simp[AS]
theorem zW {l:List Nat}{k a b:Nat}(hl:l.length=k+2)(ha:l[k]?=some a)(hb:l[k+1]?=some b):AS l=AS (l.take k)+BB^k*(a+BB*b):=by
 rw[Kt ha]
 have:l.drop (k+1)=[b]:=by
  rw[EU (by omega),Hb (by omega)]
  congr 1
  exact(List.getElem?_eq_some_iff.1 hb).2
 rw[this];simp[AS]
theorem zX {l:List Nat}{k a b c:Nat}(hl:l.length=k+3)(ha:l[k]?=some a)(hb:l[k+1]?=some b)(hc:l[k+2]?=some c):AS l=AS (l.take k)+BB^k*(a+BB*(b+BB*c)):=by
 rw[Kt ha];have h1:=Vs (l:=l.drop (k+1)) (k:=1) (a:=c) (by rw[Dv];omega) (by rw[Hc,Ed];exact hc);have h2:(l.drop (k+1)).take 1=[b]:=by
  rw[EU (by omega)];simp only[List.take_succ_cons,LN]
  congr 1
  exact(List.getElem?_eq_some_iff.1 hb).2
 rw[h1,h2];simp[AS]
structure M0 (P v:List Nat)(m p0 p1 p2 v2 v1:Nat):Prop where
 lP:P.length=m+3
 lv:v.length=m+2
 wP:Wd P
 wv:Wd v
 h0:P[m]?=some p0
 h1:P[m+1]?=some p1
 h2:P[m+2]?=some p2
 g2:v[m]?=some v2
 g1:v[m+1]?=some v1
 top:0<v1
 less:AS P<AS v*BB
namespace M0
variable {P v:List Nat} {m p0 p1 p2 v2 v1:Nat} (S:M0 P v m p0 p1 p2 v2 v1)
include S
theorem valP:AS P=AS (P.take m)+BB^m*(p0+BB*(p1+BB*p2)):=zX S.lP S.h0 S.h1 S.h2
theorem valv:AS v=AS (v.take m)+BB^m*(v2+BB*v1):=zW S.lv S.g2 S.g1
theorem lowP:AS (P.take m)<BB^m:=by
 have:=Ho (S.wP.take m)
 rwa [Bb,FC (by have:=S.lP;omega)]at this
theorem lowv:AS (v.take m)<BB^m:=by
 have:=Ho (S.wv.take m)
 rwa [Bb,FC (by have:=S.lv;omega)]at this
theorem p0l:p0<BB:=S.wP _ (Aw S.h0)
theorem p1l:p1<BB:=S.wP _ (Aw S.h1)
theorem p2l:p2<BB:=S.wP _ (Aw S.h2)
theorem v1l:v1<BB:=S.wv _ (Aw S.g1)
theorem v2l:v2<BB:=S.wv _ (Aw S.g2)
theorem below3:AS P<(p0+BB*(p1+BB*p2)+1)*BB^m:=by
 rw[S.valP,Bw,JV,BS (BB^m)]
 have:=S.lowP
 omega
theorem below2:AS P<(p1+BB*p2+1)*BB^(m+1):=by
 have h:=S.below3;have h1:=S.p0l;generalize p1+BB*p2=t at*;have h2:(p0+BB*t+1)*BB^m<=(BB*(t+1))*BB^m:=CM _ (by rw[BN BB t 1];omega);have h3:(t+1)*BB^(m+1)=(BB*(t+1))*BB^m:=by rw[CN,BS (BB^m) BB,<-Bz,BS (t+1) BB]
 omega
theorem abovev:v1*BB^(m+1)<=AS v:=by
 rw[S.valv,CN,BN]
 have:v1*(BB^m*BB)=BB^m*(BB*v1):=by rw[BS v1,Bz]
 omega
theorem abovev2:(v2+BB*v1)*BB^m<=AS v:=by
 rw[S.valv,BS];omega
theorem pos:0<AS v:=CZ (Hd S.top (Nat.pow_pos (by decide))) S.abovev
theorem p2v1:p2<=v1:=by
 rcases BI v1 p2 with h|h
 ·exfalso
  have e1:BB^(m+2)*p2<=AS P:=by
   rw[S.valP,BN,BN,BN]
   have:BB^(m+2)*p2=BB^m*(BB*(BB*p2)):=by rw[CN,CN,Bz,Bz]
   omega
  have e2:AS v<BB^(m+1)*(v1+1):=by
   have h1:=S.lowv;have h2:=S.v2l;have e3:BB^(m+1)*(v1+1)=BB^m*(BB*v1+BB):=by rw[CN,Bz,BN,EG]
   have e4:BB^m*(v2+BB*v1+1)<=BB^m*(BB*v1+BB):=Cc _ (by omega);rw[BN _ _ 1,EG]at e4;rw[S.valv,e3];omega
  have e5:BB^(m+1)*(v1+1)*BB=BB^(m+2)*(v1+1):=by rw[Nat.mul_right_comm,<-CN]
  have e6:BB^(m+2)*(v1+1)<=BB^(m+2)*p2:=Cc _ h;have e7:(AS v)*BB<=BB^(m+1)*(v1+1)*BB:=CM _ (KL e2)
  have:=S.less
  omega
 ·exact h
end M0
theorem kh {B q v2 r c p0:Nat}(hq:q<B)(hv:v2<B)(h:0<c\/q*v2<=r*B+p0):q*v2<=(r+B*c)*B+p0:=by
 rcases h with h|h
 ·have h2:q*v2<=B*B:=Iw (by omega) (by omega)
  have h4:B*1<=B*c:=Cc _ h;have h3:B*B<=(r+B*c)*B:=CM _ (by omega);omega
 ·have h3:r*B<=(r+B*c)*B:=CM _ (by omega)
  omega
structure L7 (U V n2 v1 q r c:Nat):Prop where
 eq:q*v1+(r+BB*c)=n2
 up:U<(q+1)*V
 qB:q<BB
 rB:r<BB
 c1:c<=1
section
variable {P v:List Nat} {m p0 p1 p2 v2 v1:Nat} (S:M0 P v m p0 p1 p2 v2 v1)
include S
theorem ki (h:v1<=p2):L7 (AS P) (AS v) (p1+BB*p2) v1 18446744073709551615 ((p1+v1+0)%BB) ((p1+v1+0)/BB):=by
 have h1:p2=v1:=Nat.le_antisymm S.p2v1 h;have h2:=S.less;have h3:=S.p1l;have h4:=S.v1l;have e:=Er (p1+v1+0) BB;refine⟨?_,?_,by decide,B4 _ (by decide),?_⟩
 ·rw[e,h1]
  show 18446744073709551615*v1+(p1+v1+0)=p1+18446744073709551616*v1;omega
 ·rw[BS];exact h2
 ·have:p1+v1+0<2*BB:=by omega
  exact Nh (E9 (by rw[BS];exact this))
theorem jF (h:p2<v1):L7 (AS P) (AS v) (p1+BB*p2) v1 ((p2*BB+p1)/v1) ((p2*BB+p1)%v1) 0:=by
 have c0:p2*BB+p1=p1+BB*p2:=by rw[BS,LO]
 rw[c0];have e:=Ec (p1+BB*p2) v1;have l:=B4 (p1+BB*p2) S.top;have h3:=S.p1l;have h4:=S.v1l;have c1:=BS v1 ((p1+BB*p2)/v1);refine⟨by omega,Wi S.below2 S.abovev ?_,?_,by omega,by decide⟩
 ·rw[Bw];omega
 ·refine E9 ?_
  have:BB*(p2+1)<=BB*v1:=Cc _ h
  rw[BN]at this;rw[BS v1];omega
theorem jl {q r:Nat}(G:L7 (AS P) (AS v) (p1+BB*p2) v1 q r 0)(h:r*BB+p0<q*v2):
  0<q/\L7 (AS P) (AS v) (p1+BB*p2) v1 (q-1) ((r+v1+0)%BB) ((r+v1+0)/BB):=by
 obtain⟨e,u,b,rb,_⟩:=G;rcases Dh q with h0|h0
 ·subst h0;omega
 obtain⟨k,rfl⟩:∃k,q=k+1:=⟨q-1,by omega⟩
 have e1:=Er (r+v1+0) BB;have h4:=S.v1l;have e2:(k+1)*(v2+BB*v1)=(k+1)*v2+BB*((k+1)*v1):=by rw[BN,Iq]
 have hn3:p0+BB*(p1+BB*p2)<(k+1)*(v2+BB*v1):=by
  rw[e2,<-e,BN BB,Eb,De r,BS BB r];omega
 refine⟨by omega,⟨?_,?_,by omega,B4 _ (by decide),?_⟩⟩
 ·rw[Ip,e1,<-e,Bw];omega
 ·rw[Ip];exact XN S.below3 S.abovev2 hn3
 ·have:r+v1+0<2*BB:=by omega
  exact Nh (E9 (by rw[BS];exact this))
theorem XM {q r c:Nat}(G:L7 (AS P) (AS v) (p1+BB*p2) v1 q r c)(h:0<c\/q*v2<=r*BB+p0):q*AS v<=AS P+AS v:=by
 obtain⟨e,u,b,rb,c1⟩:=G;have h5:=S.v2l;have hq:q*v2<=(r+BB*c)*BB+p0:=kh b h5 h;have e2:q*(v2+BB*v1)=q*v2+BB*(q*v1):=by rw[BN,Iq]
 refine Xg (n3:=p0+BB*(p1+BB*p2)) (D:=v2+BB*v1) (P:=BB^m) (B:=BB) (v:=AS (v.take m)) ?_ ?_ S.lowv ?_ (by omega) ?_
 ·rw[S.valP,BS];omega
 ·rw[S.valv,BS];omega
 ·rw[e2,<-e,BN BB]
  have:BB*(r+BB*c)=(r+BB*c)*BB:=BS _ _
  omega
 ·have:=S.top
  have h1:=Cc BB (show 1<=v1 from this);omega
end
theorem jm {x r p0:Nat}(hp:p0<BB):(x/BB<r\/x/BB=r/\x%BB<=p0)↔x<=r*BB+p0:=by
 have e:=Ec x BB;have l:=B4 x (show 0<BB by decide);generalize x/BB=h at*;generalize x%BB=d at*;unfold BB at*;omega
theorem TJ {U V q N:Nat}(h:N+q*V=U+0)(hu:U<(q+1)*V):U/V=q/\U%V=N:=by
 have h1:U=N+V*q:=by rw[BS];omega
 have h2:N<V:=by rw[Bw]at hu;omega
 subst h1;exact⟨by rw[SU _ _ (by omega),HZ h2,BV],by rw[SO,Dj h2]⟩
theorem X9 {U V q N N3 T c:Nat}(h:N+q*V=U+T)(hN:N<T)(hu:q*V<=U+V)(h3:N3+T*c=N+V)(hc:c<=1)(h3l:N3<T):0<q/\U/V=q-1/\U%V=N3:=by
 rcases Dh q with h0|h0
 ·subst h0;omega
 obtain⟨k,rfl⟩:∃k,q=k+1:=⟨q-1,by omega⟩
 rw[Bw,JV]at h hu;have hc1:c=1:=by
  rcases Dh c with h4|h4
  ·subst h4;omega
  ·omega
 subst hc1;have h5:N3+k*V=U+0:=by omega
 have h6:U<(k+1)*V:=by rw[Bw];omega
 obtain⟨a,b⟩:=TJ h5 h6;exact⟨by omega,by rw[a];omega,b⟩
theorem iR {A P v:List Nat}{q i z x d b c b' c' lo:Nat}(hz:A[i]?=some z)(hx:v[i]?=some x)(hI:AS A+q*AS (v.take i)=AS P+BB^i*(c+b))
  (h1:lo+BB*c'=q*x+c) (h2:d+lo+b=z+BB*b'):AS (A.set i d)+q*AS (v.take (i+1))=AS P+BB^(i+1)*(c'+b'):=by
 have hs:=Jj (d:=d) hz;have hi:i<v.length:=(List.getElem?_eq_some_iff.1 hx).1;rw[FF hx,Gr (i:=i) (by rw[Bb];omega),BN,Iq q,CN,Bz];have e:BB^i*(d+q*x+(c+b))=BB^i*(z+BB*(c'+b')):=by congr 1;rw[BN BB];omega
 rw[BN,BN,BN (BB^i) z]at e;omega
theorem iS {A P:List Nat}{i z d X b c b':Nat}(hz:A[i]?=some z)(hI:AS A+X=AS P+BB^i*(c+b))(h2:d+c+b=z+BB*b'):AS (A.set i d)+X=AS P+BB^(i+1)*b':=by
 have hs:=Jj (d:=d) hz;rw[CN,Bz];have e:BB^i*(d+(c+b))=BB^i*(z+BB*b'):=by congr 1;omega
 rw[BN,BN (BB^i) z]at e;omega
theorem iL {A P v:List Nat}{i z x c:Nat}(hz:A[i]?=some z)(hx:v[i]?=some x)(hI:AS A+BB^i*c=AS P+AS (v.take i)):
  AS (A.set i ((z+x+c)%BB))+BB^(i+1)*((z+x+c)/BB)=AS P+AS (v.take (i+1)):=by
 have hs:=Jj (d:=(z+x+c)%BB) hz;have hi:i<v.length:=(List.getElem?_eq_some_iff.1 hx).1;rw[FF hx,Gr (i:=i) (by rw[Bb];omega),CN,Bz];have e:BB^i*((z+x+c)%BB+BB*((z+x+c)/BB))=BB^i*(z+x+c):=by rw[Er]
 rw[BN,BN,BN (BB^i) z]at e;omega
theorem iT {A:List Nat}{i z c X:Nat}(hz:A[i]?=some z)(hI:AS A+BB^i*c=X):
  AS (A.set i ((z+c)%BB))+BB^(i+1)*((z+c)/BB)=X:=by
 have hs:=Jj (d:=(z+c)%BB) hz;rw[CN,Bz];have e:BB^i*((z+c)%BB+BB*((z+c)/BB))=BB^i*(z+c):=by rw[Er]
 rw[BN,BN (BB^i) z]at e;omega
theorem L3 {A P Z:List Nat}{i z:Nat}(h:P[i]?=some z):((A++(P++Z)).map AR)[A.length+i]?=some (AR z):=by
 have hi:i<P.length:=(List.getElem?_eq_some_iff.1 h).1;refine DT ?_;rw[E7 (by omega),LM,Gh hi];exact h
theorem Qx {A P Z:List Nat}{i d:Nat}(hi:i<P.length):((A++(P++Z)).map AR).set (A.length+i) (AR d)=(A++(P.set i d++Z)).map AR:=by
 rw[map_set,Nm _ _ (by omega),LM,List.set_append_left _ _ hi]
set_option maxHeartbeats 2000000
def nr (A P Z v:List Nat)(gq Tq gu:Nat)(qs:List D)(d:D)(H':Hp)(_:Nat):Prop:=
 ∃P':List Nat,P'.length=P.length/\Wd P'/\AS P'=AS P%AS v/\d=AR (AS P/AS v)/\H'=[⟨1505,gq,Tq,1,qs⟩,⟨103,gu,210,1,(A++(P'++Z)).map AR⟩]
theorem pZ (A P Z v:List Nat)(m p0 p1 p2 v2 v1:Nat)(S:M0 P v m p0 p1 p2 v2 v1)(hm:A.length+m<4000000)(gq Tq gu:Nat)(qs:List D)(n:Nat):
  Cg C0 229 [.osl 103 gu 1 A.length (m+3),wL v] [⟨1505,gq,Tq,1,qs⟩,⟨103,gu,210,1,(A++(P++Z)).map AR⟩] n (nr A P Z v gq Tq gu qs):=by
 refine Cg.walk w1 bE rfl λF=>?_
 unfold wL;have hPl:=S.lP;have hvl:=S.lv;have ev:(((v.map AR).length:Nat):Int)=((m+2:Nat):Int):=by rw[Am,hvl]
 have k1:IntKind.i64.wrap (((m+2:Nat):Int)-1)=((m+1:Nat):Int):=by rw[wI (by omega) (by omega)];omega
 have k2:IntKind.i64.wrap (((m+2:Nat):Int)-2)=(m:Int):=by rw[wI (by omega) (by omega)];omega
 have hp0:=L3 (A:=A) (Z:=Z) S.h0;have hp1:=L3 (A:=A) (Z:=Z) S.h1;have hp2:=L3 (A:=A) (Z:=Z) S.h2;have hv1:=DT S.g1;have hv2:=DT S.g2;have l0:=S.p0l;have l1:=S.p1l;have l2:=S.p2l;have lv1:=S.v1l;have lv2:=S.v2l;refine sR 0 ?_;refine sZ 100 ?_;refine AV ev ?_;refine sR 200 ?_;refine sR 300 ?_;refine Cz (α:=Nat×Nat×Nat×Nat) (λp=>⟨[(0,.osl 103 gu 1 A.length (m+3)),(1,.sl false 1 (v.map AR)),(5,i64 ((m+2:Nat):Int)),(6,AR p.1),(7,AR p.2.1),(8,AR p.2.2.1)],[⟨1505,gq,Tq,1,qs⟩,⟨103,gu,210,1,(A++(P++Z)).map AR⟩],p.2.2.2⟩)
  (λp=>L7 (AS P) (AS v) (p1+BB*p2) v1 p.1 p.2.1 p.2.2.1) ?_ ?_
 ·refine AC.seq ?_
  refine B9 w1 400 [0,1,2,3,4,5,6,7,8] [9] (by kernel_rfl) ?_;refine AE (At kN k1 hp2) ?_;refine Bs kT hv1 ?_;refine AE (At kN k1 hp2) ?_;rcases BI p2 v1 with h|h
  ·have e1:decide ((p2:Int)>=(v1:Int))=false:=Ah (by omega)
   have G:=jF S h;rw[e1];refine AM ?_;refine B9 w1 700 [0,1,2,3,4,5,6,7,8,9,10,11,12,13,14,15,16,17,18] [19] (by kernel_rfl) ?_;refine AE (BZ kN k1 hp2 hp1) ?_;refine Bs kT hv1 ?_;refine AE (BZ kN k1 hp2 hp1) ?_;refine BU.same _ (Ya p2 p1 v1 h l1 lv1) AI ?_;refine BP ?_;exact⟨trivial,⟨(p2*BB+p1)/v1,(p2*BB+p1)%v1,0,_⟩,G,AL⟩
  ·have e1:decide ((p2:Int)>=(v1:Int))=true:=AZ (by omega)
   have G:=ki S h;rw[e1];refine AM ?_;refine sR 500 ?_;refine B9 w1 600 [0,1,2,3,4,5,6,7,8,9,10,11,12,13,14] [15] (by kernel_rfl) ?_;refine AE (BZ kN k1 hp2 hp1) ?_;refine Bs kT hv1 ?_;refine AE (BZ kN k1 hp2 hp1) ?_;exact⟨trivial,⟨18446744073709551615,(p1+v1+0)%BB,(p1+v1+0)/BB,_⟩,G,AL⟩
 rintro⟨q0,r0,c0,n0⟩ G0;dsimp only at G0⊢;refine Cz (α:=Nat×Nat) (λp=>⟨[(0,.osl 103 gu 1 A.length (m+3)),(1,.sl false 1 (v.map AR)),(5,i64 ((m+2:Nat):Int)),(6,AR p.1)],[⟨1505,gq,Tq,1,qs⟩,⟨103,gu,210,1,(A++(P++Z)).map AR⟩],p.2⟩)
  (λp=>p.1<BB/\AS P<(p.1+1)*AS v/\p.1*AS v<=AS P+AS v) ?_ ?_
 ·refine AC.block ?_
  refine Ge (α:=Nat×Nat×Nat×Nat) (λp=>⟨[(0,.osl 103 gu 1 A.length (m+3)),(1,.sl false 1 (v.map AR)),(5,i64 ((m+2:Nat):Int)),(6,AR p.1),(7,AR p.2.1),(8,AR p.2.2.1)],[⟨1505,gq,Tq,1,qs⟩,⟨103,gu,210,1,(A++(P++Z)).map AR⟩],p.2.2.2⟩)
   (λp=>p.1) (λp F'=>F'=F/\L7 (AS P) (AS v) (p1+BB*p2) v1 p.1 p.2.1 p.2.2.1) (q0,r0,c0,n0) ⟨rfl,G0⟩ AL ?_
  rintro⟨q,r,c,n1⟩ F' ⟨rfl,G⟩;dsimp only at G⊢;refine AC.seq ?_;refine AC.seq ?_;rcases Dh c with hc|hc
  ·subst hc
   have e8:(((0:Nat):Int)==0)=true:=rfl;refine Ap w1 800 (by kernel_rfl) ?_;refine AV e8 ?_;refine AM ?_;refine Ao ?_;refine AC.block ?_;have lq:=G.qB;have cm:=OR q v2 lq lv2;refine sZ 900 ?_;refine AE (Ad kN k2) ?_;refine Bs kT hv2 ?_;refine AE (Ad kN k2) ?_;refine BE.same _ cm AI ?_;refine BP ?_;have ht:=jm (x:=q*v2) (r:=r) l0;obtain⟨b,hb⟩:∃b:Bool,b=decide (q*v2<=r*BB+p0):=⟨_,rfl⟩
   refine AC.seq ?_;refine DU ⟨[(0,.osl 103 gu 1 A.length (m+3)),(1,.sl false 1 (v.map AR)),(5,i64 ((m+2:Nat):Int)),(6,AR q),(7,AR r),(91,As b)],[⟨1505,gq,Tq,1,qs⟩,⟨103,gu,210,1,(A++(P++Z)).map AR⟩],n1+100⟩ ?_ ?_
   ·change(q*v2/18446744073709551616<r\/q*v2/18446744073709551616=r/\q*v2%18446744073709551616<=p0)↔_ at ht
    generalize q*v2/18446744073709551616=hi at*;generalize q*v2%18446744073709551616=lo at*;rcases BI hi r with h|h
    ·have e1:decide ((hi:Int)<(r:Int))=true:=AZ (by omega)
     have hb1:b=true:=by rw[hb];exact AZ (ht.1 (.inl h))
     subst hb1;refine Ap w1 1000 (by kernel_rfl) ?_;refine AE e1 ?_;refine AE kT ?_;exact And.intro (by trivial) (AL)
    ·have e1:decide ((hi:Int)<(r:Int))=false:=Ah (by omega)
     rcases Nat.eq_or_lt_of_le h with h2|h2
     ·have e2:((hi:Int)==(r:Int))=true:=EH.2 (by omega)
      have e3:decide ((lo:Int)<=(p0:Int))=b:=by
       rw[hb];exact C5.2 ⟨λh3=>ht.1 (.inr ⟨h2.symm,by omega⟩),λh3=>by rcases ht.2 h3 with h4|h4<;>omega⟩
      refine Ap w1 1000 (by kernel_rfl) ?_;refine AE e1 ?_;refine AE (Ad kF e2) ?_;refine AE (EQ kF e2 kN k2 hp0 e3) ?_;exact And.intro (by trivial) (AL)
     ·have e2:((hi:Int)==(r:Int))=false:=Bu.2 (by omega)
      have hb1:b=false:=by rw[hb];exact Ah λh3=>by rcases ht.2 h3 with h4|h4<;>omega
      subst hb1;refine Ap w1 1000 (by kernel_rfl) ?_;refine AE e1 ?_;refine AE kF ?_;simp only[e2];refine AE (Ad kF ID) ?_;exact And.intro (by trivial) (AL)
   ·cases b
    ·have hn:=DP hb.symm
     obtain⟨hq0,G2⟩:=jl S G (by omega);have j1:IntKind.u64.wrap ((q:Int)-1)=((q-1:Nat):Int):=by rw[wU (by omega) (by have:=G.qB;unfold BB at this;omega)];omega
     refine AM ?_;refine Ao ?_;refine sZ 1100 ?_;refine AV j1 ?_;refine Ap w1 1200 (by kernel_rfl) ?_;refine AE (Ad kN k1) ?_;refine Bs kT hv1 ?_;refine AE (Ad kN k1) ?_;exact⟨(q-1,(r+v1+0)%BB,(r+v1+0)/BB,_),⟨trivial,G2⟩,by dsimp only;omega,AL⟩
    ·have hn:=C6 hb.symm
     refine AM ?_;refine CC ?_;exact⟨rfl,⟨q,_⟩,⟨G.qB,G.up,XM S G (.inr hn)⟩,AL⟩
  ·have e8:((c:Int)==0)=false:=Bu.2 (by omega)
   refine Ap w1 800 (by kernel_rfl) ?_;refine AV e8 ?_;refine AM ?_;refine CC ?_;exact⟨rfl,⟨q,_⟩,⟨G.qB,G.up,XM S G (.inl hc)⟩,AL⟩
 rintro⟨q,n1⟩ ⟨hq,hup,hdn⟩;dsimp only at hq hup hdn⊢;clear hp0 hp1 hp2;refine sR 1300 ?_;refine AC.seq ?_;refine sR 1400 ?_;refine AC.block ?_;refine AC.loop (α:=Nat×Nat×Nat×List Nat×Nat) (λp=>⟨[(0,.osl 103 gu 1 A.length (m+3)),(1,.sl false 1 (v.map AR)),(5,i64 ((m+2:Nat):Int)),(6,AR q),(11,AR p.2.1),(12,AR p.2.2.1),(104,i64 ((m+2:Nat):Int)),(105,i64 p.1)],[⟨1505,gq,Tq,1,qs⟩,⟨103,gu,210,1,(A++(p.2.2.2.1++Z)).map AR⟩],p.2.2.2.2⟩) (λp=>m+2-p.1)
  (λp=>p.1<=m+2/\p.2.1<=1/\p.2.2.1<BB/\p.2.2.2.1.length=m+3/\Wd p.2.2.2.1/\AS p.2.2.2.1+q*AS (v.take p.1)=AS P+BB^p.1*(p.2.2.1+p.2.1)) (0,0,0,P,_) ⟨BX _,BX _,(show 0<BB by decide),hPl,S.wP,by simp[AS]⟩ AL ?_
 rintro⟨i,b,c,p,n2⟩ F ⟨hi,hb,hc,hpl,hpw,hI⟩;dsimp only at hi hb hc hpl hpw hI⊢;have hv1':=hv1;clear hv1 hv2;refine sR 1500 ?_;refine AC.seq ?_;refine AM ?_
 (refine By (λhlt=>?_) (λhlt=>?_))<;>(try simp only[Bi,Bv]at hlt)<;>(try simp only[hlt])
 ·have hi2:i<m+2:=by
   have:=C6 hlt
   omega
  obtain⟨x,hx⟩:=CU (l:=v) (i:=i) (by omega);have hx':=DT hx;have hxl:x<BB:=S.wv x (Aw hx);obtain⟨z,hz⟩:=CU (l:=p) (i:=i) (by omega);have hz':=L3 (A:=A) (Z:=Z) hz;have hzl:z<BB:=hpw z (Aw hz);have cm:=OR q x hq hxl;have md:=jt hq hxl hc;obtain⟨h,l,lo,k,c',eh,el,elo,ek,ec,hlo,hc',hmd⟩:∃h l lo k c',q*x/18446744073709551616=h/\q*x%18446744073709551616=l/\(l+c+0)%18446744073709551616=lo/\(l+c+0)/18446744073709551616=k/\h+k=c'/\lo<BB/\c'<BB/\lo+BB*c'=q*x+c:=
   ⟨_,_,_,_,_,rfl,rfl,rfl,rfl,rfl,B4 _ (by decide),md.2,md.1⟩
  rw[eh,el]at cm;have j1:IntKind.u64.wrap ((h:Int)+(k:Int))=(c':Int):=by rw[<-Int.natCast_add,ec];exact WG hc'
  have hsub:=Tm (a:=z) (b:=lo) hb;have hdig:=TM hzl hlo hb;have hb':(if z<lo+b then 1 else 0)<=1:=by split<;>decide
  have hd:(z+BB-lo-b)%BB<BB:=B4 _ (by decide);generalize(if z<lo+b then 1 else 0)=b' at*;generalize(z+BB-lo-b)%BB=d at*;have wi:IntKind.i64.wrap ((i:Int)+1)=((i+1:Nat):Int):=wI (by omega) (by omega);refine Ao ?_;refine AC.seq ?_;refine AC.block ?_;refine sR 1600 ?_;refine sZ 1700 ?_;refine AE kN ?_;refine Bs kT hx' ?_;refine AE kN ?_;refine BE.same _ cm AI ?_;refine BP ?_;refine sR 1800 ?_;refine sZ 1900 ?_;refine AV (Ad elo ek) ?_;refine sZ 2000 ?_;refine AV j1 ?_;refine Ap w1 2100 (by kernel_rfl) ?_;refine AE (Ad kN hz') ?_
  first|(refine EB rfl rfl ?_;refine RE rfl rfl (hsub) ?_)|(refine Eh rfl rfl ?_;refine On rfl rfl (hsub) ?_)
  refine AE (Ad kN hz') ?_;rw[Qx (by omega)];refine Ap w1 2200 (by kernel_rfl) ?_;refine AV wi ?_;exact⟨(i+1,b',c',p.set i d,_),⟨hi2,hb',hc',by dsimp only;rw[DF];exact hpl,hpw.set hd,iR hz hx hI hmd hdig⟩,by dsimp only;omega,AL⟩
 ·have hi2:i=m+2:=by
   have:=DP hlt
   omega
  subst hi2;rw[CE (by omega)]at hI;obtain⟨z,hz⟩:=CU (l:=p) (i:=m+2) (by omega);have hz':=L3 (A:=A) (Z:=Z) hz;have hzl:z<BB:=hpw z (Aw hz);have hsub:=Tm (a:=z) (b:=c) hb;have hdig:=TM hzl hc hb;have hb':(if z<c+b then 1 else 0)<=1:=by split<;>decide
  have hd:(z+BB-c-b)%BB<BB:=B4 _ (by decide);generalize(if z<c+b then 1 else 0)=b' at*;generalize(z+BB-c-b)%BB=d at*;have hT:=iS hz hI hdig;have hml:m+2<p.length:=by omega
  refine CC ?_;refine sZ 2300 ?_;refine AE (Ad kN hz') ?_
  first|(refine EB rfl rfl ?_;refine RE rfl rfl (hsub) ?_)|(refine Eh rfl rfl ?_;refine On rfl rfl (hsub) ?_)
  refine AE (Ad kN hz') ?_;rw[Qx hml];have hpl2:(p.set (m+2) d).length=m+3:=by rw[DF];exact hpl
  have hpw2:=hpw.set (i:=m+2) hd;clear hz' hz hdig hsub hI;generalize p.set (m+2) d=p2 at*;refine AC.seq ?_;refine AC.seq ?_;rcases Dh b' with hb0|hb0
  ·subst hb0
   have e24:(((0:Nat):Int)==0)=true:=rfl;obtain⟨ed,em⟩:=TJ hT hup;refine Ap w1 2400 (by kernel_rfl) ?_;refine AV e24 ?_;refine AM ?_;refine sR 2500 ?_;refine Ak ?_;exact⟨p2,by omega,hpw2,em.symm,by rw[ed],rfl⟩
  ·have hb1:b'=1:=by omega
   subst hb1;have e24:(((1:Nat):Int)==0)=false:=rfl;have hpL:=Ho hpw2;rw[hpl2]at hpL;refine Ap w1 2400 (by kernel_rfl) ?_;refine AV e24 ?_;refine AM ?_;refine Ao ?_;refine sR 2600 ?_;refine AC.seq ?_;refine sR 2700 ?_;refine AC.block ?_;refine AC.loop (α:=Nat×Nat×List Nat×Nat) (λp=>⟨[(0,.osl 103 gu 1 A.length (m+3)),(1,.sl false 1 (v.map AR)),(5,i64 ((m+2:Nat):Int)),(6,AR q),(17,AR p.2.1),(156,i64 ((m+2:Nat):Int)),(157,i64 p.1)],[⟨1505,gq,Tq,1,qs⟩,⟨103,gu,210,1,(A++(p.2.2.1++Z)).map AR⟩],p.2.2.2⟩) (λp=>m+2-p.1)
    (λp=>p.1<=m+2/\p.2.1<=1/\p.2.2.1.length=m+3/\Wd p.2.2.1/\AS p.2.2.1+BB^p.1*p.2.1=AS p2+AS (v.take p.1)) (0,0,p2,_) ⟨BX _,BX _,hpl2,hpw2,by simp[AS]⟩ AL ?_
   rintro⟨i,c3,p3,n3⟩ F ⟨hi,hc3,hpl3,hpw3,hI⟩;dsimp only at hi hc3 hpl3 hpw3 hI⊢;refine sR 2800 ?_;refine AC.seq ?_;refine AM ?_
   (refine By (λhlt=>?_) (λhlt=>?_))<;>(try simp only[Bi,Bv]at hlt)<;>(try simp only[hlt])
   ·have hi2:i<m+2:=by
     have:=C6 hlt
     omega
    obtain⟨x,hx⟩:=CU (l:=v) (i:=i) (by omega);have hx':=DT hx;have hxl:x<BB:=S.wv x (Aw hx);obtain⟨z,hz⟩:=CU (l:=p3) (i:=i) (by omega);have hz':=L3 (A:=A) (Z:=Z) hz;have hzl:z<BB:=hpw3 z (Aw hz);have hadd:=YO (a:=z) (b:=x) hc3;have J:=iL hz hx hI;have hs:(z+x+c3)%BB<BB:=B4 _ (by decide);have hc':(z+x+c3)/BB<=1:=by
     have:z+x+c3<2*BB:=by omega
     exact Nh (E9 (by rw[BS];exact this))
    generalize(z+x+c3)%BB=d at*;generalize(z+x+c3)/BB=c' at*;have wi:IntKind.i64.wrap ((i:Int)+1)=((i+1:Nat):Int):=wI (by omega) (by omega);refine Ao ?_;refine AC.seq ?_;refine AC.block ?_;refine sR 2900 ?_;refine Pd w1 3000 [0,1,2,3,4,5,6,7,8,9,10,11,12,13,14,15,16] [17] 16 [12,10,9,8,7,6,5,4,3,2,1,0,11,13,15] (103) (by kernel_rfl) (by kernel_rfl) ?_;refine An ?_;refine MZ (Ad kN hz') ?_;refine EX rfl rfl rfl rfl ?_;refine NB (λ_ _=>rfl) (by exact Bx) ⟨rfl,by omega⟩ hx' ?_
    try dsimp only[D.cells,spot]
    refine MZ (Ad kN hz') ?_;refine EX rfl rfl rfl rfl ?_;refine On rfl rfl hadd ?_;refine MZ (Ad kN hz') ?_;refine And.intro (by first|exact Or.inl AB|exact Or.inl rfl) ?_;refine AE kN ?_;rw[Qx (by omega)];refine Ap w1 3100 (by kernel_rfl) ?_;refine AV wi ?_;exact⟨(i+1,c',p3.set i d,_),⟨hi2,hc',by dsimp only;rw[DF];exact hpl3,hpw3.set hs,J⟩,by dsimp only;omega,AL⟩
   ·have hi2:i=m+2:=by
     have:=DP hlt
     omega
    subst hi2;rw[CE (l:=v) (by omega)]at hI;obtain⟨z,hz⟩:=CU (l:=p3) (i:=m+2) (by omega);have hz':=L3 (A:=A) (Z:=Z) hz;have hzl:z<BB:=hpw3 z (Aw hz);have J:=iT hz hI;have hs:(z+c3)%BB<BB:=B4 _ (by decide);have hc':(z+c3)/BB<=1:=by
     have:z+c3<2*BB:=by omega
     exact Nh (E9 (by rw[BS];exact this))
    have j1:IntKind.u64.wrap ((z:Int)+(c3:Int))=(((z+c3)%BB:Nat):Int):=by rw[<-Int.natCast_add];exact JC _
    generalize(z+c3)%BB=d at*;generalize(z+c3)/BB=c' at*;have hml:m+2<p3.length:=by omega
    have hpl4:(p3.set (m+2) d).length=m+3:=by rw[DF];exact hpl3
    have hpw4:=hpw3.set (i:=m+2) hs;have hpL4:=Ho hpw4;rw[hpl4]at hpL4;obtain⟨q0p,ed,em⟩:=X9 (by rw[EG]at hT;exact hT) hpL hdn J hc' hpL4;have j2:IntKind.u64.wrap ((q:Int)-1)=((q-1:Nat):Int):=by rw[wU (by omega) (by unfold BB at hq;omega)];omega
    refine CC ?_;refine sZ 3200 ?_;refine AE (At kN hz' j1) ?_;rw[Qx hml];refine sZ 3300 ?_;refine AV j2 ?_;refine Ak ?_;exact⟨p3.set (m+2) d,by omega,hpw4,em.symm,by rw[ed],rfl⟩
theorem Cg.toP {C:BD}{f:Nat}{args:List D}{Φ:D->Hp->Nat->Prop}{Ψ:D->Prop}(h:Cg C f args [] 0 Φ)(k:∀d H n,Φ d H n->∃d',Fz H [] d d'/\B8 d'/\Ψ d'):Aj C f args Ψ:=by
 refine⟨h.1,λY w vs hG hnG hX' hvs hr=>?_⟩
 let F0:Ac:=⟨w,Y,λ_=>False,0,nol,[]⟩
 have m0:Aq C F0 nol [] w:=⟨⟨by simp,.nil,by simp⟩,rfl,rfl,rfl,Ai _,λ_ _ _=>rfl,hX',hG,hnG,by simp[F0],λ_ _ _ h=>h,λ_ cs _ _ h=>⟨cs,_,h,rfl⟩⟩
 have hoe:AN F0.X nol []=Y:=funext λb=>propext (by simp[AN,F0])
 refine(h.2 F0 nol w vs m0 (λ_ _ _=>rfl) (by simp) hvs (λi d hd=>by rw[hoe];exact hr i d hd)).mono ?_;rintro e w' ⟨v,d,H',n',ρ',rfl,hΦ,m,x,fr,g,r⟩;obtain⟨d',h3,h4,h5⟩:=k d H' n' hΦ;have hH:Ck H' [] H' []:=by
  generalize H'=H0
  have:∀H1:Hp,Ck H0 [] H1 []:=λH1=>by
   induction H1 with
   |nil=>exact .nil
   |cons e r ih=>exact .drop ih
  exact this H0
 obtain⟨m2,hO,hN⟩:=hH.mem m;have r3:=h3.rep m hO hN r;have r4:=h4 _ nol _ _ _ r3;exact⟨v,d',rfl,⟨m.os,m.tape,m.output,m.size,λb hb=>m.blk b hb (by simp[F0])⟩,h5,r4.anti λb hb=>.inl hb⟩
theorem b7 {H Hf:Hp}{a a' b b':D}(h1:Fz H Hf a a')(h2:Fz H Hf b b'):Fz H Hf (.tup [a,b]) (.tup [a',b']):=
 .tup rfl λi d d' hd hd'=>by
  match i with
  | 0=>simp at hd hd';subst hd;subst hd';exact h1
  | 1=>simp at hd hd';subst hd;subst hd';exact h2
  |i+2=>simp at hd
theorem Yx {a b:D}(h1:B8 a)(h2:B8 b):B8 (.tup [a,b]):=B8.tup λd hd=>by
 simp only[BA,Dc,or_false]at hd;rcases hd with rfl|rfl
 ·exact h1
 ·exact h2
theorem jE (K g T:Nat)(l l':List Nat)(h:l.take l'.length=l'):Fz [⟨K,g,T,1,l.map AR⟩] [] (.osl K g 1 0 l'.length) (wL l'):=by
 have hll:l'.length<=l.length:=by
  have:=congrArg List.length h
  rw[Bb]at this;omega
 have key:∀(j:Nat) (d d':D),(l.map AR)[0+j]?=some d->(l'.map AR)[j]?=some d'->d=d':=λj d d' h1 h2=>by
  rw[<-h,A7,Eo]at h2;rw[BV,A7]at h1;split at h2
  ·rw[h1]at h2;exact F7 h2
  ·simp at h2
 refine .osl (e:=⟨K,g,T,1,l.map AR⟩) (by simp[Hp.get]) rfl rfl rfl (by simp;exact hll) (by simp) (λj d d' h1 h2=>by rw[key j d d' h1 h2]) λj d d' q c c' h1 h2 h3 h4=>?_
 rw[key j d d' h1 h2]at h3;rw[h3]at h4;cases h4;exact Fz.refl _
theorem qo:wD 0=.sl false 1 []:=by unfold wD;rw[Ft];rfl
theorem lg (w:List Nat)(s:Nat)(hs:s<=63)(hw:Wd w)(hl:w.length<4000000):Aj C0 228 [wL w,i64 s] (λd=>∃out:List Nat,out.length=w.length+1/\Wd out/\AS out=AS w*2^s/\d=wL out):=
 (W6 w s hs hw hl [] 0).toP λd H n ⟨out,g,h1,h2,h3,h4,h5,_⟩=>by
  subst h4;subst h5;refine⟨wL out,?_,Kr _,out,h1,h2,h3,rfl⟩
  have:=jE 103 g 210 out out (by simp)
  rw[h1]at this;exact this
theorem kV {n k:Nat}(h1:BB^k<=n)(h2:n<BB^(k+1)):(Af n).length=k+1:=by
 have h3:=HB h2;have h4:=Db h1 (Jf n);have h5:=(Nat.pow_lt_pow_iff_right (show 1<BB by decide)).1 h4;omega
theorem TD:∀(n:Nat) {k a:Nat},(Af n).length=k+1->(Af n)[k]?=some a->a≠0:=λn=>by
 induction n using Nat.strongRecOn with
 |ind n ih=>
  intro k a h1 h2
  by_cases h0:n=0
  ·subst h0;rw[Ft]at h1;cases h1
  ·rw[GK h0]at h1 h2
   rw[Bp]at h1;have h3:=Nat.succ.inj h1;cases k with
   |zero=>
    have h4:Af (n/BB)=[]:=En h3;have h5:n/BB=0:=by rw[<-Et (n/BB),h4];rfl
    have h6:=Er n BB;rw[h5]at h6;simp at h2;intro h7;subst h7;rw[h2]at h6;omega
   |succ k=>
    rw[KI]at h2;exact ih _ (IE (D8 h0) (by decide)) h3 h2
theorem YJ {n k:Nat}(h:(Af n).length=k+1):BB^k<=n:=by
 obtain⟨a,ha⟩:=CU (l:=Af n) (i:=k) (by omega);have h1:=TD n h ha;have h2:=Vs h ha;rw[Et]at h2;have h3:=Cc (BB^k) (show 1<=a by omega);omega
theorem vt {b m y s:Nat}(hs:s<=63)(hl:(Af b).length=m+1)(hy:(Af b)[m]?=some y)(h:y*2^s<BB):(Af (b*2^s)).length=m+1:=by
 have hp:0<2^s:=G7 s;have hpp:2^(64-s)*2^s=BB:=by rw[<-GC,show 64-s+s=64 by omega]
 have h1:y<2^(64-s):=by
  rw[<-hpp]at h;exact Nat.lt_of_mul_lt_mul_right h
 refine kV ?_ ?_
 ·have:=YJ hl
  exact BR this (Nat.le_mul_of_pos_right _ hp)
 ·have h2:=Vs hl hy
  have h3:=Ho ((FG b).take m);rw[Bb,hl,FC (by omega)]at h3;rw[Et]at h2;have h4:b<BB^m*(y+1):=by rw[BN,EG];omega
  have h5:BB^m*(y+1)<=BB^m*2^(64-s):=Cc _ h1;have h6:b*2^s<BB^m*2^(64-s)*2^s:=SV (CZ h4 h5) hp;rw[Bz,hpp]at h6;exact h6
theorem YB {l:List Nat}{j a:Nat}(h:l[j]?=some a):AS (l.drop j)=a+BB*AS (l.drop (j+1)):=by
 have hj:j<l.length:=(List.getElem?_eq_some_iff.1 h).1;rw[EU hj,(List.getElem?_eq_some_iff.1 h).2];rfl
theorem Qm {l:List Nat}{j a:Nat}(h:j<l.length):(l.set j a).drop j=a::l.drop (j+1):=by
 rw[EU (by rw[DF];exact h)]
 congr 1
 ·exact List.getElem_set_self _
 ·rw[List.drop_set_of_lt (by omega)]
theorem jS {a q:List Nat}{j x b rest:Nat}(hb:0<b)(hx:a[j]?=some x)(hj:j<q.length)(hI:AS (q.drop (j+1))*b+rest=AS (a.drop (j+1))):
  AS ((q.set j ((rest*BB+x)/b)).drop j)*b+(rest*BB+x)%b=AS (a.drop j)/\(rest*BB+x)%b<b:=by
 refine⟨?_,B4 _ hb⟩;rw[Qm hj,YB hx,<-hI,AS];have e:=Ec (rest*BB+x) b;rw[Bw,BN BB,Bz BB,BS BB rest,BS _ b];omega
theorem QL {q b r a:Nat}(h:q*b+r=a)(hr:r<b):q=a/b/\r=a%b:=by
 subst h;rw[BS];exact⟨by rw[Nat.mul_add_div (by omega),HZ hr,De],by rw[Nat.mul_add_mod,Dj hr]⟩
structure L2 (X:Nat)(v U q:List Nat)(lu lq k:Nat):Prop where
 lU:U.length=lu
 lQ:q.length=lq
 wU:Wd U
 wq:Wd q
 val:BB^k*AS (q.drop k)*AS v+AS U=X
 less:AS (U.drop k)<AS v
theorem gH {U:List Nat}(j n:Nat):U=U.take j++((U.drop j).take n++U.drop (j+n)):=by
 rw[<-List.drop_drop,E8,E8]
theorem mI {X:Nat}{v U q:List Nat}{lu lq j m:Nat}(I:L2 X v U q lu lq (j+1))(hv:v.length=m+2)(wv:Wd v)(v1 v2:Nat)(h2:v[m]?=some v2)(h1:v[m+1]?=some v1)(ht:0<v1)(hj:j+(m+3)<=lu):
  ∃p0 p1 p2,M0 ((U.drop j).take (m+3)) v m p0 p1 p2 v2 v1/\AS (U.drop (j+(m+3)))=0/\AS ((U.drop j).take (m+3))=AS (U.drop j):=by
 obtain⟨lU,lQ,wU,wq,val,less⟩:=I;obtain⟨x,hx⟩:=CU (l:=U) (i:=j) (by omega);have hxl:=wU x (Aw hx);have e1:=YB hx;have hlt:AS (U.drop j)<AS v*BB:=by
  have:BB*(AS (U.drop (j+1))+1)<=BB*AS v:=Cc _ less
  rw[BN,BS BB (AS v)]at this;omega
 have hPl:((U.drop j).take (m+3)).length=m+3:=by rw[Bb,Dv];omega
 have e2:AS (U.drop j)=AS ((U.drop j).take (m+3))+BB^(m+3)*AS (U.drop (j+(m+3))):=by
  conv=>lhs;rw[<-E8 (m+3) (U.drop j)]
  rw[KX,hPl,List.drop_drop]
 have hvl:=Ho wv;rw[hv]at hvl;have hz:AS (U.drop (j+(m+3)))=0:=by
  rcases Dh (AS (U.drop (j+(m+3))))with h|h
  ·exact h
  ·exfalso
   have e3:BB^(m+3)*1<=BB^(m+3)*AS (U.drop (j+(m+3))):=Cc _ h;have e4:AS v*BB<=BB^(m+2)*BB:=CM _ (KL hvl);have e5:BB^(m+2)*BB=BB^(m+3):=(CN BB (m+2)).symm;rw[e5]at e4;omega
 rw[hz,Eb,De]at e2;obtain⟨p0,h0⟩:=CU (l:=(U.drop j).take (m+3)) (i:=m) (by omega);obtain⟨p1,h3⟩:=CU (l:=(U.drop j).take (m+3)) (i:=m+1) (by omega);obtain⟨p2,h4⟩:=CU (l:=(U.drop j).take (m+3)) (i:=m+2) (by omega);exact⟨p0,p1,p2,⟨hPl,hv,λa ha=>wU a (KK (FX ha)),wv,h0,h3,h4,h2,h1,ht,by rw[<-e2];exact hlt⟩,hz,e2.symm⟩
theorem mH {X:Nat}{v U q P':List Nat}{lu lq j m:Nat}(I:L2 X v U q lu lq (j+1))(hv:0<AS v)(hj:j+(m+3)<=lu)(hjq:j<lq)(hz:AS (U.drop (j+(m+3)))=0)(hP:AS ((U.drop j).take (m+3))=AS (U.drop j))
  (h1:P'.length=m+3) (h2:Wd P') (h3:AS P'=AS ((U.drop j).take (m+3))%AS v) (hd:AS ((U.drop j).take (m+3))/AS v<BB):
  L2 X v (U.take j++(P'++U.drop (j+(m+3)))) (q.set j (AS ((U.drop j).take (m+3))/AS v)) lu lq j:=by
 obtain⟨lU,lQ,wU,wq,val,less⟩:=I;have hA:(U.take j).length=j:=by rw[Bb];omega
 have e0:AS U=AS (U.take j)+BB^j*AS (U.drop j):=by
  conv=>lhs;rw[<-E8 j U]
  rw[KX,hA]
 have e1:AS (P'++U.drop (j+(m+3)))=AS P':=by rw[KX,hz,Eb,De]
 refine⟨?_,by rw[DF];exact lQ,?_,wq.set hd,?_,?_⟩
 ·rw[Bk,Bk,hA,h1,Dv];omega
 ·exact Wd.append (wU.take j) (Wd.append h2 λa ha=>wU a (KK ha))
 ·rw[Qm (by omega),AS,KX,hA,e1,h3,hP]
  rw[e0]at val;have e2:=Ec (AS (U.drop j)) (AS v);have e3:BB^(j+1)*AS (q.drop (j+1))*AS v=BB^j*(BB*AS (q.drop (j+1))*AS v):=by
   rw[CN,Bz,Bz,Bz]
  rw[e3]at val;have e4:BB^j*AS (U.drop j)=BB^j*(AS v*(AS (U.drop j)/AS v))+BB^j*(AS (U.drop j)%AS v):=by
   rw[<-BN,e2]
  rw[Bz,Bw,BN,BS (AS (U.drop j)/AS v)];omega
 ·rw[List.drop_left' hA,e1,h3]
  exact B4 _ hv
theorem jz {a b s:Nat}{U v:List Nat}{k lu lq:Nat}(hU:AS U=a*2^s)(hv:AS v=b*2^s)(wU:Wd U)(lU:U.length=lu){q:List Nat}(hq:q=List.replicate lq 0)(hk:lq<=k)
  (hab:a<BB^k*b):L2 (a*2^s) v U q lu lq k:=by
 subst hq;refine⟨lU,Iu,wU,Mo _,?_,?_⟩
 ·rw[Hb (by rw[Iu];exact hk)]
  rw[show AS []=0 from rfl,Eb,G8,BV,hU]
 ·rcases BI (AS (U.drop k)) (AS v)with h|h
  ·exact h
  ·exfalso
   have e0:AS U=AS (U.take k)+BB^(U.take k).length*AS (U.drop k):=by
    conv=>lhs;rw[<-E8 k U]
    rw[KX]
   have hp:0<2^s:=G7 s;have h3:a*2^s<BB^k*b*2^s:=SV hab hp;rw[Bz,<-hv]at h3;rcases BI U.length k with hl|hl
   ·rw[Hb (by omega)]at h
    rw[show AS []=0 from rfl]at h;rw[Nat.le_zero.1 h,Eb]at h3;omega
   ·rw[Bb,FC hl]at e0
    have:=Cc (BB^k) h
    omega
theorem mG {a b s:Nat}{v U q:List Nat}{lu lq:Nat}(I:L2 (a*2^s) v U q lu lq 0)(hv:AS v=b*2^s):AS q=a/b/\AS U=a%b*2^s:=by
 obtain⟨lU,lQ,wU,wq,val,less⟩:=I;simp only[MX,JV,Fk]at val less;obtain⟨h1,h2⟩:=QL val less;rw[hv,Pi _ _ (G7 s)]at h1;rw[hv,Pj]at h2;exact⟨h1,h2⟩
structure Oh (U u:List Nat)(s i:Nat):Prop where
 len:u.length=U.length
 wd:Wd u
 rest:∀k,i<=k->u[k]?=U[k]?
 val:∀c,U[i]?=some c->AS (U.take i)+BB^i*(c%2^s)=2^s*AS (u.take i)
theorem jg {U:List Nat}{s r:Nat}(wU:Wd U)(h:AS U=r*2^s)(hs:s<=63):Oh U U s 0:=by
 refine⟨rfl,wU,λ_ _=>rfl,λc hc=>?_⟩;have e:=Kt hc;simp only[LN,MX,JV,AS,BV,Eb]at e⊢;have hpp:2^(64-s)*2^s=BB:=by rw[<-GC,show 64-s+s=64 by omega]
 have e1:(AS U)%2^s=0:=by rw[h];exact Nat.mul_mod_left _ _
 rw[e,<-hpp,Nat.mul_right_comm,Nat.add_mul_mod_self_right]at e1;exact e1
theorem XF {c d s:Nat}(hs:s<=63)(hc:c<BB):c/2^s ||| d*2^(64-s)%BB=c/2^s+d%2^s*2^(64-s)/\c/2^s+d%2^s*2^(64-s)<BB /\
  c%2^s+2^s*(c/2^s+d%2^s*2^(64-s))=c+BB*(d%2^s):=by
 have hpp:2^s*2^(64-s)=BB:=by rw[<-GC,show s+(64-s)=64 by omega]
 have h1:d*2^(64-s)%BB=d%2^s*2^(64-s):=by rw[<-hpp,Pj]
 have h2:c/2^s<2^(64-s):=E9 (by rw[hpp];exact hc);have h3:d%2^s<2^s:=B4 _ (G7 s);have h4:(d%2^s+1)*2^(64-s)<=2^s*2^(64-s):=CM _ h3;rw[hpp,Bw,JV]at h4;have e:=Er c (2^s);refine⟨?_,by omega,?_⟩
 ·rw[h1,Nat.or_comm,VA h2,LO]
 ·rw[BN,Iq,hpp,BS (d%2^s)]
  omega
theorem kG {U u:List Nat}{s i c d:Nat}(hs:s<=63)(wU:Wd U)(I:Oh U u s i)(hc:U[i]?=some c)(hd:U[i+1]?=some d):
  Oh U (u.set i (c/2^s+d%2^s*2^(64-s))) s (i+1):=by
 obtain⟨len,wd,rest,val⟩:=I;have hcl:=wU c (Aw hc);obtain⟨_,e2,e3⟩:=XF (d:=d) hs hcl;have hi:i<U.length:=(List.getElem?_eq_some_iff.1 hc).1;refine⟨by rw[DF];exact len,wd.set e2,λk hk=>?_,λc' hc'=>?_⟩
 ·rw[Io (by omega)];exact rest k (by omega)
 ·rw[hd]at hc'
  cases hc';have v0:=val c hc;rw[Qn (by omega),Gr (i:=i) (by rw[Bb];omega),FF hc,Gr (i:=i) (by rw[Bb];omega),BN,<-v0,CN,Bz,Iq (2^s)];have e4:BB^i*(c%2^s+2^s*(c/2^s+d%2^s*2^(64-s)))=BB^i*(c+BB*(d%2^s)):=by rw[e3]
  rw[BN,BN (BB^i) c]at e4;omega
theorem kE {U u:List Nat}{s n r:Nat}(I:Oh U u s n)(hn:n<U.length)(hU:AS U=r*2^s)(hl:AS U<BB^n):AS (u.take n)=r:=by
 obtain⟨c,hc⟩:=CU hn;have e:=Kt hc;have hz:c+BB*AS (U.drop (n+1))=0:=by
  rcases Dh (c+BB*AS (U.drop (n+1)))with h|h
  ·exact h
  ·have:=Cc (BB^n) h
   omega
 have hc0:c=0:=by omega
 subst hc0;have v0:=I.val 0 hc;rw[hz,Eb,De]at e;rw[Nat.zero_mod,Eb,De,<-e,hU,BS]at v0;exact(Nat.eq_of_mul_eq_mul_left (G7 s) v0).symm
theorem Y5 {a b:Nat}(h:a<b):decide (D4 (a:Int) (b:Int)<0)=true:=AZ (by unfold D4;split<;>(try split)<;>omega)
theorem Q1 {a b:Nat}(h:b<=a):decide (D4 (a:Int) (b:Int)<0)=false:=Ah (by unfold D4;split<;>(try split)<;>omega)
theorem qp {env:Au}{t K g n N t2:Nat}{z:List Nat}{T:Nat}{d2:D}(hl:z.length=N)(he:env.get t=.osl K g 1 0 N:=by exact rfl)(h2:env.get t2=d2:=by exact rfl):Wk ⟨env,[⟨K,g,T,1,z.map AR⟩],n⟩ ⟨[(t,.sl false 1 (z.map AR)),(t2,d2)],[],n⟩:=by
 subst hl;refine⟨.drop .nil,⟨?_,?_,trivial⟩,Ai _⟩
 ·dsimp only
  rw[he]
  have:=RP K g T 1 (z.map AR)
  rwa [Am]at this
 ·dsimp only
  rw[h2];exact .refl _
theorem kC (a b:Nat)(hab:a<b)(ha:(Af a).length<1000000)(hb:(Af b).length<1000000):AJ C0 168 [wD a,wD b] (.tup [wD (a/b),wD (a%b)]):=by
 rw[HZ hab,Dj hab,qo];refine Aj.walk w1 RL rfl λF=>?_
 have cc:=Q2 a b (by omega) (by omega);have e1:=Y5 hab;refine sR 0 ?_;refine AC.seq ?_;refine sR 100 ?_;refine cI cc ?_;rw[e1];refine AM ?_;refine sR 200 ?_;refine Ak ?_;exact⟨_,b7 (.nil 1) (.refl _),Yx (.sl λe he=>by cases he) (Kr _),rfl⟩
theorem mJ (a b:Nat)(hab:b<=a)(ha:(Af a).length<1000000)(hb:(Af b).length=1)(hb0:b≠0):AJ C0 168 [wD a,wD b] (.tup [wD (a/b),wD (a%b)]):=by
 have cc:=Q2 a b (by omega) (by omega);have e1:=Q1 hab;have hbl:b<BB:=by
  have:=Jf b
  rw[hb,Nat.pow_one]at this;exact this
 have hlb:(Af b)[0]?=some b:=by rw[Mg hb0 hbl];rfl
 have va:=Et a;have wa:=FG a;refine Aj.walk w1 RL rfl λF=>?_
 unfold wD wL at cc⊢;change AC C0 F none F _ _ (Rq X1.tt _ (· = .tup [wD (a/b),wD (a%b)]));generalize Af a=la at*;generalize Af b=lb at*;have hb':=DT hlb;have e3:((((lb.map AR).length:Nat):Int)==1)=true:=by rw[Am,hb];rfl
 have ea:(((la.map AR).length:Nat):Int)=(la.length:Int):=by rw[Am]
 have wl:IntKind.i64.wrap ((la.length:Int)-1)=(la.length:Int)-1:=wI (by omega) (by omega);have r3:List.replicate la.length (ofV (.int .u64 0))=(List.replicate la.length 0).map AR:=by rw[KM];rfl
 refine sR 0 ?_;refine AC.seq ?_;refine sR 100 ?_;refine cI cc ?_;rw[e1];refine AM ?_;refine Ao ?_;refine AC.seq ?_;refine sZ 300 ?_;refine AV e3 ?_;refine AM ?_;refine sZ 400 ?_;refine AV (Ad ea kN) ?_;refine sR 500 ?_;refine AC.seq ?_;refine sZ 600 ?_;refine AV (Ad ea wl) ?_;refine AC.block ?_;refine AC.loop (α:=Nat×Nat×List Nat×Nat) (λp=>⟨[(0,.sl false 1 (la.map AR)),(1,.sl false 1 (lb.map AR)),(6,.osl 402 11 1 0 la.length),(7,AR p.2.1),(8,i64 ((p.1:Int)-1))],[⟨402,11,210,1,p.2.2.1.map AR⟩],p.2.2.2⟩) (λp=>p.1)
  (λp=>p.1<=la.length/\p.2.1<b/\p.2.2.1.length=la.length/\Wd p.2.2.1/\AS (p.2.2.1.drop p.1)*b+p.2.1=AS (la.drop p.1)) (la.length,0,List.replicate la.length 0,_)
  ⟨Ai _,D8 hb0,by simp,Mo _,by simp[AS]⟩ (by rw[<-r3];exact AL) ?_
 rintro⟨k,r,q,m⟩ F ⟨h1,h2,h3,h4,h5⟩;dsimp only at h1 h2 h3 h4 h5⊢;clear cc e1 e3 ea wl r3;refine AC.seq ?_;refine sR 700 ?_;refine AM ?_
 (refine By (λh20=>?_) (λh20=>?_))<;>(try simp only[Bi,Bv]at h20)<;>(try simp only[h20])
 ·obtain⟨j,rfl⟩:∃j,k=j+1:=⟨k-1,by
   have:(k:Int)-1>=0:=by simpa using h20
   omega⟩
  have wj:((j+1:Nat):Int)-1=(j:Int):=by omega
  obtain⟨x,hx⟩:=CU (l:=la) (i:=j) (by omega);obtain⟨z,hz⟩:=CU (l:=q) (i:=j) (by omega);have hx':=DT hx;have hz':=DT hz;have hxl:=wa x (Aw hx);have cd:=Ya r x b h2 hxl hbl;obtain⟨J1,J2⟩:=jS (D8 hb0) hx (by omega) h5;have hql:(r*BB+x)/b<BB:=by
   refine E9 ?_
   have:(r+1)*BB<=b*BB:=CM _ h2
   rw[Bw]at this;omega
  have wi:IntKind.i64.wrap ((j:Int)-1)=(j:Int)-1:=wI (by omega) (by omega);generalize(r*BB+x)/b=d at*;generalize(r*BB+x)%b=r' at*;rw[wj];refine Ao ?_;refine AC.seq ?_;refine AC.block ?_;refine Pd w1 900 [0,1,2,3,4,5,6,7,8,9,10,11,12,13,14,15] [16] 15 [11,9,8,7,6,5,4,3,2,1,0,10,12,14] (402) (by kernel_rfl) (by kernel_rfl) ?_;refine An ?_;refine MZ kN ?_;refine EX rfl rfl rfl rfl ?_;refine NB (λ_ _=>rfl) (by exact Bx) ⟨rfl,by omega⟩ hx' ?_
  try dsimp only[D.cells,spot]
  refine MZ kN ?_;refine EX rfl rfl rfl rfl ?_;refine NB (λ_ _=>rfl) (by exact Bx) ⟨rfl,by omega⟩ hb' ?_
  try dsimp only[D.cells,spot]
  refine MZ kN ?_;refine EX rfl rfl rfl rfl ?_;refine Lu (λ_ _=>rfl) (by exact Bx) ?_;refine An ?_;refine BU.same _ cd AI ?_;refine MZ (At kN BV hz') ?_;refine And.intro (by first|exact Or.inl AB|exact Or.inl rfl) ?_;refine AE (Ad kN BV) ?_;rw[map_set];refine Ap w1 800 (by kernel_rfl) ?_;refine AV wi ?_;exact⟨(j,r',q.set j d,_),⟨by dsimp only;omega,J2,by dsimp only;rw[DF];exact h3,h4.set hql,J1⟩,by dsimp only;omega,AL⟩
 ·have hk:k=0:=by
   have:¬((k:Int)-1>=0):=by simpa using h20
   omega
  subst hk;rw[Fk,Fk,va]at h5;obtain⟨q1,q2⟩:=QL h5 h2;refine CC ?_;refine AC.weak ⟨[(6,.sl false 1 (q.map AR)),(7,AR r)],[],_⟩ (qp h3) ?_;refine sR 1000 ?_;refine BE.same _ (trim_ok q h4 (by omega)) AI ?_;refine BP ?_;have hrl:Wd [r]:=λa ha=>by
   simp only[BA,Dc,or_false]at ha;subst ha;exact GB h2 hbl
  refine BE.pure [wL [r]] _ ⟨.nn true 1 _,trivial⟩ (trim_ok [r] hrl (by simp)) AI ?_;refine BP ?_;refine Ak ?_;exact AK (by rw[q1,q2];simp[AS]) AA.out
set_option maxHeartbeats 4000000
theorem Zd {H:Hp}{K g T:Nat}{l:List Nat}{N:Nat}(hl:l.length=N)(he:Hp.get H K=some ⟨K,g,T,1,l.map AR⟩:=by exact rfl):Fz H [] (.osl K g 1 0 N) (.sl false 1 (l.map AR)):=by
 subst hl;have key:∀(j:Nat) (d d':D),(l.map AR)[0+j]?=some d->(l.map AR)[j]?=some d'->d=d':=λj d d' h1 h2=>by
  rw[BV]at h1;rw[h1]at h2;exact F7 h2
 refine .osl (e:=⟨K,g,T,1,l.map AR⟩) he rfl rfl rfl (by simp) (by simp) (λj d d' h1 h2=>by rw[key j d d' h1 h2]) λj d d' q c c' h1 h2 h3 h4=>?_
 rw[key j d d' h1 h2]at h3;rw[h3]at h4;cases h4;exact Fz.refl _
theorem kD (a b m:Nat)(hab:b<=a)(ha:(Af a).length<1000000)(hb:(Af b).length=m+2):AJ C0 168 [wD a,wD b] (.tup [wD (a/b),wD (a%b)]):=by
 have hlen:=Hi b a hab;have cc:=Q2 a b (by omega) (by omega);have e1:=Q1 hab;obtain⟨y,hy⟩:=CU (l:=Af b) (i:=m+1) (by omega);have y0:=TD b hb hy;have yl:y<BB:=FG b y (Aw hy);obtain⟨s,hs,es,t1,t2⟩:=XA y0 yl;have cl:=fe y yl;rw[es]at cl;have hvl:=vt hs hb hy t2;obtain⟨v,hv⟩:∃v,v=Af (b*2^s):=⟨_,rfl⟩
 have wv:Wd v:=by rw[hv];exact FG _
 have vv:AS v=b*2^s:=by rw[hv];exact Et _
 rw[<-hv]at hvl;obtain⟨v1,h1⟩:=CU (l:=v) (i:=m+1) (by omega);obtain⟨v2,h2⟩:=CU (l:=v) (i:=m) (by omega);have v10:v1≠0:=TD (b*2^s) (by rw[<-hv];exact hvl) (by rw[<-hv];exact h1);have vpos:0<AS v:=by
  rw[vv];refine Hd ?_ (G7 s);refine D8 λh=>?_
  subst h;rw[Ft]at hb;cases hb
 have va:=Et a;have vb:=Et b;have wa:=FG a;have wb:=FG b;have hup:=Jf a;have hbge:=YJ hb;refine Aj.walk w1 RL rfl λF=>?_
 unfold wD wL at cc⊢;change AC C0 F none F _ _ (Rq X1.tt _ (· = .tup [wD (a/b),wD (a%b)]));generalize Af a=la at*;generalize Af b=lb at*;obtain⟨lq,hlq⟩:∃lq,la.length=lq+(m+2):=⟨la.length-(m+2),by omega⟩
 have hy':=DT hy;have e3:((((lb.map AR).length:Nat):Int)==1)=false:=by rw[Am,hb];exact Bu.2 (by omega)
 have elb:(((lb.map AR).length:Nat):Int)=((m+2:Nat):Int):=by rw[Am,hb]
 have wlb0:IntKind.i64.wrap (((m+2:Nat):Int)-1)=((m+1:Nat):Int):=by rw[wI (by omega) (by omega)];omega
 have wlb:IntKind.i64.wrap ((((lb.map AR).length:Nat):Int)-1)=((m+1:Nat):Int):=by rw[elb];exact wlb0
 have ea:(((la.map AR).length:Nat):Int)=(la.length:Int):=by rw[Am]
 have ev:(((v.map AR).length:Nat):Int)=((m+2:Nat):Int):=by rw[Am,hvl]
 have wq1:IntKind.i64.wrap ((la.length:Int)-((m+2:Nat):Int))=(lq:Int):=by rw[wI (by omega) (by omega)];omega
 have wq2:IntKind.i64.wrap ((lq:Int)+1)=((lq+1:Nat):Int):=by rw[wI (by omega) (by omega)];omega
 have wq1':IntKind.i64.wrap ((la.length:Int)-((m+2:Nat):Int))=((lq+1:Nat):Int)-1:=by rw[wI (by omega) (by omega)];omega
 have wraw:IntKind.i64.wrap (IntKind.i64.wrap ((((la.map AR).length:Nat):Int)-((m+2:Nat):Int))+1)=((lq+1:Nat):Int):=by rw[ea,wq1,wq2]
 have r3:List.replicate (lq+1) (ofV (.int .u64 0))=(List.replicate (lq+1) 0).map AR:=by rw[KM];rfl
 refine sR 0 ?_;refine AC.seq ?_;refine sR 100 ?_;refine cI cc ?_;rw[e1];refine AM ?_;refine Ao ?_;refine AC.seq ?_;refine sZ 300 ?_;refine AV e3 ?_;refine AM ?_;refine Ao ?_;refine sZ 1100 ?_;refine AE (BZ wlb elb wlb0 kN) ?_;refine Bs kT hy' ?_;refine AE (BZ wlb elb wlb0 kN) ?_;refine cI cl ?_;refine Cz (α:=Nat) (λn=>⟨[(0,.sl false 1 (la.map AR)),(9,i64 s),(10,.sl false 1 (v.map AR))],[],n⟩) (λ_=>True) ?_ ?_
 ·refine rI 1200 ?_
  refine BE.prop [wL lb,i64 s] _ (Ee.refl _) (lg lb s hs wb (by omega)) AI ?_;rintro d ⟨out,o1,o2,o3,rfl⟩;have hvo:wD (AS out)=.sl false 1 (v.map AR):=by rw[o3,vb,hv];rfl
  refine BP ?_;refine BE.same _ (trim_ok out o2 (by omega)) AI ?_;refine BP ?_;simp only[hvo];exact⟨trivial,_,trivial,AL⟩
 rintro n0 -;clear cc e1 e3 elb wlb wlb0 hy' cl es t1 t2 yl y0 hy wb;refine sR 1300 ?_;refine BE.own _ (W6 la s hs wa (by omega) [] _) ?_;rintro d H' n1 ⟨U,gu,u1,u2,u3,rfl,rfl,-⟩;rw[va]at u3;refine BP ?_;refine sZ 1400 ?_;refine AV ev ?_;refine Cz (α:=Nat×Nat) (λp=>⟨[(0,.sl false 1 (la.map AR)),(9,i64 s),(10,.sl false 1 (v.map AR)),(11,.osl 103 gu 1 0 (la.length+1)),(12,i64 ((m+2:Nat):Int)),(13,.osl 1505 p.1 1 0 (lq+1))],[⟨1505,p.1,210,1,(List.replicate (lq+1) 0).map AR⟩,⟨103,gu,210,1,U.map AR⟩],p.2⟩) (λ_=>True) ?_ ?_
 ·refine Ap w1 1500 (by kernel_rfl) ?_
  refine AV (CO ea wq1 wq2 kN r3) ?_;exact⟨trivial,⟨n1+9,n1+20⟩,trivial,by rw[<-r3];exact AL⟩
 rintro⟨g,n2⟩ -;dsimp only;have I0:L2 (a*2^s) v U (List.replicate (lq+1) 0) (la.length+1) (lq+1) (lq+1):=by
  refine jz u3 vv u2 u1 rfl (Ai _) ?_
  have:BB^(lq+1)*BB^(m+1)<=BB^(lq+1)*b:=Cc _ hbge
  rw[<-GC,show lq+1+(m+1)=la.length by omega]at this;omega
 refine AC.seq ?_;refine sZ 1600 ?_;refine AV (Ad ea wq1') ?_;refine AC.block ?_;refine AC.loop (α:=Nat×List Nat×List Nat×Nat) (λp=>⟨[(9,i64 s),(10,.sl false 1 (v.map AR)),(11,.osl 103 gu 1 0 (la.length+1)),(12,i64 ((m+2:Nat):Int)),(13,.osl 1505 g 1 0 (lq+1)),(14,i64 ((p.1:Int)-1))],[⟨1505,g,210,1,p.2.2.1.map AR⟩,⟨103,gu,210,1,p.2.1.map AR⟩],p.2.2.2⟩) (λp=>p.1)
  (λp=>p.1<=lq+1/\L2 (a*2^s) v p.2.1 p.2.2.1 (la.length+1) (lq+1) p.1) (lq+1,U,List.replicate (lq+1) 0,_) ⟨Ai _,I0⟩ AL ?_
 rintro⟨k,u,q,n3⟩ F ⟨hk,I⟩;dsimp only at hk I⊢;clear I0 wq1 wq2 wq1' wraw r3 ea;refine AC.seq ?_;refine sR 1700 ?_;refine AM ?_
 (refine By (λh20=>?_) (λh20=>?_))<;>(try simp only[Bi,Bv]at h20)<;>(try simp only[h20])
 ·obtain⟨j,rfl⟩:∃j,k=j+1:=⟨k-1,by
   have:(k:Int)-1>=0:=by simpa using h20
   omega⟩
  have wj:((j+1:Nat):Int)-1=(j:Int):=by omega
  obtain⟨p0,p1,p2,SI,hz,hP⟩:=mI I hvl wv v1 v2 h2 h1 (D8 v10) (by omega);have hA:(u.take j).length=j:=by rw[Bb,I.lU];omega
  have cs:=λn=>pZ (u.take j) ((u.drop j).take (m+3)) (u.drop (j+(m+3))) v m p0 p1 p2 v2 v1 SI (by rw[hA];omega) g 210 gu (q.map AR) n
  rw[hA,<-gH j (m+3)]at cs;obtain⟨z,hzq⟩:=CU (l:=q) (i:=j) (by rw[I.lQ];omega);have hz':=DT hzq;have hdl:AS ((u.drop j).take (m+3))/AS v<BB:=E9 SI.less;have wi:IntKind.i64.wrap ((j:Int)-1)=(j:Int)-1:=wI (by omega) (by omega);have wjn1:IntKind.i64.wrap ((j:Int)+((m+2:Nat):Int))=((j+(m+2):Nat):Int):=by rw[wI (by omega) (by omega)];omega
  have wjn2:IntKind.i64.wrap (((j+(m+2):Nat):Int)+1)=((j+(m+3):Nat):Int):=by rw[wI (by omega) (by omega)];omega
  have wraw:IntKind.i64.wrap (IntKind.i64.wrap ((j:Int)+((m+2:Nat):Int))+1)=((j+(m+3):Nat):Int):=by rw[wjn1,wjn2]
  have els:j+(m+3)-j=m+3:=LM _ _;have J:=λP' h1 h2 h3=>mH (P':=P') I vpos (by omega) (by omega) hz hP h1 h2 h3 hdl
  rw[wj];refine Ao ?_;refine AC.seq ?_;refine AC.block ?_;refine Ap w1 1900 (by kernel_rfl) ?_;refine AE (EQ wraw wjn1 wjn2 kN BV els) ?_;refine BE.own _ (cs _) ?_;rintro d H' n4 ⟨P',g1,g2,g3,rfl,rfl⟩;rw[SI.lP]at g1;refine AE (At kN BV hz') ?_;rw[map_set];refine Ap w1 1800 (by kernel_rfl) ?_;refine AV wi ?_;exact⟨(j,u.take j++(P'++u.drop (j+(m+3))),q.set j (AS ((u.drop j).take (m+3))/AS v),_),⟨by dsimp only;omega,J P' g1 g2 g3⟩,by dsimp only;omega,AL⟩
 ·have hk:k=0:=by
   have:¬((k:Int)-1>=0):=by simpa using h20
   omega
  subst hk;obtain⟨q1,q2⟩:=mG I vv;have D0:=jg I.wU q2 hs;have wu:=I.wU;have wqq:=I.wq;have lu:=I.lU;have lqq:=I.lQ;have hlt:AS u<BB^(m+2):=by
   have:=I.less
   rw[Fk]at this;have h:=Ho wv;rw[show v.length=m+2 from hvl]at h;omega
  clear I;refine CC ?_;refine AC.seq ?_;refine sR 2000 ?_;refine AC.block ?_;refine AC.loop (α:=Nat×List Nat×Nat) (λp=>⟨[(9,i64 s),(11,.osl 103 gu 1 0 (la.length+1)),(12,i64 ((m+2:Nat):Int)),(13,.osl 1505 g 1 0 (lq+1)),(96,i64 ((m+2:Nat):Int)),(97,i64 p.1)],[⟨1505,g,210,1,q.map AR⟩,⟨103,gu,210,1,p.2.1.map AR⟩],p.2.2⟩) (λp=>m+2-p.1)
   (λp=>p.1<=m+2/\Oh u p.2.1 s p.1) (0,u,_) ⟨BX _,D0⟩ AL ?_
  rintro⟨i,x,n4⟩ F ⟨hi,I⟩;dsimp only at hi I⊢;have xl:=I.len;refine sR 2100 ?_;refine AC.seq ?_;refine AM ?_
  (refine By (λhlt2=>?_) (λhlt2=>?_))<;>(try simp only[Bi,Bv]at hlt2)<;>(try simp only[hlt2])
  ·have hi2:i<m+2:=by
    have:=C6 hlt2
    omega
   obtain⟨c,hc⟩:=CU (l:=u) (i:=i) (by omega);obtain⟨d,hd⟩:=CU (l:=u) (i:=i+1) (by omega);have hcx:x[i]?=some c:=by rw[I.rest i (Ai _)];exact hc
   have hdx:x[i+1]?=some d:=by rw[I.rest (i+1) (by omega)];exact hd
   have hc':=DT hcx;have hcl:=wu c (Aw hc);have hdl:=wu d (Aw hd);have I2:=kG hs wu I hc hd;obtain⟨g1,g2,_⟩:=XF (d:=d) hs hcl;have esh:=NL c s (by omega);have wi:IntKind.i64.wrap ((i:Int)+1)=((i+1:Nat):Int):=wI (by omega) (by omega);refine Ao ?_;refine AC.seq ?_;refine AC.block ?_;refine sR 2200 ?_;refine sZ 2300 ?_;refine AE (BZ kN BV hc' esh) ?_;rw[map_set];have hxi:i<x.length:=by omega
   have h2c:((x.set i (c/2^s)).map AR)[i]?=some (AR (c/2^s)):=DT (Nl hxi);have h2d:((x.set i (c/2^s)).map AR)[i+1]?=some (AR d):=DT (by rw[Io (by omega)];exact hdx);refine AC.seq ?_;rcases Dh s with h0|h0
   ·have e24:decide ((s:Int)>0)=false:=Ah (by omega)
    have es0:x.set i (c/2^s+d%2^s*2^(64-s))=x.set i (c/2^s):=by
     rw[h0,MX,Nat.mod_one,G8,De]
    rw[es0]at I2;refine Ap w1 2400 (by kernel_rfl) ?_;refine AV e24 ?_;refine AE e24 ?_;refine AM ?_;refine Ao ?_;refine Ap w1 2600 (by kernel_rfl) ?_;refine AV wi ?_;exact⟨(i+1,x.set i (c/2^s),_),⟨hi2,I2⟩,by dsimp only;omega,AL⟩
   ·have e24:decide ((s:Int)>0)=true:=AZ (by omega)
    have e24':decide (((i+1:Nat):Int)<((la.length+1:Nat):Int))=true:=AZ (by omega);have w64:IntKind.i64.wrap (64-(s:Int))=((64-s:Nat):Int):=by rw[wI (by omega) (by omega)];omega
    have w640:(0:Int)<=IntKind.i64.wrap (64-(s:Int)):=by rw[w64];omega
    have e27:=PJ d (64-s) (by omega);have e28:HG .or .u64 ((c/2^s:Nat):Int) ((d*2^(64-s)%18446744073709551616:Nat):Int)=((c/2^s+d%2^s*2^(64-s):Nat):Int):=by
     rw[Vy _ _ (Db (GA _ _) hcl) (B4 _ (by decide)),g1]
    have hset:((x.set i (c/2^s)).map AR).set i (AR (c/2^s+d%2^s*2^(64-s)))=(x.set i (c/2^s+d%2^s*2^(64-s))).map AR:=by
     rw[map_set,List.set_set]
    refine Ap w1 2400 (by kernel_rfl) ?_;refine AV e24 ?_;refine AE (At e24 wi e24') ?_;refine AM ?_;refine B9 w1 2500 [0,1,2,3,4,5,6,7,8,9,10,11] [12,13,14] (by kernel_rfl) ?_;refine AE (CJ wi w64 e27 e28 kN BV (Ad h2c h2d)) ?_;refine EB rfl rfl ?_;refine NC rfl rfl rfl h2c ?_;refine AE hset ?_;refine Ap w1 2600 (by kernel_rfl) ?_;refine AV wi ?_;exact⟨(i+1,x.set i (c/2^s+d%2^s*2^(64-s)),_),⟨hi2,I2⟩,by dsimp only;omega,AL⟩
  ·have hi2:i=m+2:=by
    have:=DP hlt2
    omega
   subst hi2;have hr:=kE I (by omega) q2 hlt;have wx:=I.wd;refine CC ?_;refine AC.weak ⟨[(11,.sl false 1 (x.map AR)),(12,i64 ((m+2:Nat):Int)),(13,.sl false 1 (q.map AR))],[],_⟩ ⟨.drop (.drop .nil),⟨Zd (by omega),.refl _,Zd lqq,trivial⟩,Ai _⟩ ?_;have e4:List.take (m+2-0) (List.drop 0 (x.map AR))=(x.take (m+2)).map AR:=by
    rw[List.map_take];simp
   have e5:List.take (m+2) (x.map AR)=(x.take (m+2)).map AR:=by
    rw[List.map_take]
   have ex:(x.map AR).length=la.length+1:=by rw[Am];omega
   refine AC.seq ?_;refine B9 w1 2700 [0,1,2,3,4] [5,6,7] (by kernel_rfl) ?_;refine BP ?_;refine BU.same _ (trim_ok q wqq (by omega)) AI ?_;refine AE (BZ kN Nat.sub_zero (@Fk D) e5) ?_;refine BE.same _ (trim_ok (x.take (m+2)) (wx.take _) (by rw[Bb];omega)) AI ?_;refine BP ?_;refine Ak ?_;exact AK (by rw[q1,hr]) AA.out
theorem gI (a b:Nat)(hb:b≠0)(ha:(Af a).length<1000000)(hbl:(Af b).length<1000000):AJ C0 168 [wD a,wD b] (.tup [wD (a/b),wD (a%b)]):=by
 rcases BI a b with h|h
 ·exact kC a b h ha hbl
 ·rcases hl:(Af b).length with _|m
  ·have:=Jf b
   rw[hl]at this;simp at this;exact Ae this hb
  ·rcases m with _|m
   ·exact mJ a b h ha hl hb
   ·exact kD a b m h ha hl
set_option maxHeartbeats 2000000
theorem O8 {x:GI}(h:x.wf)(h0:x.z ≠ -9223372036854775808):x=AX x.z:=by
 obtain⟨z,sm⟩:=x;unfold AX
 congr 1
 cases sm with
 |true=>
  have:=h.1 rfl
  dsimp only at this h0⊢;exact(AZ (show Sm z from⟨by omega,by omega⟩)).symm
 |false=>
  have:=h.2 rfl
  exact(Ah this).symm
theorem Dq (z:Int):(AX z).z=z:=rfl
def D5 (x y:GI):GI×GI:=
 if x.sm=true/\y.sm=true/\x.z ≠ -9223372036854775808 then(⟨x.z/y.z,true⟩,⟨x.z%y.z,true⟩)
 else if x.z.tmod y.z<0 then(Im (AX (x.z.tdiv y.z)) ⟨1,true⟩,EE (AX (x.z.tmod y.z)) y)else(AX (x.z.tdiv y.z),AX (x.z.tmod y.z))
theorem jZ (a b:Int)(hb:0<b):(a.tmod b<0->a.tdiv b-1=a/b/\a.tmod b+b=a%b)/\(¬a.tmod b<0->a.tdiv b=a/b/\a.tmod b=a%b):=by
 have e1:=Int.tdiv_eq_ediv (a:=a) (b:=b);have e2:=Int.tmod_add_mul_tdiv a b;have e3:=Int.emod_add_mul_ediv a b;have e4:=Int.emod_nonneg a (show b≠0 by omega);have e5:=Int.emod_lt_of_pos a hb;have hsg:b.sign=1:=Int.sign_eq_one_of_pos hb;rw[hsg]at e1;split at e1
 ·rw[Int.add_zero]at e1
  rw[e1]at e2;constructor
  ·intro h;omega
  ·intro _;exact⟨e1,by omega⟩
 ·rename_i hc
  have hd:¬b ∣ a:=λh=>hc (Or.inr h)
  have hr:a%b≠0:=λh=>hd (Int.dvd_of_emod_eq_zero h)
  have e6:b*(a/b+1)=b*(a/b)+b:=by rw[Int.mul_add,Int.mul_one]
  rw[e1,e6]at e2;constructor
  ·intro _;exact⟨by omega,by omega⟩
  ·intro h;omega
theorem al {x y:GI}(hy:0<y.z):(D5 x y).1.z=x.z/y.z/\(D5 x y).2.z=x.z%y.z:=by
 obtain⟨f1,f2⟩:=jZ x.z y.z hy;unfold D5;split
 ·exact⟨rfl,rfl⟩
 ·split
  ·rename_i h
   rw[dc,ND];exact f1 h
  ·rename_i h
   exact f2 h
theorem Y8 {x y:GI}(hx:x.wf)(hy:y.wf)(h0:0<y.z):(D5 x y).1.wf/\(D5 x y).2.wf:=by
 unfold D5;split
 ·rename_i h
  have hx1:=hx.1 h.1;have hy1:=hy.1 h.2.1;obtain⟨_,_,h3⟩:=h;have hm:=Int.emod_lt_of_pos x.z h0;have hm2:=Int.emod_nonneg x.z (show y.z≠0 by omega);refine⟨⟨λ_=>?_,λh=>by cases h⟩,⟨λ_=>⟨by dsimp only;omega,by dsimp only;omega⟩,λh=>by cases h⟩⟩;dsimp only;have e3:=Int.emod_add_mul_ediv x.z y.z;constructor
  ·rcases Int.lt_or_le (x.z/y.z) (-9223372036854775808)with h|h
   ·exfalso
    have h8:y.z*(x.z/y.z+1)<=1*(x.z/y.z+1):=Int.mul_le_mul_of_nonpos_right (by omega) (by omega);rw[Int.mul_add,Int.mul_one]at h8;omega
   ·exact h
  ·rcases Int.lt_or_le (x.z/y.z) 9223372036854775808 with h|h
   ·exact h
   ·exfalso
    have h5:(1:Int)*(x.z/y.z)<=y.z*(x.z/y.z):=Int.mul_le_mul_of_nonneg_right (by omega) (by omega);omega
 ·split
  ·exact⟨Z8 _ _,Mr _ _⟩
  ·exact⟨Cj _,Cj _⟩
theorem lc (a b:Int)(hb:0<b):D6 (decide (a<0)) (a.natAbs/b.natAbs)=a.tdiv b/\D6 (decide (a<0)) (a.natAbs%b.natAbs)=a.tmod b:=by
 obtain⟨n,rfl⟩:∃n:Nat,b=n:=⟨b.natAbs,by omega⟩
 rw[ET]
 by_cases h:a<0
 ·obtain⟨m,rfl⟩:∃m:Nat,a = -(m:Int):=⟨a.natAbs,by omega⟩
  rw[AZ h,MU,ET,Int.neg_tdiv,Int.neg_tmod];exact⟨rfl,rfl⟩
 ·obtain⟨m,rfl⟩:∃m:Nat,a=(m:Int):=⟨a.natAbs,by omega⟩
  rw[Ah h,ET];exact⟨rfl,rfl⟩
theorem jf (x y:GI)(hx:x.wf)(hy:y.wf)(h0:0<y.z)(fx:x.few)(fy:y.few)(hn:¬(x.sm=true/\y.sm=true/\x.z ≠ -9223372036854775808)):
  AJ C0 251 [x.D,y.D] (.tup [(D5 x y).1.D,(D5 x y).2.D]):=by
 unfold D5;rw[AF hn];refine Aj.walk w1 Us rfl λF=>?_
 have cx:=Jh x hx;have cy:=Jh y hy;have cd:=gI x.z.natAbs y.z.natAbs (by omega) fx fy;obtain⟨t1,t2⟩:=lc x.z y.z h0;have lq:(Af (x.z.natAbs/y.z.natAbs)).length<1000000:=Db (Hi _ _ (GA _ _)) fx;have lr:(Af (x.z.natAbs%y.z.natAbs)).length<1000000:=Db (Hi _ _ (Nat.mod_le _ _)) fx;have c1:=Lx (decide (x.z<0)) (x.z.natAbs/y.z.natAbs) (GB lq (by decide));have c2:=Lx (decide (x.z<0)) (x.z.natAbs%y.z.natAbs) (GB lr (by decide));rw[t1]at c1;rw[t2]at c2;have fq:(AX (x.z.tdiv y.z)).few:=by
  show(Af (x.z.tdiv y.z).natAbs).length<1000000;rw[Int.natAbs_tdiv];exact lq
 have fr:(AX (x.z.tmod y.z)).few:=by
  show(Af (x.z.tmod y.z).natAbs).length<1000000;rw[Int.natAbs_tmod];exact lr
 have f1:(⟨1,true⟩:GI).few:=by show(Af 1).length<1000000;rw[Mg (by decide) (by decide)];decide
 have cg:=M8 (AX (x.z.tmod y.z)) (Cj _);have cs:=gC (AX (x.z.tdiv y.z)) ⟨1,true⟩ (Cj _) ⟨λ_=>⟨by decide,by decide⟩,λh=>by cases h⟩ fq f1;have ca:=O7 (AX (x.z.tmod y.z)) y (Cj _) hy fr fy;rw[Dq]at cg;have co:AJ C0 122 [i64 1] (⟨1,true⟩:GI).D:=CH Da 1000 40 (by kernel_rfl);have hpx:AA x.w:=AI;have hpy:AA y.w:=AI;have hpq:AA (AX (x.z.tdiv y.z)).w:=AI;have hpr:AA (AX (x.z.tmod y.z)).w:=AI;have hps:AA (Im (AX (x.z.tdiv y.z)) ⟨1,true⟩).w:=AI;have hpa:AA (EE (AX (x.z.tmod y.z)) y).w:=AI;have hp1:AA (⟨1,true⟩:GI).w:=AI;clear t1 t2 lq lr fq fr f1;dsimp only[GI.D]at*;refine fR 0 ?_;refine DU ⟨[(2,.optr 0 0 2 0 0),(3,.optr 1 1 2 0 0),(4,.optr 2 2 2 0 0),(5,.optr 3 3 2 0 0)],[⟨3,3,120,2,[C3 0]⟩,⟨2,2,120,2,[C3 0]⟩,⟨1,1,120,2,[.agg [i64 y.s,y.w]]⟩,⟨0,0,120,2,[.agg [i64 x.s,x.w]]⟩],90⟩ ?_ ?_
 ·obtain⟨a,sa⟩:=x
  obtain⟨b,sb⟩:=y;clear cx cy cd c1 c2 cg cs ca co hpq hpr hps hpa hp1;have nx:sa=false->(Af a.natAbs).map AR≠[]:=λh=>Hq (by
   intro h0;subst h;exact hx.2 rfl ⟨by dsimp only;omega,by dsimp only;omega⟩)
  have ny:sb=false->(Af b.natAbs).map AR≠[]:=λh=>Hq (by
   intro h0;subst h;exact hy.2 rfl ⟨by dsimp only;omega,by dsimp only;omega⟩)
  unfold GI.s GI.w wD wL at*;dsimp only at*;generalize(Af a.natAbs).map AR=ka at*;generalize(Af b.natAbs).map AR=kb at*;cases sa with
  |false=>
   have nx:=nx rfl;dsimp only at*;generalize(if a<0 then(-1:Int)else 1)=sg at*;generalize(match sb with|true=>b|false=>if b<0 then(-1:Int)else 1)=sh at*;generalize(match sb with|true=>CR|false=>D.sl false 1 kb)=wy at*;refine AC.seq ?_;refine Ap w1 100 (by kernel_rfl) ?_;refine AV (At (@ne_eq (List D)) nx EW) ?_;refine AE kT ?_;refine AE kT ?_;refine AE kT ?_;refine AM ?_;refine Ao ?_;exact And.intro (by trivial) (AL)
  |true=>
   dsimp only at*;cases sb with
   |false=>
    have ny:=ny rfl;dsimp only at*;generalize(if b<0 then(-1:Int)else 1)=sh at*;refine AC.seq ?_;refine Ap w1 100 (by kernel_rfl) ?_;refine AV (At (@ne_eq (List D)) ny EW) ?_;refine AE (BZ kT (@ne_eq (List D)) ny EW) ?_;refine AE (BZ kT (@ne_eq (List D)) ny EW) ?_;refine AE (BZ kT (@ne_eq (List D)) ny EW) ?_;refine AM ?_;refine Ao ?_;exact And.intro (by trivial) (AL)
   |true=>
    have ha:a = -9223372036854775808:=Dd λh=>hn ⟨rfl,rfl,h⟩
    subst ha;dsimp only at*;refine sZ 100 ?_
    repeat'(first|(refine And.intro (by exact Bx) ?_;refine An ?_)|((refine By (λhb=>?_) (λhb=>?_))<;>(try simp only[Bi,Bv]at hb)<;>(try simp only[hb])<;>(refine An ?_)))
    refine AM ?_;refine Ao ?_;exact And.intro (by trivial) (AL)
 ·refine fR 600 ?_
  refine dI cx ?_;refine fR 700 ?_;refine dI cy ?_;refine fR 800 ?_;refine dI cd ?_;refine fR 900 ?_;refine dI c1 ?_;refine dI c2 ?_;refine AC.seq ?_;refine fR 1000 ?_;refine dI cg ?_
  by_cases h:x.z.tmod y.z<0
  ·have e:decide (max (-1) (min 1 (x.z.tmod y.z))<0)=true:=AZ (by omega)
   rw[AH h,e];refine AM ?_;refine B9 w1 1100 [0,1,2,3,4] [5,6,7] (by kernel_rfl) ?_;refine CD ?_;refine BU.same _ (co) AI ?_;refine CD ?_;refine BU.same _ (cs) AI ?_;refine CD ?_;refine dI ca ?_;refine AC.seq ?_;refine Pd w1 1200 [0,1,2] [3] 2 [0] (2) (by kernel_rfl) (by kernel_rfl) ?_;refine CD ?_;refine CD ?_;refine Ak ?_;exact AK rfl AA.out
  ·have e:decide (max (-1) (min 1 (x.z.tmod y.z))<0)=false:=Ah (by omega)
   rw[AF h,e];refine AM ?_;refine Ao ?_;refine AC.seq ?_;refine Pd w1 1200 [0,1,2] [3] 2 [0] (2) (by kernel_rfl) (by kernel_rfl) ?_;refine CD ?_;refine CD ?_;refine Ak ?_;exact AK rfl AA.out
theorem Yc (x y:GI)(hx:x.wf)(hy:y.wf)(h0:0<y.z)(fx:x.few)(fy:y.few):AJ C0 251 [x.D,y.D] (.tup [(D5 x y).1.D,(D5 x y).2.D]):=by
 by_cases h:x.sm=true/\y.sm=true/\x.z ≠ -9223372036854775808
 ·unfold D5
  rw[AH h];obtain⟨a,sa⟩:=x;obtain⟨b,sb⟩:=y;obtain⟨h1,h2,h3⟩:=h;dsimp only at h1 h2 h3 h0;subst h1;subst h2;have ra:=hx.1 rfl;have rb:=hy.1 rfl;dsimp only at ra rb;exact kA a b h0 ⟨by omega,by omega⟩ ⟨by omega,by omega⟩
 ·exact jf x y hx hy h0 fx fy h
theorem fW (x y:GI)(hx:x.wf)(hy:y.wf)(h0:0<y.z)(fx:x.few)(fy:y.few):AJ C0 202 [x.D,y.D] (D5 x y).1.D:=by
 refine Aj.walk w1 bv rfl λF=>?_
 have cg:=M8 y hy;have cd:=Yc x y hx hy h0 fx fy;have e1:decide (max (-1) (min 1 y.z)<0)=false:=Ah (by omega);have hpx:AA x.w:=AI;have hpy:AA y.w:=AI;have hpq:AA (D5 x y).1.w:=AI;have hpr:AA (D5 x y).2.w:=AI;dsimp only[GI.D]at*;generalize(D5 x y).1.s=qs at*;generalize(D5 x y).1.w=qw at*;generalize(D5 x y).2.s=rs at*;generalize(D5 x y).2.w=rw at*;refine fR 0 ?_;refine AC.seq ?_;refine fR 100 ?_;refine dI cg ?_;rw[e1];refine AM ?_;refine Ao ?_;refine fR 300 ?_;refine dI cd ?_;refine fR 400 ?_;refine Ak ?_;exact AK rfl AA.out
theorem ZG (x:GI)(h:x.wf):MJ x=AX (x.z.natAbs:Nat):=by
 have h1:=nu x h;have h2:=qU x;rw[O8 h1 (by omega),h2]
theorem IS {n:Nat}(h:(Af n).length<1000000):(AX (n:Int)).few:=by
 show(Af (n:Int).natAbs).length<1000000;rw[ET];exact h
theorem Yb {a b:Nat}(hb:0<b):D5 (AX a) (AX b)=(AX ((a/b:Nat):Int),AX ((a%b:Nat):Int)):=by
 have hb':(0:Int)<(AX (b:Int)).z:=by show(0:Int)<(b:Int);omega
 obtain⟨h1,h2⟩:=Y8 (Cj a) (Cj b) hb';obtain⟨h3,h4⟩:=al (x:=AX a) hb';have e3:(D5 (AX a) (AX b)).1.z=((a/b:Nat):Int):=by rw[h3];exact(Int.natCast_ediv a b).symm
 have e4:(D5 (AX a) (AX b)).2.z=((a%b:Nat):Int):=by rw[h4];exact(Int.natCast_emod a b).symm
 have c3:=O8 h1 (by rw[e3];generalize a/b=q;omega);have c4:=O8 h2 (by rw[e4];generalize a%b=q;omega);rw[e3]at c3;rw[e4]at c4;generalize D5 (AX a) (AX b)=p at*;obtain⟨p1,p2⟩:=p;dsimp only at c3 c4;rw[c3,c4]
theorem eV (x y:GI)(hx:x.wf)(hy:y.wf)(fx:x.few)(fy:y.few):AJ C0 201 [x.D,y.D] (AX (Nat.gcd x.z.natAbs y.z.natAbs:Nat)).D:=by
 refine Aj.walk w1 bu rfl λF=>?_
 have c1:=di x hx fx;have c2:=di y hy fy;rw[ZG x hx]at c1;rw[ZG y hy]at c2;have hpx:AA x.w:=AI;have hpy:AA y.w:=AI;have hpm:∀n:Nat,AA (AX (n:Int)).w:=λn=>AI
 unfold GI.few at fx fy;generalize x.z.natAbs=a at*;generalize y.z.natAbs=b at*;dsimp only[GI.D]at*;refine fR 0 ?_;refine AC.seq ?_;refine B9 w1 100 [0,1,2] [3,4,5] (by kernel_rfl) ?_;refine CD ?_;refine BU.same _ (c1) AI ?_;refine CD ?_;refine dI c2 ?_;refine AC.seq ?_;refine AC.block ?_;refine AC.loop (α:=Nat×Nat×Nat) (λp=>⟨[(2,.optr 0 0 2 0 0),(3,.optr 1 1 2 0 0),(4,.optr 2 2 2 0 0)],[⟨2,2,120,2,[C3 0]⟩,⟨1,1,120,2,[.agg [i64 (AX (p.2.1:Int)).s,(AX (p.2.1:Int)).w]]⟩,⟨0,0,120,2,[.agg [i64 (AX (p.1:Int)).s,(AX (p.1:Int)).w]]⟩],p.2.2⟩) (λp=>p.2.1)
  (λp=>Nat.gcd p.1 p.2.1=Nat.gcd a b/\(Af p.1).length<1000000/\(Af p.2.1).length<1000000) (a,b,_) ⟨rfl,fx,fy⟩ AL ?_
 rintro⟨u,v,n⟩ F ⟨g1,g2,g3⟩;dsimp only at g1 g2 g3⊢;have cg:=M8 (AX (v:Int)) (Cj _);rw[Dq]at cg;dsimp only[GI.D]at cg;refine AC.seq ?_;refine fR 200 ?_;refine dI cg ?_;rcases Dh v with hv|hv
 ·subst hv
  have e2:(max (-1) (min 1 ((0:Nat):Int)) != 0)=false:=by decide
  rw[e2];refine AM ?_;refine CC ?_;refine fR 500 ?_;refine Ak ?_;refine AK ?_ AA.out;rw[<-g1,Nat.gcd_zero_right]
 ·have e2:(max (-1) (min 1 (v:Int)) != 0)=true:=by
   have:max (-1) (min 1 (v:Int))=1:=by omega
   rw[this];rfl
  have cd:=Yc (AX (u:Int)) (AX (v:Int)) (Cj _) (Cj _) (by show(0:Int)<(v:Int);omega) (IS g2) (IS g3);rw[Yb hv]at cd;dsimp only[GI.D]at cd;rw[e2];refine AM ?_;refine Ao ?_;refine AC.block ?_;refine fR 300 ?_;refine dI cd ?_;refine Pd w1 400 [0,1,2] [3] 2 [0] (0) (by kernel_rfl) (by kernel_rfl) ?_;refine CD ?_;refine CD ?_;have hm:u%v<v:=B4 u hv;refine⟨(v,u%v,_),⟨?_,g3,Db (Hi _ _ (Nat.mod_le _ _)) g2⟩,hm,AL⟩;rw[<-g1,Ns u v,Nat.gcd_rec v u,Ns]
structure GF where
 n:GI
 d:Nat
abbrev GF.D (x:GF):D:=.agg [i64 x.n.s,x.n.w,i64 (AX (x.d:Int)).s,(AX (x.d:Int)).w]
def IH (r:Rat)(x:GF):Prop:=x.n.wf/\x.n.z=r.num/\x.d=r.den
theorem oq {a b:Nat}(hb:0<b)(h:(Af b).length<1000000):(Af (Nat.gcd a b)).length<1000000:=Db (Hi _ _ (Nat.gcd_le_right _ hb)) h
def If (x:GI)(d:Nat):GF:=if d=1 then⟨x,1⟩else⟨(D5 x (AX (Nat.gcd x.z.natAbs d:Nat))).1,d/Nat.gcd x.z.natAbs d⟩
theorem Qi (x:GI)(d:Nat)(hx:x.wf)(hd:0<d):IH (mkRat x.z d) (If x d):=by
 have hg:0<Nat.gcd x.z.natAbs d:=Ps _ hd;have e:mkRat x.z d=Rat.normalize x.z d (by omega):=(Rat.normalize_eq_mkRat _).symm;rw[e,Rat.normalize_eq];unfold If;split
 ·rename_i h
  subst h;refine⟨hx,?_,?_⟩
  ·dsimp only;rw[Nat.gcd_one_right];simp
  ·dsimp only;rw[Nat.gcd_one_right]
 ·have hg':(0:Int)<(AX (Nat.gcd x.z.natAbs d:Nat)).z:=by show(0:Int)<(Nat.gcd x.z.natAbs d:Nat);omega
  exact⟨(Y8 hx (Cj _) hg').1,(al hg').1,rfl⟩
theorem U5:AX ((1:Nat):Int)=⟨1,true⟩:=Jt ⟨by decide,by decide⟩
theorem SB {d:Nat}(h:Sm (d:Int)):(AX (d:Int)).s=(d:Int)/\(AX (d:Int)).w=CR:=by rw[Jt h];exact⟨rfl,rfl⟩
theorem Vv {d:Nat}(h:¬Sm (d:Int)):(AX (d:Int)).s=1/\(AX (d:Int)).w=.sl false 1 ((Af d).map AR)/\(Af d).map AR≠[]:=by
 rw[U4 h];refine⟨?_,rfl,Hq ?_⟩
 ·show(if(d:Int)<0 then(-1:Int)else 1)=1
  rw[AF (by omega)]
 ·intro h0
  subst h0;exact h ⟨by decide,by decide⟩
def K8 (x y:GI):GF:=If (if y.z<0 then AX (-x.z)else x) y.z.natAbs
theorem n9 (x y:GI)(hx:x.wf)(h0:y.z≠0):IH (Rat.divInt x.z y.z) (K8 x y):=by
 unfold K8
 by_cases h:y.z<0
 ·rw[AH h]
  have:=Qi (AX (-x.z)) y.z.natAbs (Cj _) (by omega)
  rw[Dq]at this;have e:mkRat (-x.z) y.z.natAbs=Rat.divInt x.z y.z:=by
   obtain⟨k,hk⟩:∃k,y.z=Int.negSucc k:=by
    cases hy:y.z with
    |ofNat n=>rw[hy]at h;simp at h;omega
    |negSucc k=>exact⟨k,rfl⟩
   rw[hk];show mkRat (-x.z) (k+1)=_;exact(Rat.normalize_eq_mkRat (by omega)).symm
  rw[e]at this;exact this
 ·rw[AF h]
  have:=Qi x y.z.natAbs hx (by omega)
  have e:mkRat x.z y.z.natAbs=Rat.divInt x.z y.z:=by
   rw[<-Rat.divInt_ofNat];congr 1;omega
  rw[e]at this;exact this
theorem dH (x y:GI)(hx:x.wf)(hy:y.wf)(h0:y.z≠0)(fx:x.few)(fy:y.few):AJ C0 151 [x.D,y.D] (K8 x y).D:=by
 refine Aj.walk w1 aZ rfl λF=>?_
 have cg:=M8 y hy;have cn1:=PF x hx fx;have cn2:=PF y hy fy;obtain⟨x',hx'⟩:∃x',x'=if y.z<0 then AX (-x.z)else x:=⟨_,rfl⟩
 have wx':x'.wf:=by rw[hx'];split;exact Cj _;exact hx
 have fx':x'.few:=by rw[hx'];split;exact ZZ fx;exact fx
 have hd:0<y.z.natAbs:=by omega
 have fd:(Af y.z.natAbs).length<1000000:=fy;have fdg:=IS fd;have ey:y.z<0->AX (-y.z)=AX (y.z.natAbs:Int):=λh=>by congr 1;omega
 have ey':¬y.z<0->y=AX (y.z.natAbs:Int):=λh=>by
  rw[O8 hy (by omega)];show AX y.z=AX (y.z.natAbs:Int)
  congr 1;omega
 unfold K8;rw[<-hx'];generalize hdd:y.z.natAbs=d at*;have hpx:AA x.w:=AI;have hpy:AA y.w:=AI;have hpx':AA x'.w:=AI;have hpd:AA (AX (d:Int)).w:=AI;have hg:0<Nat.gcd x'.z.natAbs d:=Ps _ hd;have cc:=eV x' (AX (d:Int)) wx' (Cj _) fx' fdg;rw[Dq,ET]at cc;have fgg:(AX (Nat.gcd x'.z.natAbs d:Nat)).few:=IS (oq hd fd);have cq1:=fW x' (AX (Nat.gcd x'.z.natAbs d:Nat)) wx' (Cj _) (by show(0:Int)<(Nat.gcd x'.z.natAbs d:Nat);omega) fx' fgg;have cq2:=fW (AX (d:Int)) (AX (Nat.gcd x'.z.natAbs d:Nat)) (Cj _) (Cj _) (by show(0:Int)<(Nat.gcd x'.z.natAbs d:Nat);omega) fdg fgg;rw[Yb hg]at cq2;have hpg:AA (AX ((Nat.gcd x'.z.natAbs d:Nat):Int)).w:=AI;have hpq1:AA (D5 x' (AX (Nat.gcd x'.z.natAbs d:Nat))).1.w:=AI;have hpq2:AA (AX ((d/Nat.gcd x'.z.natAbs d:Nat):Int)).w:=AI;unfold If GF.D;dsimp only[GI.D]at*;refine fR 0 ?_;refine DU ⟨[(2,.optr 0 0 2 0 0),(3,.optr 1 1 2 0 0),(4,.optr 2 2 4 0 0)],[⟨2,2,122,4,[.agg [i64 0,CR,i64 0,CR]]⟩,⟨1,1,120,2,[.agg [i64 (AX (d:Int)).s,(AX (d:Int)).w]]⟩,⟨0,0,120,2,[.agg [i64 x'.s,x'.w]]⟩],90⟩ ?_ ?_
 ·by_cases h:y.z<0
  ·have e1:decide (max (-1) (min 1 y.z)<0)=true:=AZ (by omega)
   rw[AH h]at hx';subst hx';rw[<-ey h];refine fR 100 ?_;refine dI cg ?_;rw[e1];refine AM ?_;refine B9 w1 200 [0,1,2] [3,4,5] (by kernel_rfl) ?_;refine CD ?_;refine BU.same _ (cn1) AI ?_;refine CD ?_;refine dI cn2 ?_;exact⟨rfl,AL⟩
  ·have e1:decide (max (-1) (min 1 y.z)<0)=false:=Ah (by omega)
   rw[AF h]at hx';subst hx';have ey:=ey' h;refine fR 100 ?_;refine dI cg ?_;rw[e1];refine AM ?_;refine Ao ?_;rw[<-ey];exact⟨rfl,AL⟩
 by_cases h1:d=1
 ·subst h1
  rw[AH rfl,U5];refine AC.seq ?_;refine sZ 300 ?_
  repeat'(first|(refine And.intro (by exact Bx) ?_;refine An ?_)|((refine By (λhb=>?_) (λhb=>?_))<;>(try simp only[Bi,Bv]at hb)<;>(try simp only[hb])<;>(refine An ?_)))
  refine AM ?_;refine fR 400 ?_;refine Ak ?_;exact AK rfl AA.out
 ·rw[AF h1]
  refine DU ⟨[(2,.optr 0 0 2 0 0),(3,.optr 1 1 2 0 0),(4,.optr 2 2 4 0 0)],[⟨2,2,122,4,[.agg [i64 0,CR,i64 0,CR]]⟩,⟨1,1,120,2,[.agg [i64 (AX (d:Int)).s,(AX (d:Int)).w]]⟩,⟨0,0,120,2,[.agg [i64 x'.s,x'.w]]⟩],98⟩ ?_ ?_
  ·by_cases hs:Sm (d:Int)
   ·obtain⟨a1,a2⟩:=SB hs
    rw[a1,a2];have e2:((d:Int)==1)=false:=Bu.2 (by omega);refine sZ 300 ?_
    repeat'(first|(refine And.intro (by exact Bx) ?_;refine An ?_)|((refine By (λhb=>?_) (λhb=>?_))<;>(try simp only[Bi,Bv]at hb)<;>(try simp only[hb])<;>(refine An ?_)))
    try simp only[e2]
    refine AM ?_;refine Ao ?_;exact⟨rfl,⟨HF _,⟨.refl _,.refl _,.refl _,trivial⟩,Ai _⟩⟩
   ·obtain⟨a1,a2,a3⟩:=Vv hs
    rw[a1,a2];generalize(Af d).map AR=l at*;refine AC.seq ?_;refine Ap w1 300 (by kernel_rfl) ?_;refine AV (At (@ne_eq (List D)) a3 EW) ?_;refine AE kT ?_;refine AM ?_;refine Ao ?_;exact⟨rfl,⟨HF _,⟨.refl _,.refl _,.refl _,trivial⟩,Ai _⟩⟩
  ·refine fR 500 ?_
   refine dI cc ?_;refine AC.seq ?_;refine B9 w1 600 [0,1,2,3,4] [5,6,7] (by kernel_rfl) ?_;refine CD ?_;refine BU.same _ (cq1) AI ?_;refine CD ?_;refine dI cq2 ?_;refine Ak ?_;exact AK rfl AA.out
def rk (r:Rat)(k:Nat):Prop:=(Af r.num.natAbs).length<=k/\(Af r.den).length<=k
theorem rk.mono {r:Rat}{k l:Nat}(h:rk r k)(hl:k<=l):rk r l:=⟨BR h.1 hl,BR h.2 hl⟩
theorem Qw {n:Int}{d k:Nat}(hd:d≠0)(h1:(Af n.natAbs).length<=k)(h2:(Af d).length<=k):rk (Rat.normalize n d hd) k:=by
 rw[Rat.normalize_eq];exact⟨BR (Hi _ _ (Int.natAbs_ediv_le_natAbs _ _)) h1,BR (Hi _ _ (GA _ _)) h2⟩
theorem Kc (a b:Int):(Af (a*b).natAbs).length<=(Af a.natAbs).length+(Af b.natAbs).length:=by
 rw[Ni];exact Li _ _
theorem XS (a b:Int):(Af (a+b).natAbs).length<=max (Af a.natAbs).length (Af b.natAbs).length+1:=
 BR (Hi _ _ (Int.natAbs_add_le a b)) (Xp _ _)
theorem dX {a b:Rat}{i j:Nat}(ha:rk a i)(hb:rk b j):rk (a+b) (i+j+1):=by
 rw[Rat.add_def];have h1:=Kc a.num b.den;have h2:=Kc b.num a.den;have h3:=XS (a.num*b.den) (b.num*a.den);have h4:=Li a.den b.den;rw[ET]at h1 h2;obtain⟨a1,a2⟩:=ha;obtain⟨b1,b2⟩:=hb;exact Qw _ (by omega) (by omega)
theorem vJ {a b:Rat}{i j:Nat}(ha:rk a i)(hb:rk b j):rk (a*b) (i+j):=by
 rw[Rat.mul_def];have h1:=Kc a.num b.num;have h4:=Li a.den b.den;obtain⟨a1,a2⟩:=ha;obtain⟨b1,b2⟩:=hb;exact Qw _ (by omega) (by omega)
structure FR (r:Rat)(x:GF)(k:Nat):Prop where
 is:IH r x
 rk:rk r k
theorem FR.fn {r:Rat}{x:GF}{k:Nat}(h:FR r x k)(hk:k<1000000):x.n.few:=by
 show(Af x.n.z.natAbs).length<1000000;rw[h.is.2.1];have:=h.rk.1;omega
theorem FR.ln {r:Rat}{x:GF}{k:Nat}(h:FR r x k):(Af x.n.z.natAbs).length<=k:=by rw[h.is.2.1];exact h.rk.1
theorem FR.ld {r:Rat}{x:GF}{k:Nat}(h:FR r x k):(Af x.d).length<=k:=by rw[h.is.2.2];exact h.rk.2
theorem FR.dpos {r:Rat}{x:GF}{k:Nat}(h:FR r x k):0<x.d:=by rw[h.is.2.2];exact r.den_pos
theorem PX (x:GI)(d:Nat)(hx:x.wf)(fx:(Af x.z.natAbs).length<400000)(fd:(Af d).length<400000):AJ C0 152 [x.D,(AX (d:Int)).D] (AX (x.z*d)).D:=by
 have:=fg x (AX (d:Int)) hx (Cj _) fx (by rw[Dq,ET];exact fd)
 rwa [Dq]at this
theorem Vw (c d:Nat)(fc:(Af c).length<400000)(fd:(Af d).length<400000):AJ C0 152 [(AX (c:Int)).D,(AX (d:Int)).D] (AX ((c*d:Nat):Int)).D:=by
 have:=PX (AX (c:Int)) d (Cj _) (by rw[Dq,ET];exact fc) fd
 rw[Dq,<-F9]at this;exact this
theorem Yp (x:GI)(d:Nat)(hx:x.wf)(hd:0<d)(fx:x.few)(fd:(Af d).length<1000000):AJ C0 151 [x.D,(AX (d:Int)).D] (If x d).D:=by
 have:=dH x (AX (d:Int)) hx (Cj _) (by rw[Dq];omega) fx (IS fd)
 unfold K8 at this;rw[Dq,AF (by omega),ET]at this;exact this
theorem TC (x:GF)(hd:0<x.d):AJ C0 124 [x.D] (As (decide (x.d=1))):=by
 refine Aj.walk w1 aL rfl λF=>?_
 obtain⟨y,d⟩:=x;dsimp only[GF.D]at hd⊢;have hpy:AA y.w:=AI;generalize y.s=ys at*;generalize y.w=yw at*
 by_cases hs:Sm (d:Int)
 ·obtain⟨a1,a2⟩:=SB hs
  rw[a1,a2];have e2:((d:Int)==1)=decide (d=1):=by
   rw[Fm,EH,decide_eq_true_iff];omega
  refine fR 0 ?_;refine sZ 100 ?_
  repeat'(first|(refine And.intro (by exact Bx) ?_;refine An ?_)|((refine By (λhb=>?_) (λhb=>?_))<;>(try simp only[Bi,Bv]at hb)<;>(try simp only[hb])<;>(refine An ?_)))
  try simp only[e2]
  refine Ak ?_;exact AK rfl AA.out
 ·obtain⟨a1,a2,a3⟩:=Vv hs
  rw[a1,a2];have e2:decide (d=1)=false:=Ah λh=>hs (by rw[h];exact⟨by decide,by decide⟩)
  rw[e2];generalize(Af d).map AR=l at*;refine fR 0 ?_;refine AC.seq ?_;refine Ap w1 100 (by kernel_rfl) ?_;refine AV (At (@ne_eq (List D)) a3 EW) ?_;refine AE kT ?_;refine Ak ?_;exact AK rfl AA.out
def KC (x y:GF):GF:=if x.d=1/\y.d=1 then⟨EE x.n y.n,1⟩else If (EE (AX (x.n.z*y.d)) (AX (y.n.z*x.d))) (x.d*y.d)
theorem nv {a b:Rat}{x y:GF}(hx:IH a x)(hy:IH b y):IH (a+b) (KC x y):=by
 obtain⟨x1,x2,x3⟩:=hx;obtain⟨y1,y2,y3⟩:=hy;rw[Rat.add_def,Rat.normalize_eq_mkRat,<-x2,<-x3,<-y2,<-y3];unfold KC;split
 ·rename_i h
  rw[h.1,h.2];refine⟨Mr _ _,?_,?_⟩
  ·dsimp only
   rw[ND];show _=(mkRat (x.n.z*1+y.n.z*1) 1).num;rw[Int.mul_one,Int.mul_one,Rat.mkRat_one,Rat.num_intCast]
  ·dsimp only
   show _=(mkRat (x.n.z*1+y.n.z*1) 1).den;rw[Rat.mkRat_one,Rat.den_intCast]
 ·have:=Qi (EE (AX (x.n.z*y.d)) (AX (y.n.z*x.d))) (x.d*y.d) (Mr _ _) (Hd (by rw[x3];exact a.den_pos) (by rw[y3];exact b.den_pos))
  rw[ND,Dq,Dq]at this;exact this
theorem Z0 (x:GI):AJ C0 121 [x.D] (⟨x,1⟩:GF).D:=by
 refine Aj.walk w1 Um rfl λF=>?_
 have hpx:AA x.w:=AI;unfold GF.D;rw[U5];dsimp only[GI.D]at*;refine fR 0 ?_;refine AC.seq ?_;refine B9 w1 100 [0,1] [2,3] (by kernel_rfl) ?_;refine CD ?_;refine BU.same _ (PG 1) AI ?_;refine CD ?_;refine Ak ?_;exact AK rfl AA.out
theorem RG {a b:Rat}{x y:GF}{i j:Nat}(hx:FR a x i)(hy:FR b y j)(hk:i+j<300000):AJ C0 113 [x.D,y.D] (KC x y).D:=by
 refine Aj.walk w1 aG rfl λF=>?_
 have v1:=TC x hx.dpos;have v2:=TC y hy.dpos;have l1:=hx.ln;have l2:=hy.ln;have l3:=hx.ld;have l4:=hy.ld;have dp:=Hd hx.dpos hy.dpos;have m1:=PX x.n y.d hx.is.1 (by omega) (by omega);have m2:=PX y.n x.d hy.is.1 (by omega) (by omega);have m3:=Vw x.d y.d (by omega) (by omega);have z1:=Kc x.n.z y.d;have z2:=Kc y.n.z x.d;rw[ET]at z1 z2;have z3:=XS (x.n.z*y.d) (y.n.z*x.d);have z4:=Li x.d y.d;have s1:=O7 (AX (x.n.z*y.d)) (AX (y.n.z*x.d)) (Cj _) (Cj _) (by show(Af (x.n.z*y.d).natAbs).length<1000000;omega) (by show(Af (y.n.z*x.d).natAbs).length<1000000;omega);have s0:=O7 x.n y.n hx.is.1 hy.is.1 (hx.fn (by omega)) (hy.fn (by omega));have mk:=Yp (EE (AX (x.n.z*y.d)) (AX (y.n.z*x.d))) (x.d*y.d) (Mr _ _) dp (by
  show(Af (EE (AX (x.n.z*y.d)) (AX (y.n.z*x.d))).z.natAbs).length<1000000;rw[ND,Dq,Dq];omega) (by omega)
 have wg:=Z0 (EE x.n y.n);have hp1:AA x.n.w:=AI;have hp2:AA y.n.w:=AI;have hp3:AA (AX (x.d:Int)).w:=AI;have hp4:AA (AX (y.d:Int)).w:=AI;have hp5:AA (EE x.n y.n).w:=AI;have hp6:AA (EE (AX (x.n.z*y.d)) (AX (y.n.z*x.d))).w:=AI;have hp7:AA (AX (x.n.z*y.d)).w:=AI;have hp8:AA (AX (y.n.z*x.d)).w:=AI;have hp9:AA (AX ((x.d*y.d:Nat):Int)).w:=AI;have hq1:AA (If (EE (AX (x.n.z*y.d)) (AX (y.n.z*x.d))) (x.d*y.d)).n.w:=AI;have hq2:AA (AX ((If (EE (AX (x.n.z*y.d)) (AX (y.n.z*x.d))) (x.d*y.d)).d:Int)).w:=AI;have hq3:AA (AX ((1:Nat):Int)).w:=AI;unfold KC;clear z1 z2 z3 z4 l1 l2 l3 l4 dp hk hx hy;dsimp only[GI.D,GF.D]at*
 by_cases e1:x.d=1
 ·have fb:decide (x.d=1)=true:=AZ e1
  rw[fb]at v1
  by_cases e2:y.d=1
  ·have fd:decide (y.d=1)=true:=AZ e2
   rw[fd]at v2;rw[AH ⟨e1,e2⟩];refine fR 0 ?_;refine AC.seq ?_;refine fR 100 ?_;refine dI v1 ?_;dsimp only[NJ];refine CD ?_;dsimp only[NJ];refine CD ?_;refine dI v2 ?_;refine AM ?_;refine fR 200 ?_;refine dI s0 ?_;refine dI wg ?_;refine Ak ?_;exact AK rfl AA.out
  ·have fd:decide (y.d=1)=false:=Ah e2
   rw[fd]at v2;rw[AF λh=>e2 h.2];refine fR 0 ?_;refine AC.seq ?_;refine fR 100 ?_;refine dI v1 ?_;dsimp only[NJ];refine CD ?_;dsimp only[NJ];refine CD ?_;refine dI v2 ?_;refine AM ?_;refine Ao ?_;refine AC.seq ?_;refine B9 w1 300 [0,1,2,3,4,5,6,7,8,9,10,11,12,13,14] [15,16,17] (by kernel_rfl) ?_;refine CD ?_;refine BU.same _ (m1) AI ?_;refine CD ?_;refine BU.same _ (m2) AI ?_;refine CD ?_;refine BU.same _ (s1) AI ?_;refine CD ?_;refine dI m3 ?_;refine dI mk ?_;refine Ak ?_;exact AK rfl AA.out
 ·have fb:decide (x.d=1)=false:=Ah e1
  rw[fb]at v1;rw[AF λh=>e1 h.1];refine fR 0 ?_;refine AC.seq ?_;refine fR 100 ?_;refine dI v1 ?_;dsimp only[Rs];refine CD ?_;dsimp only[Rs];refine CD ?_;refine AM ?_;refine Ao ?_;refine AC.seq ?_;refine B9 w1 300 [0,1,2,3,4,5,6,7,8,9,10,11,12,13,14] [15,16,17] (by kernel_rfl) ?_;refine CD ?_;refine BU.same _ (m1) AI ?_;refine CD ?_;refine BU.same _ (m2) AI ?_;refine CD ?_;refine BU.same _ (s1) AI ?_;refine CD ?_;refine dI m3 ?_;refine dI mk ?_;refine Ak ?_;exact AK rfl AA.out
theorem Qz {a b:Rat}{x y:GF}{i j:Nat}(hx:FR a x i)(hy:FR b y j):FR (a+b) (KC x y) (i+j+1):=⟨nv hx.is hy.is,dX hx.rk hy.rk⟩
def Il (x y:GF):GF:=If (AX (x.n.z*y.n.z)) (x.d*y.d)
theorem pk {a b:Rat}{x y:GF}(hx:IH a x)(hy:IH b y):IH (a*b) (Il x y):=by
 obtain⟨x1,x2,x3⟩:=hx;obtain⟨y1,y2,y3⟩:=hy;rw[Rat.mul_def,Rat.normalize_eq_mkRat,<-x2,<-x3,<-y2,<-y3]
 have:=Qi (AX (x.n.z*y.n.z)) (x.d*y.d) (Cj _) (Hd (by rw[x3];exact a.den_pos) (by rw[y3];exact b.den_pos))
 rw[Dq]at this;exact this
theorem T6 {a b:Rat}{x y:GF}{i j:Nat}(hx:FR a x i)(hy:FR b y j):FR (a*b) (Il x y) (i+j):=⟨pk hx.is hy.is,vJ hx.rk hy.rk⟩
theorem Uk {a b:Rat}{x y:GF}{i j:Nat}(hx:FR a x i)(hy:FR b y j)(hk:i+j<300000):AJ C0 112 [x.D,y.D] (Il x y).D:=by
 refine Aj.walk w1 aF rfl λF=>?_
 have l1:=hx.ln;have l2:=hy.ln;have l3:=hx.ld;have l4:=hy.ld;have dp:=Hd hx.dpos hy.dpos;have z1:=Kc x.n.z y.n.z;have z4:=Li x.d y.d;have m1:=fg x.n y.n hx.is.1 hy.is.1 (by omega) (by omega);have m3:=Vw x.d y.d (by omega) (by omega);have mk:=Yp (AX (x.n.z*y.n.z)) (x.d*y.d) (Cj _) dp (by show(Af (x.n.z*y.n.z).natAbs).length<1000000;omega) (by omega);have p1:AA x.n.w:=AI;have p2:AA y.n.w:=AI;have p3:AA (AX (x.d:Int)).w:=AI;have p4:AA (AX (y.d:Int)).w:=AI;have p5:AA (AX (x.n.z*y.n.z)).w:=AI;have p6:AA (AX ((x.d*y.d:Nat):Int)).w:=AI;have p7:AA (If (AX (x.n.z*y.n.z)) (x.d*y.d)).n.w:=AI;have p8:AA (AX ((If (AX (x.n.z*y.n.z)) (x.d*y.d)).d:Int)).w:=AI;unfold Il;clear l1 l2 l3 l4 dp z1 z4 hx hy;dsimp only[GI.D,GF.D]at*;refine fR 0 ?_;refine AC.seq ?_;refine B9 w1 100 [0,1,2,3,4,5,6,7,8] [9,10,11] (by kernel_rfl) ?_;refine CD ?_;refine BU.same _ (m1) AI ?_;refine CD ?_;refine dI m3 ?_;refine dI mk ?_;refine Ak ?_;exact AK rfl AA.out
def J9 (x:GF):GF:=K8 (AX (x.d:Int)) x.n
theorem oN {a:Rat}{x:GF}(hx:IH a x)(h0:a≠0):IH a⁻¹ (J9 x):=by
 obtain⟨x1,x2,x3⟩:=hx;have hn:x.n.z≠0:=by
  rw[x2];intro h;exact h0 (Rat.num_eq_zero.1 h)
 rw[Rat.inv_def,<-x2,<-x3];exact n9 (AX (x.d:Int)) x.n (Cj _) hn
theorem vI {a:Rat}{k:Nat}(h:rk a k)(h0:a≠0):rk a⁻¹ k:=by
 rw[Rat.inv_def];obtain⟨h1,h2⟩:=h;have hn:a.num≠0:=λh=>h0 (Rat.num_eq_zero.1 h)
 rcases Int.lt_or_gt_of_ne hn with h|h
 ·obtain⟨m,hm⟩:∃m,a.num=Int.negSucc m:=by
   cases hy:a.num with
   |ofNat n=>rw[hy]at h;simp at h;omega
   |negSucc k=>exact⟨k,rfl⟩
  rw[hm]at h1⊢;exact Qw (n:=-(a.den:Int)) (d:=m+1) (by omega) (by rw[MU,ET];exact h2) h1
 ·obtain⟨m,hm⟩:∃m:Nat,a.num=(m:Int):=⟨a.num.natAbs,by omega⟩
  rw[hm]at h1 h⊢;rw[Rat.divInt_ofNat,<-Rat.normalize_eq_mkRat (by omega)];exact Qw _ (by rw[ET];exact h2) (by rw[ET]at h1;exact h1)
theorem ZP {a:Rat}{x:GF}{k:Nat}(h:FR a x k)(h0:a≠0):FR a⁻¹ (J9 x) k:=⟨oN h.is h0,vI h.rk h0⟩
theorem rH {a:Rat}{x:GF}{k:Nat}(h:FR a x k)(h0:a≠0)(hk:k<1000000):AJ C0 181 [x.D] (J9 x).D:=by
 refine Aj.walk w1 bn rfl λF=>?_
 have l3:=h.ld;have hn:x.n.z≠0:=by
  rw[h.is.2.1];intro h;exact h0 (Rat.num_eq_zero.1 h)
 have mk:=dH (AX (x.d:Int)) x.n (Cj _) h.is.1 hn (IS (by omega)) (h.fn hk);have p1:AA x.n.w:=AI;have p3:AA (AX (x.d:Int)).w:=AI;have p7:AA (K8 (AX (x.d:Int)) x.n).n.w:=AI;have p8:AA (AX ((K8 (AX (x.d:Int)) x.n).d:Int)).w:=AI;unfold J9;dsimp only[GI.D,GF.D]at*;refine fR 0 ?_;refine fR 100 ?_;refine dI mk ?_;refine Ak ?_;exact AK rfl AA.out
def R5 (x y:GF):GF:=Il x (J9 y)
theorem ob {a b:Rat}{x y:GF}{i j:Nat}(hx:FR a x i)(hy:FR b y j)(h0:b≠0):FR (a/b) (R5 x y) (i+j):=by
 rw[Rat.div_def];exact T6 hx (ZP hy h0)
theorem rF {a b:Rat}{x y:GF}{i j:Nat}(hx:FR a x i)(hy:FR b y j)(h0:b≠0)(hk:i+j<300000):AJ C0 139 [x.D,y.D] (R5 x y).D:=by
 refine Aj.walk w1 aS rfl λF=>?_
 have c1:=rH hy h0 (by omega);have c2:=Uk hx (ZP hy h0) hk;have p1:AA x.n.w:=AI;have p2:AA y.n.w:=AI;have p3:AA (AX (x.d:Int)).w:=AI;have p4:AA (AX (y.d:Int)).w:=AI;have p5:AA (J9 y).n.w:=AI;have p6:AA (AX ((J9 y).d:Int)).w:=AI;have p7:AA (Il x (J9 y)).n.w:=AI;have p8:AA (AX ((Il x (J9 y)).d:Int)).w:=AI;unfold R5;dsimp only[GI.D,GF.D]at*;refine fR 0 ?_;refine AC.seq ?_;refine B9 w1 100 [0,1,2] [3,4] (by kernel_rfl) ?_;refine CD ?_;refine BU.same _ (c1) AI ?_;refine CD ?_;refine dI c2 ?_;refine Ak ?_;exact AK rfl AA.out
def MN (a b:Rat):Int:=if a<b then -1 else if b<a then 1 else 0
theorem rt (a b:Rat):D4 (a.num*b.den) (b.num*a.den)=MN a b:=by
 unfold D4 MN;simp only[Rat.lt_iff]
theorem rE {a b:Rat}{x y:GF}{i j:Nat}(hx:FR a x i)(hy:FR b y j)(hk:i+j<300000):AJ C0 240 [x.D,y.D] (i64 (MN a b)):=by
 refine Aj.walk w1 bK rfl λF=>?_
 have l1:=hx.ln;have l2:=hy.ln;have l3:=hx.ld;have l4:=hy.ld;have m1:=PX x.n y.d hx.is.1 (by omega) (by omega);have m2:=PX y.n x.d hy.is.1 (by omega) (by omega);have z1:=Kc x.n.z y.d;have z2:=Kc y.n.z x.d;rw[ET]at z1 z2;have cm:=xO (AX (x.n.z*y.d)) (AX (y.n.z*x.d)) (Cj _) (Cj _) (by show(Af (x.n.z*y.d).natAbs).length<1000000;omega) (by show(Af (y.n.z*x.d).natAbs).length<1000000;omega);have e:D4 (AX (x.n.z*y.d)).z (AX (y.n.z*x.d)).z=MN a b:=by
  rw[Dq,Dq,<-rt,hx.is.2.1,hx.is.2.2,hy.is.2.1,hy.is.2.2]
 rw[e]at cm;have p1:AA x.n.w:=AI;have p2:AA y.n.w:=AI;have p3:AA (AX (x.d:Int)).w:=AI;have p4:AA (AX (y.d:Int)).w:=AI;have p5:AA (AX (x.n.z*y.d)).w:=AI;have p6:AA (AX (y.n.z*x.d)).w:=AI;clear l1 l2 l3 l4 z1 z2 e hx hy;dsimp only[GI.D,GF.D]at*;refine fR 0 ?_;refine AC.seq ?_;refine B9 w1 100 [0,1,2,3,4,5,6,7,8] [9,10,11] (by kernel_rfl) ?_;refine CD ?_;refine BU.same _ (m1) AI ?_;refine CD ?_;refine dI m2 ?_;refine dI cm ?_;refine Ak ?_;exact AK rfl AA.out
def Gy (a:Rat):Int:=max (-1) (min 1 a.num)
theorem Zc {a:Rat}{x:GF}(hx:IH a x):AJ C0 183 [x.D] (i64 (Gy a)):=by
 refine Aj.walk w1 bp rfl λF=>?_
 have cg:=M8 x.n hx.1;rw[hx.2.1]at cg;have p1:AA x.n.w:=AI;have p3:AA (AX (x.d:Int)).w:=AI;unfold Gy;dsimp only[GI.D,GF.D]at*;refine fR 0 ?_;refine fR 100 ?_;refine dI cg ?_;refine Ak ?_;exact AK rfl AA.out
abbrev sb (l:List UInt8):ByteArray:=⟨l.toArray⟩
theorem Ci (l:List UInt8):(sb l).size=l.length:=by simp[ByteArray.size]
theorem Ew (l:List UInt8)(i j:Nat):(sb l).extract i j=sb ((l.take j).drop i):=by
 apply ByteArray.ext;rw[ByteArray.data_extract];simp[List.drop_take]
theorem Z5 (l:List UInt8):(sb l).toList=l:=by
 rw[ByteArray.toList_eq]
theorem E2 (l m:List UInt8):BF (sb l) (sb m)=decide (l=m):=by
 unfold BF;rw[Z5,Z5,Fm,EH,decide_eq_true_iff]
def DN (l:List UInt8):Bool:=match l with
 | []=>false
 |c::_=>c==45
def Bo (l:List UInt8):List UInt8:=if DN l then l.drop 1 else l
def BK (l:List UInt8):Nat:=(l.takeWhile (· != 47)).length
theorem Lc (l:List UInt8):BK l<=l.length:=by
 unfold BK;exact(List.takeWhile_sublist _).length_le
theorem i7 (l:List UInt8):Lib.indexByte l 47=if BK l<l.length then(BK l:Int)else -1:=by
 induction l with
 |nil=>rfl
 |cons c l ih=>
  unfold Lib.indexByte
  by_cases h:c=47
  ·subst h
   simp[BK]
  ·have e1:BK (c::l)=BK l+1:=by
    unfold BK;rw[Po,AH (by simpa using h),Bp]
   have hb:(c==47)=false:=by simpa using h
   rw[hb,ih,e1,Bp]
   by_cases h2:BK l<l.length
   ·have h3:BK l+1<l.length+1:=by omega
    have h4:(((BK l:Nat):Int) == -1)=false:=Bu.2 (by omega);simp only[h2,h3,h4,if_true,ID,if_false];omega
   ·have h3:¬BK l+1<l.length+1:=by omega
    simp only[h2,h3,ID,if_false];rfl
theorem XO (l:List UInt8)(hl:l.length<=1000000000):AJ C0 247 [str (sb l),str (sb [45])] (As (DN l)):=by
 refine Aj.walk w1 bN rfl λF=>?_
 have hsz:=Ci l;have hs1:=Ci [45];refine sR 0 ?_;refine AC.seq ?_;cases l with
 |nil=>
  have e1:decide (((sb []).size:Int)>=((sb [45]).size:Int))=false:=rfl;refine Ap w1 100 (by kernel_rfl) ?_;refine AV e1 ?_;refine AE e1 ?_;refine AE e1 ?_;refine Ak ?_;exact AK rfl AA.out
 |cons c l=>
  have e1:decide (((sb (c::l)).size:Int)>=((sb [45]).size:Int))=true:=AZ (by rw[hsz,hs1];simp only[Bp,G5];omega);have e2:(sb (c::l)).extract 0 ((((sb [45]).size:Nat):Int)).toNat=sb [c]:=by rw[Ew];rfl
  have e3:BF (sb [c]) (sb [45])=DN (c::l):=by
   rw[E2,DN,Fm,decide_eq_true_iff,EH];simp
  have h0:(0:Int)<=((sb [45]).size:Int):=by omega
  have h1:((sb [45]).size:Int)<=((sb (c::l)).size:Int):=by rw[hsz,hs1];simp only[Bp,G5];omega
  refine Ap w1 100 (by kernel_rfl) ?_;refine AV e1 ?_;refine AE (At e1 e2 e3) ?_;refine AE (At e1 e2 e3) ?_;refine Ak ?_;exact AK rfl AA.out
theorem iZ (l:List UInt8)(hl:l.length<=1000000000):AJ C0 196 [str (sb l),str (sb [45])] (As (DN l)):=by
 refine Aj.walk w1 bs rfl λF=>?_
 have c1:=XO l hl;generalize sb l=s at*;generalize DN l=b at*;refine fR 0 ?_;refine fR 100 ?_;refine dI c1 ?_;refine Ak ?_;exact AK rfl AA.out
theorem jL (l:List UInt8)(hl:l.length<=1000000000):AJ C0 223 [str (sb l),str (sb [45])] (str (sb (Bo l))):=by
 refine Aj.walk w1 ce rfl λF=>?_
 have c1:=XO l hl;have hsz:=Ci l;unfold Bo;refine sR 0 ?_;refine AC.seq ?_;refine sR 100 ?_;refine cI c1 ?_;rcases hb:DN l with _|_
 ·rw[AF (by simp)]
  refine AM ?_;refine Ao ?_;refine sR 300 ?_;refine Ak ?_;exact AK rfl AA.out
 ·rw[AH rfl]
  have h1:(0:Int)<=((sb [45]).size:Int):=by omega
  have h2:((sb [45]).size:Int)<=((sb l).size:Int):=by
   rw[hsz];show(1:Int)<=_;cases l with
   |nil=>cases hb
   |cons c l=>simp only[Bp];omega
  have e2:(sb l).extract (((sb [45]).size:Nat):Int).toNat (sb l).size=sb (l.drop 1):=by
   rw[Ew,hsz,CE (Ai _)];rfl
  refine AM ?_;refine sZ 200 ?_;refine AV e2 ?_;refine Ak ?_;exact AK rfl AA.out
theorem So (l:List UInt8)(hl:l.length<=1000000000):AJ C0 165 [str (sb l),str (sb [45])] (str (sb (Bo l))):=by
 refine Aj.walk w1 ba rfl λF=>?_
 have c1:=jL l hl;generalize sb l=s at*;generalize sb (Bo l)=t at*;refine fR 0 ?_;refine fR 100 ?_;refine dI c1 ?_;refine Ak ?_;exact AK rfl AA.out
theorem jn (l:List UInt8):AJ C0 275 [str (sb l),.prim (.int .u8 47)] (i64 (if BK l<l.length then(BK l:Int)else -1)):=by
 refine Aj.walk w1 bQ rfl λF=>?_
 have e1:firstIdx (sb l) (((47:Int)).toNat.toUInt8)=(if BK l<l.length then(BK l:Int)else -1):=by
  rw[Lib.firstIdx_eq];exact i7 l
 generalize(if BK l<l.length then(BK l:Int)else -1)=r at*;refine fR 0 ?_;refine AC.seq ?_;refine Ap w1 100 (by kernel_rfl) ?_;refine AV e1 ?_;refine Ak ?_;exact AK rfl AA.out
theorem mX (l:List UInt8)(hl:l.length<=1000000000):AJ C0 246 [str (sb l),str (sb [47])] (i64 (if BK l<l.length then(BK l:Int)else -1)):=by
 refine Aj.walk w1 bM rfl λF=>?_
 have c1:=jn l;have eS:=E2 [47] l;have hr:[47]=l->(if BK l<l.length then(BK l:Int)else -1)=0:=λh=>by subst h;rfl
 generalize(if BK l<l.length then(BK l:Int)else -1)=r at*;have e0:(((sb [47]).size:Int)==0)=false:=rfl;have e1:(((sb [47]).size:Int)==1)=true:=rfl;have hx:(((sb [47]).data.toList.getD ((0:Int)).toNat 0).toNat:Int)=47:=rfl;refine sR 0 ?_;refine sR 100 ?_;refine AC.seq ?_;refine AC.block ?_
 by_cases h:[47]=l
 ·rw[AZ h]at eS
  have hr:=hr h;subst hr;refine sZ 200 ?_;refine AV e0 ?_;refine AE (At e0 kF eS) ?_;refine AE (At e0 kF eS) ?_;refine AM ?_;refine sR 300 ?_;refine Ak ?_;exact AK rfl AA.out
 ·rw[Ah h]at eS
  refine sZ 200 ?_;refine AV e0 ?_;refine AE (At e0 kF eS) ?_;refine AE (At e0 kF eS) ?_;refine AM ?_;refine sZ 400 ?_;refine AV e1 ?_;refine AM ?_;refine sZ 500 ?_;refine AV hx ?_;refine cI c1 ?_;refine Ak ?_;exact AK rfl AA.out
theorem yq (l:List UInt8)(hl:l.length<=1000000000):AJ C0 195 [str (sb l),str (sb [47])] (.tup [str (sb (l.take (BK l))),str (sb (l.drop (BK l+1))),As (decide (BK l<l.length))]):=by
 refine Aj.walk w1 br rfl λF=>?_
 have c1:=mX l hl;have hsz:=Ci l;have hle:=Lc l;refine sR 0 ?_
 by_cases h:BK l<l.length
 ·rw[AH h]at c1
  have e1:decide (((BK l:Nat):Int)>=0)=true:=AZ (by omega);have e2:(sb l).extract 0 (((BK l:Nat):Int)).toNat=sb (l.take (BK l)):=by rw[Ew];rfl
  have w3:IntKind.i64.wrap (((BK l:Nat):Int)+((sb [47]).size:Int))=((BK l+1:Nat):Int):=by
   show IntKind.i64.wrap (((BK l:Nat):Int)+1)=_;rw[wI (by omega) (by omega)];omega
  have e3:(sb l).extract (((BK l+1:Nat):Int)).toNat (sb l).size=sb (l.drop (BK l+1)):=by
   rw[Ew,hsz,CE (Ai _)];rfl
  rw[AZ h];refine AC.seq ?_;refine sR 100 ?_;refine cI c1 ?_;refine sZ 200 ?_;refine AV e1 ?_;refine AM ?_;refine AC.seq ?_;refine B9 w1 300 [0,1,2,3,4,5,6,7,8,9] [10,11] (by kernel_rfl) ?_;refine AE (At w3 e2 e3) ?_;refine Ak ?_;exact AK rfl AA.out
 ·rw[AF h]at c1
  have hk:BK l=l.length:=by omega
  have e1:decide (((-1:Int))>=0)=false:=rfl;rw[Ah h,hk,CE (Ai _),Hb (by omega)];refine AC.seq ?_;refine sR 100 ?_;refine cI c1 ?_;refine sZ 200 ?_;refine AV e1 ?_;refine AM ?_;refine Ao ?_;refine sR 400 ?_;refine Ak ?_;exact AK rfl AA.out
theorem ak (l:List UInt8)(hl:l.length<=1000000000):AJ C0 149 [str (sb l),str (sb [47])] (.tup [str (sb (l.take (BK l))),str (sb (l.drop (BK l+1))),As (decide (BK l<l.length))]):=by
 refine Aj.walk w1 aX rfl λF=>?_
 have c1:=yq l hl;generalize sb l=s at*;generalize sb (l.take (BK l))=t at*;generalize sb (l.drop (BK l+1))=u at*;generalize decide (BK l<l.length)=b at*;refine fR 0 ?_;refine fR 100 ?_;refine dI c1 ?_;refine Ak ?_;exact AK rfl AA.out
theorem pE (a b:Nat)(ha:a<=9223372036854775807)(hb:b<=9223372036854775807):AJ C0 217 [i64 a,i64 b] (i64 (Nat.gcd a b:Nat)):=by
 refine Aj.walk w1 sM rfl λF=>?_
 refine fR 0 ?_;refine AC.seq ?_;refine AC.block ?_;refine AC.loop (α:=Nat×Nat×Nat) (λp=>⟨[(0,i64 p.1),(1,i64 p.2.1)],[],p.2.2⟩) (λp=>p.2.1) (λp=>Nat.gcd p.1 p.2.1=Nat.gcd a b/\p.1<=9223372036854775807/\p.2.1<=9223372036854775807) (a,b,_) ⟨rfl,ha,hb⟩ AL ?_;rintro⟨x,y,n⟩ F ⟨h1,h2,h3⟩;dsimp only at h1 h2 h3⊢;refine AC.seq ?_;refine fR 100 ?_;refine AM ?_
 (refine By (λhy=>?_) (λhy=>?_))<;>(try simp only[Bi,Bv]at hy)<;>(try simp only[hy])
 ·have hy':(y:Int)>0:=by simpa using hy
  refine Ao ?_;refine AC.block ?_;refine B9 w1 200 [0,1,2,3,4] [5] (by kernel_rfl) ?_;refine CD ?_
  have:(x:Int).tmod y=((x%y:Nat):Int):=rfl
  rw[this];refine⟨(y,x%y,_),⟨?_,h3,?_⟩,?_,AL⟩
  ·rw[<-h1,Ns x y,Nat.gcd_rec y x,Ns]
  ·have:=B4 x (show y>0 by omega);dsimp only;omega
  ·exact B4 x (show y>0 by omega)
 ·have hy':y=0:=by simp at hy;omega
  subst hy';refine CC ?_;refine fR 300 ?_;refine Ak ?_;refine AK ?_ AA.out;rw[<-h1,Nat.gcd_zero_right]
def MP (least:Nat)(l:List UInt8):List UInt8:=List.replicate (least-l.length) 48++l
def Ev (least m:Nat)(s:List UInt8):List UInt8:=MP least (if m=0 then s else Lib.decDigits m++s)
theorem Wc (least m:Nat)(s:List UInt8)(h:0<m\/s.length<least):Ev least (m/10) (UInt8.ofNat (48+m%10)::s)=Ev least m s:=by
 unfold Ev
 by_cases h0:m=0
 ·subst h0
  have hl:s.length<least:=h.resolve_left (by omega);rw[AH (by omega),AH rfl];unfold MP;obtain⟨k,hk⟩:∃k,least-s.length=k+1:=⟨least-s.length-1,by omega⟩
  rw[hk,show least-(UInt8.ofNat (48+0%10)::s).length=k from by simp;omega,List.replicate_succ'];simp
 ·rw[AF h0]
  by_cases h1:m<10
  ·rw[AH (by omega)]
   have:Lib.decDigits m=[UInt8.ofNat (48+m)]:=by unfold Lib.decDigits;rw[dif_pos h1]
   rw[this,show m%10=m from by omega];rfl
  ·rw[AF (by omega)]
   have:Lib.decDigits m=Lib.decDigits (m/10)++[UInt8.ofNat (48+m%10)]:=by rw[Lib.decDigits];rw[dif_neg h1]
   rw[this,Di];rfl
theorem mD (k:Nat)(hk:k<10):(⟨#[48,49,50,51,52,53,54,55,56,57]⟩:ByteArray).extract k (k+1)=⟨([UInt8.ofNat (48+k)]:List UInt8).toArray⟩:=by
 match k,hk with
 | 0,_=>rfl
 | 1,_=>rfl
 | 2,_=>rfl
 | 3,_=>rfl
 | 4,_=>rfl
 | 5,_=>rfl
 | 6,_=>rfl
 | 7,_=>rfl
 | 8,_=>rfl
 | 9,_=>rfl
theorem QC (a least:Nat)(ha:a+least<=9223372036854775807):AJ C0 218 [i64 a,i64 least] (str ⟨(Ev least a []).toArray⟩):=by
 refine Aj.walk w1 sN rfl λF=>?_
 refine fR 0 ?_;refine fR 100 ?_;refine AC.seq ?_;refine AC.block ?_;refine AC.loop (α:=Nat×List UInt8×Nat) (λp=>⟨[(0,i64 p.1),(1,i64 least),(5,str ⟨p.2.1.toArray⟩)],[],p.2.2⟩) (λp=>p.1+(least-p.2.1.length))
  (λp=>Ev least p.1 p.2.1=Ev least a []/\p.1+p.2.1.length<=a+least) (a,[],_) ⟨rfl,by simp⟩ AL ?_
 rintro⟨m,s,n⟩ F ⟨h1,h2⟩;dsimp only at h1 h2⊢;have hsz:=Oj s;refine AC.seq ?_;refine DU ⟨[(0,i64 m),(1,i64 least),(5,str ⟨s.toArray⟩),(13,As (decide ((m:Int)>0)||decide ((s.length:Int)<least)))],[],n+30⟩ (Ap w1 200 (by kernel_rfl) ?_) ?_
 ·repeat'(first|(refine And.intro (by exact Bx) ?_;refine An ?_)|((refine By (λhb=>?_) (λhb=>?_))<;>(try simp only[Bi,Bv]at hb)<;>(try simp only[hb])<;>(refine An ?_)))
  all_goals exact AL
 refine AM ?_
 (refine By (λhc=>?_) (λhc=>?_))<;>(try simp only[Bi,Bv]at hc)<;>(try simp only[hc])
 ·have hc:0<m\/s.length<least:=by
   simp at hc;omega
  refine Ao ?_;refine AC.block ?_;refine AC.seq ?_;have hm:(m:Int).tmod 10=((m%10:Nat):Int):=rfl;have e2:IntKind.i64.wrap (((m%10:Nat):Int)+1)=((m%10+1:Nat):Int):=wI (by omega) (by omega);have hd:=mD (m%10) (by omega);have hs1:(⟨([UInt8.ofNat (48+m%10)]:List UInt8).toArray⟩:ByteArray).size=1:=rfl;have hlen:s.length+1<=9223372036854775807:=by omega
  have hs10:(⟨#[48,49,50,51,52,53,54,55,56,57]⟩:ByteArray).size=10:=rfl;refine Ap w1 300 (by kernel_rfl) ?_;refine KS (BZ hm e2 kN hd) ?_;refine fI 400 ?_;have hm4:(m:Int).tdiv 10=((m/10:Nat):Int):=rfl;have hm5:m/10<=9223372036854775807:=by omega
  rw[hm4,wN hm5,JH,Em,F6];refine⟨(m/10,UInt8.ofNat (48+m%10)::s,_),⟨(Wc least m s hc).trans h1,?_⟩,?_,AL⟩
  ·simp only[Bp];omega
  ·simp only[Bp];omega
 ·have hc:m=0/\least<=s.length:=by
   simp at hc;omega
  obtain⟨rfl,hl⟩:=hc;refine CC ?_;refine fR 500 ?_;refine Ak ?_;refine AK ?_ AA.out;rw[<-h1];unfold Ev MP;rw[AH rfl,Nat.sub_eq_zero_of_le hl];rfl
theorem Y7 (a:Nat):Ev 1 a []=Lib.decDigits a:=by
 unfold Ev MP
 by_cases h:a=0
 ·subst h
  have:Lib.decDigits 0=[48]:=by unfold Lib.decDigits;rw[dif_pos (by decide)];rfl
  rw[AH rfl,this];rfl
 ·rw[AF h,DE]
  have:(Lib.decDigits a).length≠0:=by
   unfold Lib.decDigits;split<;>simp
  rw[show 1-(Lib.decDigits a).length=0 from by omega];rfl
def D3 (K g sz:Nat):List D->D
 | []=>CR
 |_::l=>.osl K g sz 0 (l.length+1)
def Dt (K g T sz:Nat):List D->Hp
 | []=>[]
 |x::l=>[⟨K,g,T,sz,x::l⟩]
theorem I6 (K g sz:Nat):D3 K g sz []=CR:=rfl
theorem Hk (K g sz:Nat)(x:D)(l:List D):D3 K g sz (x::l)=.osl K g sz 0 (l.length+1):=rfl
theorem I7 (K g T sz:Nat):Dt K g T sz []=[]:=rfl
theorem Hl (K g T sz:Nat)(x:D)(l:List D):Dt K g T sz (x::l)=[⟨K,g,T,sz,x::l⟩]:=rfl
theorem OC (K g sz:Nat)(x y:D)(l:List D):D3 K g sz (x::l++[y])=.osl K g sz 0 (l.length+1+1):=by simp[D3]
theorem RO (K g T sz:Nat)(l:List D):Fz (Dt K g T sz l) [] (D3 K g sz l) (.sl false sz l):=by
 cases l with
 |nil=>exact .nil sz
 |cons x l=>
  refine .osl (e:=⟨K,g,T,sz,x::l⟩) (by simp[Dt,Hp.get]) rfl rfl rfl (by simp) (by simp) (λj d d' h1 h2=>?_) λj d d' q c c' h1 h2 h3 h4=>?_
  ·rw[BV]at h1;rw[h1]at h2;cases h2;rfl
  ·rw[BV]at h1;rw[h1]at h2;cases h2;rw[h3]at h4;cases h4;exact Fz.refl _
def spot (a b c d:Nat):D:=.agg [i64 (a/Nat.gcd a b:Nat),CR,i64 (b/Nat.gcd a b:Nat),CR,i64 (c/Nat.gcd c d:Nat),CR,i64 (d/Nat.gcd c d:Nat),CR]
instance  (a b c d:Nat):AU (spot a b c d):=by unfold spot;exact AI
instance  {α:Type}(f:α->List D)(l:List α)[h:∀x,Bc (f x)]:Bc (l.flatMap f):=⟨λe he=>by
 obtain⟨x,_,hx⟩:=List.mem_flatMap.1 he;exact(h x).out e hx⟩
theorem Gt {H Hf:Hp}{a a' b b':D}(h1:Fz H Hf a a')(h2:Fz H Hf b b'):Fz H Hf (.tup [a,b]) (.tup [a',b']):=.tup rfl λi d d' hd hd'=>by
 match i with
 | 0=>simp at hd hd';subst hd;subst hd';exact h1
 | 1=>simp at hd hd';subst hd;subst hd';exact h2
 |n+2=>simp at hd
set_option allowUnsafeReducibility true in
attribute [local irreducible] BF
inductive Kd where
 |line|zig|grid|quin
def Kd.most:Kd->Int
 | .line | .zig=>64
 | .grid=>8
 | .quin=>5
end Go.Ide
