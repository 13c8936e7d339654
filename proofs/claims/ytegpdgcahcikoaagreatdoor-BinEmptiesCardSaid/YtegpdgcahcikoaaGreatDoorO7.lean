/- The layer of own lemmas and contracts, part 7. -/
import Derived.Test.YtegpdgcahcikoaaGreatDoorO5
import Derived.Test.YtegpdgcahcikoaaGreatDoorO3
import Derived.Test.YtegpdgcahcikoaaGreatDoorO6
import Derived.Lib.AppendIntMem
import Derived.Lib.SmallJoins
import Derived.Shelf.Spec.BitsCarry
import Derived.Laws.StandIn
import Derived.Lib.Bytealg
set_option linter.unusedVariables false
set_option linter.unusedSimpArgs false
namespace Go.Ide
open Go Go.Ide Go.Proofs Go.RowKit
set_option maxRecDepth 100000
def G0 (w:World):Prop:=Lib.TabIs Tryz.prog w "internal/strconv.uint64pow10" .u64 Lib.pow10Tab
theorem mU:Tryz.prog.globalNamed "internal/strconv.uint64pow10" = some 3:=by kernel_rfl
theorem lS {w w':World}(h:G0 w)(b:Below (3+1) w w'):G0 w':=by
 unfold G0 Lib.TabIs World.var? at h⊢;rw[mU]at h⊢;simp only[Option.bind_some]at h⊢;rw[b.block _ (by decide)];exact h
noncomputable def C0:BC:={P:=Tryz.prog,G:=G0,nG:=3+1,hG:=λ_ _=>lS}
theorem fK {ρ:Lk}{O:Nat->Prop}{w:World}{a b c:Value}{vs:Array Value}(hn:vs.size=3)(h:∀(i:Nat) (x:D),[D.prim a,.prim b,.prim c][i]?=some x->AV ρ O w x (vs.getD i undef)):vs = #[a,b,c]:=by
 match vs,hn with
 |⟨[u,v,x]⟩,_=>
  have h0:=h 0 _ rfl;have h1:=h 1 _ rfl;have h2:=h 2 _ rfl;simp at h0 h1 h2;cases h0;cases h1;cases h2;rfl
theorem jL (x y c:Nat)(hc:c<=1):KP C0 252 [.prim (.int .u64 x),.prim (.int .u64 y),.prim (.int .u64 c)]
  (.tup [.prim (.int .u64 (((x+y+c)%18446744073709551616:Nat):Int)),.prim (.int .u64 (((x+y+c)/18446744073709551616:Nat):Int))]):=λρ O w vs hn h=>by
 have:=fK hn h
 subst this;refine⟨.tuple #[.int .u64 (((x+y+c)%18446744073709551616:Nat):Int),.int .u64 (((x+y+c)/18446744073709551616:Nat):Int)],?_,.tup rfl λi d hd=>?_⟩
 ·show(callFunc 252 _).run Tryz.prog w=_
  rw[run_callFunc_extern Tryz.func252 (by kernel_rfl) (by kernel_rfl) (by kernel_rfl) (e:=add64Entry) (by kernel_rfl),run_add64 x y c (by omega) (by omega) (by omega) (by omega)];simp only[Result.andThen]
  congr 5<;>omega
 ·match i with
  | 0=>simp at hd;subst hd;exact .prim _
  | 1=>simp at hd;subst hd;exact .prim _
  |n+2=>simp at hd
theorem xq {ρ:Lk}{O:Nat->Prop}{w:World}{a b:Value}{vs:Array Value}(hn:vs.size=2)(h:∀(i:Nat) (x:D),[D.prim a,.prim b][i]?=some x->AV ρ O w x (vs.getD i undef)):vs = #[a,b]:=by
 match vs,hn with
 |⟨[u,v]⟩,_=>
  have h0:=h 0 _ rfl;have h1:=h 1 _ rfl;simp at h0 h1;cases h0;cases h1;rfl
theorem gj (s:ByteArray)(c:Int):KP C0 294 [.prim (.string s),.prim (.int .u8 c)] (.prim (.int .i64 (firstIdx s c.toNat.toUInt8))):=λρ O w vs hn h=>by
 have:=xq hn h
 subst this;refine⟨_,?_,.prim _⟩;show(callFunc 294 _).run Tryz.prog w=_;rw[run_callFunc_indexByte Tryz.func294 (by kernel_rfl) (by kernel_rfl) (by kernel_rfl) (by kernel_rfl),run_indexByte_string];rfl
theorem ky (x y b:Nat)(hb:b<=1):KP C0 253 [.prim (.int .u64 x),.prim (.int .u64 y),.prim (.int .u64 b)]
  (.tup [.prim (.int .u64 (((x+18446744073709551616-y-b)%18446744073709551616:Nat):Int)),.prim (.int .u64 ((if x<y+b then 1 else 0:Nat):Int))]):=λρ O w vs hn h=>by
 have:=fK hn h
 subst this;refine⟨.tuple #[.int .u64 (((x+18446744073709551616-y-b)%18446744073709551616:Nat):Int),.int .u64 ((if x<y+b then 1 else 0:Nat):Int)],?_,.tup rfl λi d hd=>?_⟩
 ·show(callFunc 253 _).run Tryz.prog w=_
  rw[run_callFunc_extern Tryz.func253 (by kernel_rfl) (by kernel_rfl) (by kernel_rfl) (e:=sub64Entry) (by kernel_rfl),run_sub64 x y b hb];rfl
 ·match i with
  | 0=>simp at hd;subst hd;exact .prim _
  | 1=>simp at hd;subst hd;exact .prim _
  |n+2=>simp at hd
theorem Qi {O:Nat->Prop}{w:World}{v:Value}{vs:Array Value}(hn:vs.size=1)(h:∀(i:Nat) (x:D),[D.prim v][i]?=some x->AV nol O w x (vs.getD i undef)):vs = #[v]:=by
 match vs,hn with
 |⟨[u]⟩,_=>
  have h0:=h 0 _ rfl;simp at h0;cases h0;rfl
theorem ow (n:Int)(h0 : -9223372036854775808<=n)(h1:n<=9223372036854775807):AK C0 166 [i64 n] (str ⟨(Lib.itoa n).toArray⟩):=by
 refine⟨⟨_,_,Tryz.func166,rfl,by kernel_rfl⟩,λY w vs hG hnG hX hvs hr=>?_⟩
 have:=Qi hvs hr
 subst this;refine(Tryz.strconv_Itoa n h0 h1 w hG).mono ?_;rintro e w' ⟨rfl,k,os,rfl⟩;exact⟨_,_,rfl,Lib.below_grow _ _ (Af _) _ _,rfl,.prim _⟩
theorem nV (s:ByteArray)(n:Int)(hl:s.size<=18)(h:Lib.atoi s.data.toList=some n):AK C0 197 [str s] (.tup [i64 n,.prim .nilIface]):=by
 refine⟨⟨_,_,Tryz.func197,rfl,by kernel_rfl⟩,λY w vs hG hnG hX hvs hr=>?_⟩
 have:=Qi hvs hr
 subst this;refine(Tryz.strconv_Atoi s n hl h w).mono ?_;rintro e w' ⟨rfl,t,rfl⟩;exact⟨_,_,rfl,Joins.below_bytesWorld _ _ _ _ (Af _),rfl,.tup rfl λi d hd=>by
  match i with
  | 0=>simp at hd;subst hd;exact .prim _
  | 1=>simp at hd;subst hd;exact .prim _
  |n+2=>simp at hd⟩
def Ko (f:Nat)(ds:List D):Option D:=match Nat.beq f 252 with
 |true=>match ds with
  | [.prim (.int .u64 (.ofNat a)),.prim (.int .u64 (.ofNat b)),.prim (.int .u64 (.ofNat c))]=>match Nat.ble c 1 with
   |true=>some (.tup [.prim (.int .u64 (((a+b+c)%18446744073709551616:Nat):Int)),.prim (.int .u64 (((a+b+c)/18446744073709551616:Nat):Int))])
   |false=>none
  |_=>none
 |false=>match Nat.beq f 253 with
  |true=>match ds with
   | [.prim (.int .u64 (.ofNat a)),.prim (.int .u64 (.ofNat b)),.prim (.int .u64 (.ofNat c))]=>match Nat.ble c 1 with
    |true=>some (.tup [.prim (.int .u64 (((a+18446744073709551616-b-c)%18446744073709551616:Nat):Int)),.prim (.int .u64 ((if a<b+c then 1 else 0:Nat):Int))])
    |false=>none
   |_=>none
  |false=>match Nat.beq f 294 with
   |true=>match ds with
    | [.prim (.string s),.prim (.int .u8 c)]=>some (.prim (.int .i64 (firstIdx s c.toNat.toUInt8)))
    |_=>none
   |false=>none
theorem Q5 (f:Nat)(ds:List D)(d:D)(h:Ko f ds=some d):KP C0 f ds d:=by
 unfold Ko at h;split at h
 ·rename_i hf
  obtain rfl:=B5 hf;split at h<;>try(cases h;done)
  split at h<;>try(cases h;done)
  rename_i hc;cases h;exact jL _ _ _ (Bi hc)
 ·split at h
  ·rename_i hf
   obtain rfl:=B5 hf;split at h<;>try(cases h;done)
   split at h<;>try(cases h;done)
   rename_i hc;cases h;exact ky _ _ _ (Bi hc)
  ·split at h
   ·rename_i hf
    obtain rfl:=B5 hf;split at h<;>try(cases h;done)
    cases h;exact gj _ _
   ·cases h
noncomputable def X1:EV:=⟨Ps.get,MJ.get,Nj.get,λ_=>false,λ_ _=>none,λ_ _=>none,Ko⟩
theorem DY:FM C0 X1:=⟨gT,SK,Jv,λ_ _ _ h=>by simp[X1]at h,by kernel_rfl,λ_ _ _ h=>by simp[X1]at h,Q5⟩
theorem w1:DK C0 X1:=DY.w
theorem wI {z:Int}(h1 : -9223372036854775808<=z)(h2:z<=9223372036854775807):IntKind.i64.wrap z=z:=by
 have e1:(2:Int)^IntKind.i64.bits=18446744073709551616:=rfl;have e2:(2:Int)^(IntKind.i64.bits-1)=9223372036854775808:=rfl;unfold IntKind.wrap;simp only[e1,e2];have e3:IntKind.i64.signed=true:=rfl;rw[e3];simp only[Gd,Gc];split<;>omega
theorem wN {n:Nat}(h:n<=9223372036854775807):IntKind.i64.wrap (n:Int)=n:=wI (by omega) (by omega)
set_option maxRecDepth 20000
theorem O7 (n:Int):AK C0 122 [i64 n] (C6 n):=by
 refine Ak.walk w1 af rfl λF=>?_
 refine fR 0 ?_;refine fR 100 ?_;refine Ai ?_;exact AL rfl (AA.out (d:=C6 n))
theorem MK:∀(k u:Nat),u<10^(k+1)->(Lib.decDigits u).length<=k+1
 | 0,u,h=>by
  unfold Lib.decDigits;rw[dif_pos (by simpa using h)];simp
 |k+1,u,h=>by
  unfold Lib.decDigits;split
  ·simp
  ·rw[Bc]
   have:=MK k (u/10) (by
    rw[CN]at h;omega)
   simp only[Bo,HN];omega
theorem Ix (a b:List UInt8):(⟨a.toArray⟩:ByteArray)++⟨b.toArray⟩=⟨(a++b).toArray⟩:=by
 apply ByteArray.ext;simp[ByteArray.data_append]
theorem Oa (l:List UInt8):(⟨l.toArray⟩:ByteArray).size=l.length:=by simp[ByteArray.size]
def Sm (z:Int):Prop:=-9223372036854775808<z/\z<9223372036854775808
theorem wS {z:Int}(h:Sm z):IntKind.i64.wrap z=z:=wI (by have:=h.1;omega) (by have:=h.2;omega)
theorem dc {z:Int}(h:Sm z):(z != -9223372036854775808)=true:=by
 have:=h.1
 simp only[bne_iff_ne,ne_eq];omega
theorem wU {z:Int}(h1:0<=z)(h2:z<18446744073709551616):IntKind.u64.wrap z=z:=by
 have e1:(2:Int)^IntKind.u64.bits=18446744073709551616:=rfl;unfold IntKind.wrap;simp only[e1];have e3:IntKind.u64.signed=false:=rfl;rw[e3];simp only[HV,E9,if_false];omega
theorem qD (z:Int)(h:Sm z):AK C0 204 [i64 z] (u64 (z.natAbs:Nat)):=by
 refine Ak.walk w1 aM rfl λF=>?_
 obtain⟨h1,h2⟩:=h;refine fR 0 ?_;refine AC.seq ?_;refine fR 100 ?_;refine AM ?_
 (refine By (λh4=>?_) (λh4=>?_))<;>(try simp only[Bj,Bw]at h4)<;>(try simp only[h4])
 ·have hz:z<0:=by simpa using h4
  have e1:IntKind.i64.wrap (0-z)=(z.natAbs:Nat):=by rw[wI (by omega) (by omega)];omega
  have e2:IntKind.u64.wrap ((z.natAbs:Nat):Int)=(z.natAbs:Nat):=wU (by omega) (by omega);refine sZ 200 ?_;refine Jx (Ah e1 e2) ?_;refine Ai ?_;exact AL rfl AA.out
 ·have hz:¬z<0:=by simpa using h4
  have e2:IntKind.u64.wrap z=(z.natAbs:Nat):=by rw[wU (by omega) (by omega)];omega
  refine An ?_;refine sZ 300 ?_;refine Jx e2 ?_;refine Ai ?_;exact AL rfl AA.out
theorem ub (z:Int)(h:Sm z):AK C0 199 [C6 z] (C6 (-z)):=by
 refine Ak.walk w1 UY rfl λF=>?_
 refine fR 0 ?_;refine AC.seq ?_;refine sZ 100 ?_
 repeat'(first|(refine And.intro (by exact CC) ?_;refine At ?_)|((refine By (λhb=>?_) (λhb=>?_))<;>(try simp only[Bj,Bw]at hb)<;>(try simp only[hb])<;>(refine At ?_)))
 rw[dc h];refine AM ?_;have e1:IntKind.i64.wrap (0-z) = -z:=by
  have:=h.1;have:=h.2
  rw[wI (by omega) (by omega)];omega
 refine sZ 200 ?_;refine Jx e1 ?_;refine Ai ?_;exact AL rfl AA.out
theorem OP (x y:Nat)(hx:x<18446744073709551616)(hy:y<18446744073709551616):AK C0 203 [u64 x,u64 y] (.tup [u64 (x*y/18446744073709551616:Nat),u64 (x*y%18446744073709551616:Nat)]):=by
 refine⟨⟨_,_,Tryz.func203,rfl,by kernel_rfl⟩,λY w vs hG hnG hX hvs hr=>?_⟩;obtain⟨v1,v2,rfl⟩:∃a b,vs = #[a,b]:=by
  match vs,hvs with
  |⟨[a,b]⟩,_=>exact⟨a,b,rfl⟩
 have h0:=hr 0 _ rfl;have h1:=hr 1 _ rfl;simp at h0 h1;cases h0;cases h1;refine(Tryz.bits_Mul64 x y hx hy w).mono ?_;rintro e w' ⟨rfl,rfl⟩;exact⟨_,_,rfl,.refl _ _,rfl,.tup rfl λi d hd=>by
  match i with
  | 0=>simp at hd;subst hd;exact .prim _
  | 1=>simp at hd;subst hd;exact .prim _
  |n+2=>simp at hd⟩
theorem qK {a b:Int}(hb:0<b):(a.tmod b<0->a.tdiv b-1=a/b/\a.tmod b+b=a%b)/\(¬a.tmod b<0->a.tdiv b=a/b/\a.tmod b=a%b):=by
 have h1:=Int.mul_tdiv_add_tmod a b;have h2:=Int.tmod_lt_of_pos a hb;have h3:=Int.lt_tmod_of_pos a hb;constructor
 ·intro h
  have:=(Int.ediv_emod_unique (a:=a) (r:=a.tmod b+b) (q:=a.tdiv b-1) hb).2 ⟨by rw[Int.mul_sub,Int.mul_one];omega,by omega,by omega⟩
  exact⟨this.1.symm,this.2.symm⟩
 ·intro h
  have:=(Int.ediv_emod_unique (a:=a) (r:=a.tmod b) (q:=a.tdiv b) hb).2 ⟨by omega,by omega,by omega⟩
  exact⟨this.1.symm,this.2.symm⟩
theorem Zh {a b:Int}(ha:Sm a):Sm (a.tdiv b):=by
 have h:(a.tdiv b).natAbs<=a.natAbs:=by rw[Int.natAbs_tdiv];exact Gx _ _
 have:=ha.1;have:=ha.2
 exact⟨by omega,by omega⟩
theorem jt (a b:Int)(hb0:0<b)(ha:Sm a)(hb:Sm b):AK C0 251 [C6 a,C6 b] (.tup [C6 (a/b),C6 (a%b)]):=by
 refine Ak.walk w1 UZ rfl λF=>?_
 obtain⟨t1,t2⟩:=qK (a:=a) hb0;have h2:=Int.tmod_lt_of_pos a hb0;have h3:=Int.lt_tmod_of_pos a hb0;have q1:=wS (Zh (b:=b) ha);have q2:IntKind.i64.wrap (a.tmod b)=a.tmod b:=wI (by have:=hb.2;omega) (by have:=hb.2;omega);have q0:=Zh (b:=b) ha;refine fR 0 ?_;refine AC.seq ?_;refine sZ 100 ?_
 repeat'(first|(refine And.intro (by exact CC) ?_;refine At ?_)|((refine By (λhb=>?_) (λhb=>?_))<;>(try simp only[Bj,Bw]at hb)<;>(try simp only[hb])<;>(refine At ?_)))
 rw[dc ha];refine AM ?_;refine AC.seq ?_;refine B7 w1 200 [0,1,2,3,4,5,6,7,8,9,10] [11] (by kernel_rfl) ?_;refine And.intro (by(refine At ?_);(try simp only[q1,q2]);all_goals exact CC) ?_;refine At ?_
 try simp only[q1,q2]
 refine AC.seq ?_;refine fR 300 ?_;refine AM ?_
 (refine By (λh40=>?_) (λh40=>?_))<;>(try simp only[Bj,Bw]at h40)<;>(try simp only[h40])
 ·obtain⟨e1,e2⟩:=t1 (by simpa using h40)
  have q3:IntKind.i64.wrap (a.tdiv b-1)=a/b:=by rw[wI (by have:=q0.1;omega) (by have:=q0.2;omega)];exact e1
  have q4:IntKind.i64.wrap (a.tmod b+b)=a%b:=by rw[wI (by have:=hb.2;omega) (by have:=hb.2;omega)];exact e2
  refine B7 w1 400 [0,1,2,3,4,5,6] [7] (by kernel_rfl) ?_;refine And.intro (by(refine At ?_);(try simp only[q3,q4]);all_goals exact CC) ?_;refine At ?_
  try simp only[q3,q4]
  refine fR 500 ?_;refine Ai ?_;exact AL rfl AA.out
 ·obtain⟨e1,e2⟩:=t2 (by simpa using h40)
  refine An ?_;refine AC.seq ?_;rw[e1,e2];refine fI 500 ?_;refine Ai ?_;exact AL rfl AA.out
theorem nT (z:Int):AK C0 121 [C6 z] (MI z 1):=by
 refine Ak.walk w1 UU rfl λF=>?_
 refine fR 0 ?_;refine AC.seq ?_;refine B7 w1 100 [0,1] [2,3] (by kernel_rfl) ?_;refine CA ?_;refine BZ.same _ (O7 1) AI ?_;refine CA ?_;refine Ai ?_;exact AL rfl AA.out
theorem ye (z:Int):AK C0 76 [i64 z] (MI z 1):=by
 refine Ak.walk w1 eF rfl λF=>?_
 refine fR 0 ?_;refine fR 100 ?_;refine dI (O7 z) ?_;refine dI (nT z) ?_;refine Ai ?_;exact AL rfl AA.out
def Dz (a b:Int):Int:=if a<b then -1 else if b<a then 1 else 0
theorem oo (a b:Int):AK C0 273 [C6 a,C6 b] (i64 (Dz a b)):=by
 refine Ak.walk w1 Ua rfl λF=>?_
 unfold Dz;refine fR 0 ?_;refine AC.seq ?_;refine sZ 100 ?_
 repeat'(first|(refine And.intro (by exact CC) ?_;refine At ?_)|((refine By (λhb=>?_) (λhb=>?_))<;>(try simp only[Bj,Bw]at hb)<;>(try simp only[hb])<;>(refine At ?_)))
 refine AM ?_;refine AC.seq ?_;refine AC.block ?_;refine fR 200 ?_;refine AM ?_
 (refine By (λh13=>?_) (λh13=>?_))<;>(try simp only[Bj,Bw]at h13)<;>(try simp only[h13])
 ·have h1:a<b:=by simpa using h13
  rw[AG h1];refine fR 300 ?_;refine Ai ?_;exact AL rfl AA.out
 ·have h1:¬a<b:=by simpa using h13
  rw[AF h1];refine fR 400 ?_;refine AM ?_
  (refine By (λh19=>?_) (λh19=>?_))<;>(try simp only[Bj,Bw]at h19)<;>(try simp only[h19])
  ·have h2:b<a:=by simpa using h19
   rw[AG h2];refine fR 500 ?_;refine Ai ?_;exact AL rfl AA.out
  ·have h2:¬b<a:=by simpa using h19
   rw[AF h2];refine An ?_;refine fR 600 ?_;refine Ai ?_;exact AL rfl AA.out
theorem Zt {n k:Nat}(h:Nat.blt n k=true):n<k:=by rw[Nat.blt_eq]at h;exact h
def smB:Int->Bool
 | .ofNat n=>Nat.blt n 9223372036854775808
 | .negSucc n=>Nat.blt n 9223372036854775807
theorem uo {z:Int}(h:smB z=true):Sm z:=by
 cases z with
 |ofNat n=>have:=Zt h;exact⟨by rw[Int.ofNat_eq_natCast];omega,by rw[Int.ofNat_eq_natCast];omega⟩
 |negSucc n=>have:=Zt h;exact⟨by omega,by omega⟩
abbrev BB:Nat:=18446744073709551616
def Ae (n:Nat):List Nat:=if _h:n=0 then[]else(n%BB)::Ae (n/BB)
termination_by n
decreasing_by exact H3 (D4 _h) (by decide)
def AS:List Nat->Nat
 | []=>0
 |a::l=>a+BB*AS l
def Wd (l:List Nat):Prop:=∀a∈l,a<BB
theorem Fq:Ae 0=[]:=by unfold Ae;rfl
theorem GC {n:Nat}(h:n≠0):Ae n=(n%BB)::Ae (n/BB):=by rw[Ae,dif_neg h]
theorem FH (n:Nat):Wd (Ae n):=by
 induction n using Nat.strongRecOn with
 |ind n ih=>
  by_cases h:n=0
  ·subst h;rw[Fq];intro a ha;cases ha
  ·rw[GC h]
   intro a ha;rcases BG.1 ha with rfl|ha
   ·exact B3 _ (by decide)
   ·exact ih _ (H3 (D4 h) (by decide)) a ha
theorem Er (n:Nat):AS (Ae n)=n:=by
 induction n using Nat.strongRecOn with
 |ind n ih=>
  by_cases h:n=0
  ·subst h;rw[Fq];rfl
  ·rw[GC h,AS,ih _ (H3 (D4 h) (by decide))]
   exact Eo n BB
theorem J5 (l m:List Nat):AS (l++m)=AS l+BB^l.length*AS m:=by
 induction l with
 |nil=>simp[AS]
 |cons a l ih=>
  simp only[ED,AS,ih,Bo,CN,BN];rw[BT (BB^l.length) BB,Bz,Ea]
theorem Wd.tail {a:Nat}{l:List Nat}(h:Wd (a::l)):Wd l:=λb hb=>h b (CK _ hb)
theorem Wd.head {a:Nat}{l:List Nat}(h:Wd (a::l)):a<BB:=h a CG
theorem Wd.append {l m:List Nat}(h:Wd l)(k:Wd m):Wd (l++m):=λa ha=>(List.mem_append.1 ha).elim (h a) (k a)
theorem Wd.take {l:List Nat}(h:Wd l)(n:Nat):Wd (l.take n):=λa ha=>h a (Fy ha)
theorem Hj:∀ {l:List Nat},Wd l->AS l<BB^l.length
 | [],_=>by simp[AS]
 |a::l,h=>by
  have h1:=Hj h.tail;have h2:=h.head;rw[AS,Bo,CN]
  calc a+BB*AS l<BB+BB*AS l:=by omega
   _=BB*(AS l+1):=by rw[BN,EF,Kz]
   _<=BB*BB^l.length:=Cb _ h1
   _=_:=BT _ _
theorem XE:∀ {l:List Nat},Wd l->(∀a∈l.getLast?,a≠0)->Ae (AS l)=l
 | [],_,_=>Fq
 | [a],h,hl=>by
  have ha:a≠0:=hl a (by simp);have hb:=h.head;rw[show AS [a]=a from by simp[AS],GC ha,Di hb,HP hb,Fq]
 |a::b::l,h,hl=>by
  have ih:=XE h.tail (λx hx=>hl x (by simpa using hx));have hb:=h.head;have hv:AS (b::l)≠0:=by
   intro h0;rw[h0,Fq]at ih;cases ih
  have e1:AS (a::b::l)%BB=a:=by rw[AS,SW,Di hb]
  have e2:AS (a::b::l)/BB=AS (b::l):=by
   rw[AS,SS _ _ (by decide),HP hb,BV]
  have hne:AS (a::b::l)≠0:=by
   intro h0;rw[h0]at e2;exact hv (by rw[<-e2];rfl)
  rw[GC hne,e1,e2,ih]
theorem QG:∀(k:Nat),AS (List.replicate k 0)=0
 | 0=>rfl
 |k+1=>by rw[List.replicate_succ,AS,QG k,Eb]
theorem Wu {l:List Nat}(h:Wd l)(n:Nat)(hz:∀j,n<=j->∀a,l[j]?=some a->a=0)(hn:n<=l.length)(hl:∀m,n=m+1->∀a,l[m]?=some a->a≠0):l.take n=Ae (AS l):=by
 have hd:l.drop n=List.replicate (l.length-n) 0:=by
  refine Pb λi=>?_
  rw[Gb,List.getElem?_replicate];split
  ·rename_i hi
   rw[A9 (by omega)]
   congr 1
   exact hz _ (Nat.le_add_right _ _) _ (A9 (by omega))
  ·exact Dj (by omega)
 have hv:AS l=AS (l.take n):=by
  conv=>lhs;rw[<-E7 n l]
  rw[J5,hd,QG,Eb,DW]
 rw[hv];refine(XE (h.take n) λa ha=>?_).symm
 match n,hl,hn with
 | 0,_,_=>simp at ha
 |m+1,hl,hn=>
  refine hl m rfl a ?_;rw[List.getLast?_eq_getElem?,Bd,FC hn,El,AG (by omega)]at ha;simpa using ha
abbrev AR (n:Nat):D:=u64 (n:Int)
def wL (l:List Nat):D:=.sl false 1 (l.map AR)
def wD (n:Nat):D:=wL (Ae n)
theorem KN (l:List Nat):B6 (wL l):=.sl λe he d hd=>by
 obtain⟨a,_,rfl⟩:=List.mem_map.1 he;simp only[D.cells,BG,Db,or_false]at hd;subst hd;exact .prim _
instance  (l:List Nat):AA (wL l):=⟨KN l⟩
instance  (n:Nat):AA (wD n):=⟨KN _⟩
theorem DV {l:List Nat}{i a:Nat}(h:l[i]?=some a):(l.map AR)[i]?=some (AR a):=by rw[A8,h];rfl
theorem trim_ok (l:List Nat)(h:Wd l)(hlen:l.length<4000000000):AK C0 226 [wL l] (wD (AS l)):=by
 refine Ak.walk w1 aW rfl λF=>?_
 unfold wL;refine sR 0 ?_;refine sR 100 ?_;refine AC.seq ?_;refine AC.block ?_;have hml:((l.map AR).length:Int)=(l.length:Int):=by rw[Ac]
 rw[hml];refine AC.loop (α:=Nat×Nat) (λp=>⟨[(0,.sl false 1 (l.map AR)),(3,i64 p.1)],[],p.2⟩) (λp=>p.1)
  (λp=>p.1<=l.length/\∀j,p.1<=j->∀a,l[j]?=some a->a=0) (l.length,_) ⟨Af _,λj hj a ha=>by rw[Dj hj]at ha;cases ha⟩ AJ ?_
 rintro⟨n,m⟩ F ⟨h1,h2⟩;dsimp only at h1 h2⊢;refine AC.seq ?_;refine AC.seq ?_;rcases n with _|n
 ·have z0:decide (((0:Nat):Int)>0)=false:=rfl
  refine Ao w1 200 (by kernel_rfl) ?_;refine AE z0 ?_;refine AM ?_;refine B9 ?_;have ht:=Wu h 0 h2 (BU _) (by simp);refine sR 400 ?_;refine Ai ?_;refine AL (d0:=wL (l.take 0)) ?_ AA.out;rw[ht];rfl
 ·obtain⟨a,ha⟩:∃a,l[n]?=some a:=⟨l[n],A9 (by omega)⟩
  have hx:=DV ha;have z1:decide (((n+1:Nat):Int)>0)=true:=AX (by omega);have w2:IntKind.i64.wrap (((n+1:Nat):Int)-1)=(n:Int):=by rw[wI (by omega) (by omega)];omega
  refine Ao w1 200 (by kernel_rfl) ?_;refine AE (Ah z1 w2) ?_;refine Bq z1 hx ?_;refine AE (Ah z1 w2) ?_;refine AM ?_
  (refine By (λh15=>?_) (λh15=>?_))<;>(try simp only[Bj,Bw]at h15)<;>(try simp only[h15])
  ·have ha0:a=0:=by
    have:(a:Int)=0:=by simpa using h15
    omega
   subst ha0;refine An ?_;refine AC.block ?_;refine Ao w1 300 (by kernel_rfl) ?_;refine AU w2 ?_;refine⟨(n,_),⟨by dsimp only;omega,λj hj b hb=>?_⟩,by dsimp only;omega,AJ⟩;rcases Nat.eq_or_lt_of_le hj with rfl|hlt
   ·exact F7 (hb.symm.trans ha)
   ·exact h2 j hlt b hb
  ·have ha0:a≠0:=by
    intro h0;subst h0;simp at h15
   refine B9 ?_;have ht:=Wu h (n+1) h2 h1 (λm hm b hb=>by
    obtain rfl:n=m:=by omega
    rw[ha]at hb;cases hb;exact ha0)
   refine sR 400 ?_;refine Ai ?_;have e4:List.take ((((n+1:Nat):Int)).toNat-0) (List.drop 0 (l.map AR))=(l.take (n+1)).map AR:=by
    rw[NY];simp
   rw[e4];refine AL (d0:=wL (l.take (n+1))) ?_ AA.out;rw[ht];rfl
theorem HZ (b:Nat):∀a,b<=a->(Ae b).length<=(Ae a).length:=by
 induction b using Nat.strongRecOn with
 |ind b ih=>
  intro a h
  by_cases hb:b=0
  ·subst hb;rw[Fq];exact BU _
  ·rw[GC hb,GC (n:=a) (by omega),Bo,Bo]
   exact Nat.succ_le_succ (ih _ (H3 (D4 hb) (by decide)) _ (Nat.div_le_div_right h))
theorem V9 {a b:Nat}(h:(Ae a).length<(Ae b).length):a<b:=by
 rcases BH a b with h1|h1
 ·exact h1
 ·have:=HZ b a h1;omega
theorem KO {l:List Nat}{k a:Nat}(h:l[k]?=some a):AS l=AS (l.take k)+BB^k*(a+BB*AS (l.drop (k+1))):=by
 have hk:k<l.length:=(List.getElem?_eq_some_iff.1 h).1
 conv=>lhs;rw[<-E7 k l]
 rw[J5,Bd,FC (by omega)]
 have:l.drop k=a::l.drop (k+1):=by
  rw[ET hk]
  congr 1
  exact(List.getElem?_eq_some_iff.1 h).2
 rw[this,AS]
theorem Wo {l m:List Nat}{k a b:Nat}(hl:Wd l)(ha:l[k]?=some a)(hb:m[k]?=some b)(hd:l.drop (k+1)=m.drop (k+1))(hab:a<b):AS l<AS m:=by
 have hk:k<l.length:=(List.getElem?_eq_some_iff.1 ha).1;rw[KO ha,KO hb,hd];have h1:=Hj (hl.take k);rw[Bd,FC (by omega)]at h1;generalize AS (m.drop (k+1))=r;have h2:BB^k*(a+BB*r)+BB^k<=BB^k*(b+BB*r):=by
  rw[<-Nat.mul_succ];exact Cb _ (by omega)
 omega
theorem Qp (a b:Nat)(ha:(Ae a).length<4000000000)(hb:(Ae b).length<4000000000):AK C0 208 [wD a,wD b] (i64 (Dz a b)):=by
 refine Ak.walk w1 aQ rfl λF=>?_
 have hwa:=FH a;have hwb:=FH b;have va:=Er a;have vb:=Er b;have hlt:=@V9 a b;have hgt:=@V9 b a;unfold wD wL Dz;generalize Ae a=la at*;generalize Ae b=lb at*;have ea:(((la.map AR).length:Nat):Int)=(la.length:Int):=by rw[Ac]
 have eb:(((lb.map AR).length:Nat):Int)=(lb.length:Int):=by rw[Ac]
 refine sR 0 ?_;refine AC.seq ?_;refine sZ 100 ?_;refine AU (Ah ea eb) ?_;refine AM ?_
 (refine By (λh10=>?_) (λh10=>?_))<;>(try simp only[Bj,Bw]at h10)<;>(try simp only[h10])
 ·have hne:la.length≠lb.length:=by
   have:(la.length:Int)≠lb.length:=by simpa using h10
   omega
  refine AC.seq ?_;refine sZ 200 ?_;refine AU (Ah ea eb) ?_;refine AM ?_
  (refine By (λh15=>?_) (λh15=>?_))<;>(try simp only[Bj,Bw]at h15)<;>(try simp only[h15])
  ·have h1:la.length<lb.length:=by
    have:(la.length:Int)<lb.length:=by simpa using h15
    omega
   rw[AG (by have:=hlt h1;omega)];refine sR 300 ?_;refine Ai ?_;exact AL rfl AA.out
  ·have h1:lb.length<la.length:=by
    have:¬(la.length:Int)<lb.length:=by simpa using h15
    omega
   have h2:=hgt h1;rw[AF (by omega),AG (by omega)];refine An ?_;refine sR 400 ?_;refine Ai ?_;exact AL rfl AA.out
 ·have hl:la.length=lb.length:=by
   have:(la.length:Int)=lb.length:=by simpa using h10
   omega
  clear hlt hgt;refine An ?_;refine AC.seq ?_;refine sZ 500 ?_;refine AU ea ?_;refine AC.block ?_;have w0:IntKind.i64.wrap ((la.length:Int)-1)=(la.length:Int)-1:=wI (by omega) (by omega);rw[w0];refine AC.loop (α:=Nat×Nat) (λp=>⟨[(0,.sl false 1 (la.map AR)),(1,.sl false 1 (lb.map AR)),(5,i64 ((p.1:Int)-1))],[],p.2⟩) (λp=>p.1)
   (λp=>p.1<=la.length/\la.drop p.1=lb.drop p.1) (la.length,_) ⟨Af _,by rw[JA,hl,JA]⟩ AJ ?_
  rintro⟨k,m⟩ F ⟨h1,h2⟩;dsimp only at h1 h2⊢;refine AC.seq ?_;refine sR 600 ?_;refine AM ?_
  (refine By (λh20=>?_) (λh20=>?_))<;>(try simp only[Bj,Bw]at h20)<;>(try simp only[h20])
  ·obtain⟨j,rfl⟩:∃j,k=j+1:=⟨k-1,by
    have:(k:Int)-1>=0:=by simpa using h20
    omega⟩
   have wj:((j+1:Nat):Int)-1=(j:Int):=by omega
   obtain⟨x,hx⟩:∃x,la[j]?=some x:=⟨la[j],A9 (by omega)⟩
   obtain⟨y,hy⟩:∃y,lb[j]?=some y:=⟨lb[j],A9 (by omega)⟩
   have hx':=DV hx;have hy':=DV hy;rw[wj];refine An ?_;refine AC.seq ?_;refine AC.block ?_;refine AC.seq ?_;refine B7 w1 800 [0,1,2,3,4,5,6,7] [8] (by kernel_rfl) ?_;refine AE kN ?_;refine Bq kT hx' ?_;refine AE kN ?_;refine Bq kT hy' ?_;refine AE kN ?_;refine AE kN ?_;refine AM ?_
   (refine By (λh31=>?_) (λh31=>?_))<;>(try simp only[Bj,Bw]at h31)<;>(try simp only[h31])
   ·have hne:x≠y:=by
     intro h0;subst h0;simp at h31
    refine AC.seq ?_;refine AC.seq ?_;refine B7 w1 900 [0,1,2,3,4,5,6,7] [8] (by kernel_rfl) ?_;refine AE kN ?_;refine Bq kT hx' ?_;refine AE kN ?_;refine Bq kT hy' ?_;refine AE kN ?_;refine AE kN ?_;refine AM ?_
    (refine By (λh40=>?_) (λh40=>?_))<;>(try simp only[Bj,Bw]at h40)<;>(try simp only[h40])
    ·have hxy:x<y:=by
      have:(x:Int)<y:=by simpa using h40
      omega
     have:=Wo hwa hx hy h2 hxy
     rw[AG (by omega)];refine sR 1000 ?_;refine Ai ?_;exact AL rfl AA.out
    ·have hxy:y<x:=by
      have:¬(x:Int)<y:=by simpa using h40
      omega
     have:=Wo hwb hy hx h2.symm hxy
     rw[AF (by omega),AG (by omega)];refine An ?_;refine sR 1100 ?_;refine Ai ?_;exact AL rfl AA.out
   ·have hxy:x=y:=by
     have:(x:Int)=y:=by simpa using h31
     omega
    subst hxy;have w5:IntKind.i64.wrap ((j:Int)-1)=(j:Int)-1:=wI (by omega) (by omega);refine An ?_;refine Ao w1 700 (by kernel_rfl) ?_;refine AU w5 ?_;have hj:=(List.getElem?_eq_some_iff.1 hx)
    have hj':=(List.getElem?_eq_some_iff.1 hy)
    refine⟨(j,_),⟨by dsimp only;omega,?_⟩,by dsimp only;omega,AJ⟩;dsimp only;rw[ET hj.1,ET hj'.1,hj.2,hj'.2,h2]
  ·have hk:k=0:=by
    have:¬((k:Int)-1>=0):=by simpa using h20
    omega
   subst hk;have hab:a=b:=by
    rw[<-va,<-vb]
    have:la=lb:=by simpa using h2
    rw[this]
   subst hab;rw[AF (by omega),AF (by omega)];refine B9 ?_;refine sR 1200 ?_;refine Ai ?_;exact AL rfl AA.out
theorem Xn {a b c:Nat}(hc:c<=1):Ko 252 [AR a,AR b,AR c]=some (.tup [AR ((a+b+c)%BB),AR ((a+b+c)/BB)]):=by
 show(match Nat.ble c 1 with
  |true=>some (D.tup [.prim (.int .u64 (((a+b+c)%18446744073709551616:Nat):Int)),.prim (.int .u64 (((a+b+c)/18446744073709551616:Nat):Int))])
  |false=>none)=_
 have h1:Nat.ble c 1=true:=by rw[Nat.ble_eq];exact hc
 rw[h1]
theorem FG {l:List Nat}{i a:Nat}(h:l[i]?=some a):l.take (i+1)=l.take i++[a]:=by rw[Da,h];rfl
theorem Qk {l:List Nat}{i a:Nat}(h:i<l.length):(l.set i a).take (i+1)=l.take i++[a]:=by
 rw[FG (l:=l.set i a) (i:=i) (a:=a) (by simp[h]),List.take_set_of_le (Af _)]
theorem Gi {l:List Nat}{i a:Nat}(hi:l.length=i):AS (l++[a])=AS l+BB^i*a:=by rw[J5,hi];simp[AS]
theorem map_set {l:List Nat}{i a:Nat}:(l.map AR).set i (AR a)=(l.set i a).map AR:=List.map_set.symm
theorem Wd.set {l:List Nat}(h:Wd l){i a:Nat}(ha:a<BB):Wd (l.set i a):=λb hb=>by
 rcases NU hb with h1|rfl
 ·exact h b h1
 ·exact ha
theorem MY (n:Nat):Wd (List.replicate n 0):=λa ha=>by rw[Pc ha];decide
theorem U4 {env:Ar}{t K g n N:Nat}{z:List Nat}{T:Nat}(hl:z.length=N)(he:env.get t=.osl K g 1 0 N:=by exact rfl):Wk ⟨env,[⟨K,g,T,1,z.map AR⟩],n⟩ ⟨[(t,.sl false 1 (z.map AR))],[],n⟩:=by
 subst hl;refine⟨.drop .nil,⟨?_,trivial⟩,Af _⟩;dsimp only;rw[he]
 have:=RZ K g T 1 (z.map AR)
 rwa [Ac]at this
theorem oG (la lb:List Nat)(ha:Wd la)(hb:Wd lb)(hla:la.length<4000000)(hlb:lb.length<4000000):AK C0 207 [wL la,wL lb] (wD (AS la+AS lb)):=by
 refine Ak.walk w1 aP rfl λF=>?_
 unfold wL;have ea:(((la.map AR).length:Nat):Int)=(la.length:Int):=by rw[Ac]
 have eb:(((lb.map AR).length:Nat):Int)=(lb.length:Int):=by rw[Ac]
 obtain⟨x,y,hsw,hle,hx,hy,hlx,hv⟩:∃x y:List Nat,(la.length<lb.length/\x=lb/\y=la\/¬la.length<lb.length/\x=la/\y=lb)/\y.length<=x.length/\Wd x/\Wd y/\x.length<4000000/\AS la+AS lb=AS x+AS y:=by
  by_cases h:la.length<lb.length
  ·exact⟨lb,la,.inl ⟨h,rfl,rfl⟩,by omega,hb,ha,hlb,by omega⟩
  ·exact⟨la,lb,.inr ⟨h,rfl,rfl⟩,by omega,ha,hb,hla,rfl⟩
 rw[hv];refine sR 0 ?_;refine EX ⟨[(0,.sl false 1 (x.map AR)),(1,.sl false 1 (y.map AR)),(4,CT)],[],20⟩ ?_ ?_
 ·refine sZ 100 ?_
  refine AU (Ah ea eb) ?_;refine AM ?_;rcases hsw with⟨h,rfl,rfl⟩|⟨h,rfl,rfl⟩
  ·have e1:decide ((y.length:Int)<(x.length:Int))=true:=AX (by omega)
   rw[e1];refine rI 200 ?_;exact And.intro (by trivial) (AJ)
  ·have e1:decide ((x.length:Int)<(y.length:Int))=false:=Ag (by omega)
   rw[e1];refine An ?_;exact And.intro (by trivial) (AJ)
 clear hsw ea eb;have ex:(((x.map AR).length:Nat):Int)=(x.length:Int):=by rw[Ac]
 have ey:(((y.map AR).length:Nat):Int)=(y.length:Int):=by rw[Ac]
 have w3:IntKind.i64.wrap ((x.length:Int)+1)=((x.length+1:Nat):Int):=by rw[wI (by omega) (by omega)];omega
 have r3:List.replicate (x.length+1) (ofV (.int .u64 0))=(List.replicate (x.length+1) 0).map AR:=by rw[Jo];rfl
 refine sZ 300 ?_;refine AU (As ex w3 kN) ?_;refine sR 400 ?_;refine AC.seq ?_;refine sZ 500 ?_;refine AU ex ?_;refine AC.block ?_;refine AC.loop (α:=Nat×Nat×List Nat×Nat) (λp=>⟨[(0,.sl false 1 (x.map AR)),(1,.sl false 1 (y.map AR)),(4,CT),(5,.osl 303 23 1 0 (x.length+1)),(6,AR p.2.1),(21,i64 x.length),(22,i64 p.1)],[⟨303,23,210,1,p.2.2.1.map AR⟩],p.2.2.2⟩) (λp=>x.length-p.1)
  (λp=>p.1<=x.length/\p.2.1<=1/\p.2.2.1.length=x.length+1/\Wd p.2.2.1/\AS (p.2.2.1.take p.1)+BB^p.1*p.2.1=AS (x.take p.1)+AS (y.take p.1)) (0,0,List.replicate (x.length+1) 0,_)
  ⟨BU _,BU _,by simp,MY _,by simp[AS]⟩ (by rw[<-r3];exact AJ) ?_
 rintro⟨i,c,o,m⟩ F ⟨h1,h2,h3,h4,h5⟩;dsimp only at h1 h2 h3 h4 h5⊢;refine sR 600 ?_;refine AC.seq ?_;refine AM ?_
 (refine By (λh23=>?_) (λh23=>?_))<;>(try simp only[Bj,Bw]at h23)<;>(try simp only[h23])
 ·have hi:i<x.length:=by simpa using h23
  obtain⟨a,hxa⟩:∃a,x[i]?=some a:=⟨x[i],A9 hi⟩
  have ha:=DV hxa;obtain⟨v,hvl,hvv⟩:∃v,v<BB/\(i<y.length/\y[i]?=some v\/y.length<=i/\v=0):=by
   by_cases h:i<y.length
   ·exact⟨y[i],hy _ (List.getElem_mem h),.inl ⟨h,A9 h⟩⟩
   ·exact⟨0,by decide,.inr ⟨by omega,rfl⟩⟩
  have hal:a<BB:=hx a (Aw hxa);have hyv:AS (y.take (i+1))=AS (y.take i)+BB^i*v:=by
   rcases hvv with⟨h,hh⟩|⟨h,rfl⟩
   ·rw[FG hh,Gi (i:=i) (by rw[Bd];omega)]
   ·rw[B8 (by omega),B8 h];simp
  have hoi:i<o.length:=by omega
  obtain⟨oi,hoa⟩:∃a,o[i]?=some a:=⟨o[i],A9 hoi⟩
  have hob:=DV hoa;have hadd:=Xn (a:=a) (b:=v) h2;have wi:IntKind.i64.wrap ((i:Int)+1)=((i+1:Nat):Int):=wI (by omega) (by omega);refine An ?_;refine AC.seq ?_;refine AC.block ?_;refine sR 700 ?_;refine sR 800 ?_;refine EX ⟨[(0,.sl false 1 (x.map AR)),(1,.sl false 1 (y.map AR)),(4,CT),(5,.osl 303 23 1 0 (x.length+1)),(6,AR c),(7,i64 i),(8,AR v),(21,i64 x.length),(22,i64 i)],[⟨303,23,210,1,o.map AR⟩],m+30⟩ ?_ ?_
  ·refine sZ 900 ?_
   refine AU ey ?_;refine AM ?_;rcases hvv with⟨h,hh⟩|⟨h,rfl⟩
   ·have hy':=DV hh
    have e1:decide ((i:Int)<(y.length:Int))=true:=AX (by omega);rw[e1];refine rI 1000 ?_;refine AE kN ?_;refine Bq kT hy' ?_;refine BP ?_;exact And.intro (by trivial) (AJ)
   ·have e1:decide ((i:Int)<(y.length:Int))=false:=Ag (by omega)
    rw[e1];refine An ?_;exact And.intro (by trivial) (AJ)
  refine rI 1100 ?_;refine AE kN ?_;refine Bq kT ha ?_;refine AE kN ?_
  first|(refine D7 rfl rfl ?_;refine Q0 rfl rfl (hadd) ?_)|(refine Ef rfl rfl ?_;refine Od rfl rfl (hadd) ?_)
  refine AE (As kN BV hob) ?_;have hs:(a+v+c)%BB<BB:=B3 _ (by decide);have hc':(a+v+c)/BB<=1:=by
   have:a+v+c<2*BB:=by omega
   exact Nh (E8 (by rw[BT];exact this))
  rw[map_set];refine Ao w1 1200 (by kernel_rfl) ?_;refine AU wi ?_;refine⟨(i+1,(a+v+c)/BB,o.set i ((a+v+c)%BB),_),⟨hi,hc',by dsimp only;rw[DH];exact h3,h4.set hs,?_⟩,by dsimp only;omega,AJ⟩;dsimp only;rw[Qk hoi,Gi (i:=i) (by rw[Bd];omega),FG hxa,Gi (i:=i) (by rw[Bd];omega),hyv];have hm:=Eo (a+v+c) BB;rw[CN,Bz,Ea,<-BN,hm,BN,BN];omega
 ·have hi:i=x.length:=by
   have:¬i<x.length:=by simpa using h23
   omega
  subst hi;obtain⟨oi,hoa⟩:∃a,o[x.length]?=some a:=⟨o[x.length],A9 (by omega)⟩
  have hob:=DV hoa;refine B9 ?_;refine sZ 1300 ?_;refine AE (BY ex kN BV hob) ?_;rw[map_set];have ho:o.set x.length c=o.take x.length++[c]:=by
   have:=Qk (l:=o) (i:=x.length) (a:=c) (by omega)
   rwa [B8 (by rw[DH];omega)]at this
  have hov:AS (o.set x.length c)=AS x+AS y:=by
   rw[ho,Gi (i:=x.length) (by rw[Bd];omega),h5,B8 (Af _),B8 hle]
  have how:Wd (o.set x.length c):=h4.set (Dd h2 (by decide));have hol:(o.set x.length c).length=x.length+1:=by rw[DH];exact h3
  generalize o.set x.length c=z at*;refine AC.weak ⟨[(5,.sl false 1 (z.map AR))],[],_⟩ (U4 hol) ?_;refine sR 1400 ?_;refine BE.same _ (trim_ok z how (by omega)) AI ?_;refine BP ?_;refine Ai ?_;exact AL (by rw[hov]) AA.out
theorem Tf {a b c:Nat}(hc:c<=1):Ko 253 [AR a,AR b,AR c]=some (.tup [AR ((a+BB-b-c)%BB),AR (if a<b+c then 1 else 0)]):=by
 show(match Nat.ble c 1 with
  |true=>some (D.tup [.prim (.int .u64 (((a+18446744073709551616-b-c)%18446744073709551616:Nat):Int)),.prim (.int .u64 ((if a<b+c then 1 else 0:Nat):Int))])
  |false=>none)=_
 have h1:Nat.ble c 1=true:=by rw[Nat.ble_eq];exact hc
 rw[h1]
theorem TV {a v c:Nat}(ha:a<BB)(hv:v<BB)(hc:c<=1):(a+BB-v-c)%BB+v+c=a+BB*(if a<v+c then 1 else 0):=by
 by_cases h:a<v+c
 ·rw[AG h,Di (by omega)];omega
 ·rw[AF h]
  have:a+BB-v-c=(a-v-c)+BB:=by omega
  rw[this,Nat.add_mod_right,Di (by omega)];omega
theorem qI (x y:List Nat)(hx:Wd x)(hy:Wd y)(hlx:x.length<4000000)(hle:y.length<=x.length)(hv:AS y<=AS x):AK C0 209 [wL x,wL y] (wD (AS x-AS y)):=by
 refine Ak.walk w1 aR rfl λF=>?_
 unfold wL;have ex:(((x.map AR).length:Nat):Int)=(x.length:Int):=by rw[Ac]
 have ey:(((y.map AR).length:Nat):Int)=(y.length:Int):=by rw[Ac]
 have r3:List.replicate x.length (ofV (.int .u64 0))=(List.replicate x.length 0).map AR:=by rw[Jo];rfl
 refine sR 0 ?_;refine sZ 100 ?_;refine AU (Ah ex kN) ?_;refine sR 200 ?_;refine AC.seq ?_;refine sZ 300 ?_;refine AU ex ?_;refine AC.block ?_;refine AC.loop (α:=Nat×Nat×List Nat×Nat) (λp=>⟨[(0,.sl false 1 (x.map AR)),(1,.sl false 1 (y.map AR)),(4,CT),(5,.osl 102 3 1 0 x.length),(6,AR p.2.1),(13,i64 x.length),(14,i64 p.1)],[⟨102,3,210,1,p.2.2.1.map AR⟩],p.2.2.2⟩) (λp=>x.length-p.1)
  (λp=>p.1<=x.length/\p.2.1<=1/\p.2.2.1.length=x.length/\Wd p.2.2.1/\AS (p.2.2.1.take p.1)+AS (y.take p.1)=AS (x.take p.1)+BB^p.1*p.2.1) (0,0,List.replicate x.length 0,_)
  ⟨BU _,BU _,by simp,MY _,by simp[AS]⟩ (by rw[<-r3];exact AJ) ?_
 rintro⟨i,c,o,m⟩ F ⟨h1,h2,h3,h4,h5⟩;dsimp only at h1 h2 h3 h4 h5⊢;refine sR 400 ?_;refine AC.seq ?_;refine AM ?_
 (refine By (λh23=>?_) (λh23=>?_))<;>(try simp only[Bj,Bw]at h23)<;>(try simp only[h23])
 ·have hi:i<x.length:=by simpa using h23
  obtain⟨a,hxa⟩:∃a,x[i]?=some a:=⟨x[i],A9 hi⟩
  have ha:=DV hxa;obtain⟨v,hvl,hvv⟩:∃v,v<BB/\(i<y.length/\y[i]?=some v\/y.length<=i/\v=0):=by
   by_cases h:i<y.length
   ·exact⟨y[i],hy _ (List.getElem_mem h),.inl ⟨h,A9 h⟩⟩
   ·exact⟨0,by decide,.inr ⟨by omega,rfl⟩⟩
  have hal:a<BB:=hx a (Aw hxa);have hyv:AS (y.take (i+1))=AS (y.take i)+BB^i*v:=by
   rcases hvv with⟨h,hh⟩|⟨h,rfl⟩
   ·rw[FG hh,Gi (i:=i) (by rw[Bd];omega)]
   ·rw[B8 (by omega),B8 h];simp
  have hoi:i<o.length:=by omega
  obtain⟨oi,hoa⟩:∃a,o[i]?=some a:=⟨o[i],A9 hoi⟩
  have hob:=DV hoa;have hsub:=Tf (a:=a) (b:=v) h2;have hdig:=TV hal hvl h2;have hc':(if a<v+c then 1 else 0)<=1:=by split<;>decide
  have hs:(a+BB-v-c)%BB<BB:=B3 _ (by decide);generalize(if a<v+c then 1 else 0)=c' at*;generalize(a+BB-v-c)%BB=d at*;have wi:IntKind.i64.wrap ((i:Int)+1)=((i+1:Nat):Int):=wI (by omega) (by omega);refine An ?_;refine AC.seq ?_;refine AC.block ?_;refine sR 500 ?_;refine sR 600 ?_;refine EX ⟨[(0,.sl false 1 (x.map AR)),(1,.sl false 1 (y.map AR)),(4,CT),(5,.osl 102 3 1 0 x.length),(6,AR c),(7,i64 i),(8,AR v),(13,i64 x.length),(14,i64 i)],[⟨102,3,210,1,o.map AR⟩],m+30⟩ ?_ ?_
  ·refine sZ 700 ?_
   refine AU ey ?_;refine AM ?_;rcases hvv with⟨h,hh⟩|⟨h,rfl⟩
   ·have hy':=DV hh
    have e1:decide ((i:Int)<(y.length:Int))=true:=AX (by omega);rw[e1];refine rI 800 ?_;refine AE kN ?_;refine Bq kT hy' ?_;refine BP ?_;exact And.intro (by trivial) (AJ)
   ·have e1:decide ((i:Int)<(y.length:Int))=false:=Ag (by omega)
    rw[e1];refine An ?_;exact And.intro (by trivial) (AJ)
  refine rI 900 ?_;refine AE kN ?_;refine Bq kT ha ?_;refine AE kN ?_
  first|(refine D7 rfl rfl ?_;refine Q0 rfl rfl (hsub) ?_)|(refine Ef rfl rfl ?_;refine Od rfl rfl (hsub) ?_)
  refine AE (As kN BV hob) ?_;rw[map_set];refine Ao w1 1000 (by kernel_rfl) ?_;refine AU wi ?_;refine⟨(i+1,c',o.set i d,_),⟨hi,hc',by dsimp only;rw[DH];exact h3,h4.set hs,?_⟩,by dsimp only;omega,AJ⟩;dsimp only;rw[Qk hoi,Gi (i:=i) (by rw[Bd];omega),FG hxa,Gi (i:=i) (by rw[Bd];omega),hyv];have h6:BB^i*d+BB^i*v+BB^i*c=BB^i*a+BB^(i+1)*c':=by
   rw[CN,Bz,<-BN,<-BN,<-BN,hdig]
  omega
 ·have hi:i=x.length:=by
   have:¬i<x.length:=by simpa using h23
   omega
  subst hi;rw[B8 (Nat.le_of_eq h3),B8 (Af _),B8 hle]at h5;have hlt:=Hj h4;rw[h3]at hlt;have hc0:c=0:=by
   rcases Do c with h|h
   ·exact h
   ·have:c=1:=by omega
    subst this;rw[EF]at h5;omega
  subst hc0;have hov:AS o=AS x-AS y:=by
   rw[Eb]at h5;omega
  refine B9 ?_;refine AC.weak ⟨[(5,.sl false 1 (o.map AR))],[],_⟩ (U4 h3) ?_;refine sR 1100 ?_;refine BE.same _ (trim_ok o h4 (by omega)) AI ?_;refine BP ?_;refine Ai ?_;exact AL (by rw[hov]) AA.out
theorem JN:∀ {l:List Nat} {k o d:Nat},l[k]?=some o->AS (l.set k d)+BB^k*o=AS l+BB^k*d
 |a::l,0,o,d,h=>by
  simp only[SX,BM]at h;subst h;simp only[List.set_cons_zero,AS,MD,JD];omega
 |a::l,k+1,o,d,h=>by
  simp only[Jq]at h;have ih:=JN (d:=d) h;simp only[List.set_cons_succ,AS];have h1:BB^(k+1)*o=BB*(BB^k*o):=by rw[CN,BT (BB^k) BB,Bz]
  have h2:BB^(k+1)*d=BB*(BB^k*d):=by rw[CN,BT (BB^k) BB,Bz]
  have h3:BB*AS (l.set k d)+BB*(BB^k*o)=BB*AS l+BB*(BB^k*d):=by rw[<-BN,<-BN,ih]
  omega
theorem kD {x y o c:Nat}(hx:x<BB)(hy:y<BB)(ho:o<BB)(hc:c<BB):
  ∃hi lo c1 lo1 hi1 c2 lo2 c',hi=x*y/BB/\lo=x*y%BB/\lo1=(lo+o+0)%BB/\c1=(lo+o+0)/BB/\hi1=hi+c1/\hi1<BB/\lo2=(lo1+c+0)%BB/\c2=(lo1+c+0)/BB/\c'=hi1+c2/\c'<BB/\lo2<BB /\
   lo2+BB*c'=x*y+o+c:=by
 refine⟨_,_,_,_,_,_,_,_,rfl,rfl,rfl,rfl,rfl,?_,rfl,rfl,rfl,?_,B3 _ (by decide),?_⟩
 all_goals
  unfold BB at*;have e1:=Eo (x*y) 18446744073709551616;have e2:=Eo (x*y%18446744073709551616+o+0) 18446744073709551616;have e3:=Eo ((x*y%18446744073709551616+o+0)%18446744073709551616+c+0) 18446744073709551616;have hxy:x*y<=(18446744073709551616-1)*(18446744073709551616-1):=Ie (by omega) (by omega);have hk:(18446744073709551616-1)*(18446744073709551616-1)=340282366920938463426481119284349108225:=by decide
  rw[hk]at hxy;have l1:=B3 (x*y) (show 18446744073709551616>0 by decide);have l2:=B3 (x*y%18446744073709551616+o+0) (show 18446744073709551616>0 by decide);have l3:=B3 ((x*y%18446744073709551616+o+0)%18446744073709551616+c+0) (show 18446744073709551616>0 by decide);generalize x*y=p at*;generalize hA:p/18446744073709551616=A at*;generalize hB:p%18446744073709551616=B at*;generalize hC:(B+o+0)/18446744073709551616=C at*;generalize hD:(B+o+0)%18446744073709551616=D at*;generalize hE:(D+c+0)/18446744073709551616=E at*;generalize hF:(D+c+0)%18446744073709551616=F at*;omega
theorem Vx {n:Nat}(h:n<BB):IntKind.u64.wrap (n:Int)=(n:Int):=wU (by omega) (by unfold BB at h;omega)
theorem oN (a b:List Nat)(ha:Wd a)(hb:Wd b)(hla:a.length<1000000)(hlb:b.length<1000000):AK C0 206 [wL a,wL b] (wD (AS a*AS b)):=by
 refine Ak.walk w1 aO rfl λF=>?_
 unfold wL;have ea:(((a.map AR).length:Nat):Int)=(a.length:Int):=by rw[Ac]
 have eb:(((b.map AR).length:Nat):Int)=(b.length:Int):=by rw[Ac]
 have wl:IntKind.i64.wrap ((a.length:Int)+(b.length:Int))=((a.length+b.length:Nat):Int):=by rw[wI (by omega) (by omega)];omega
 have r3:List.replicate (a.length+b.length) (ofV (.int .u64 0))=(List.replicate (a.length+b.length) 0).map AR:=by rw[Jo];rfl
 refine sR 0 ?_;refine sZ 100 ?_;refine AU (BY ea eb wl kN) ?_;refine AC.seq ?_;refine sZ 200 ?_;refine AU ea ?_;refine AC.block ?_;refine AC.loop (α:=Nat×List Nat×Nat) (λp=>⟨[(0,.sl false 1 (a.map AR)),(1,.sl false 1 (b.map AR)),(4,CT),(5,.osl 105 6 1 0 (a.length+b.length)),(20,.sl false 1 (a.map AR)),(21,i64 a.length),(22,i64 p.1)],[⟨105,6,210,1,p.2.1.map AR⟩],p.2.2⟩) (λp=>a.length-p.1)
  (λp=>p.1<=a.length/\p.2.1.length=a.length+b.length/\Wd p.2.1/\AS p.2.1=AS (a.take p.1)*AS b/\∀k,p.1+b.length<=k->∀d,p.2.1[k]?=some d->d=0) (0,List.replicate (a.length+b.length) 0,_)
  ⟨BU _,by simp,MY _,by simp[AS,QG],λk _ d hd=>Pc (Aw hd)⟩ (by rw[<-r3];exact AJ) ?_
 rintro⟨i,o,m⟩ F ⟨h1,h2,h3,h4,h5⟩;dsimp only at h1 h2 h3 h4 h5⊢;refine sR 300 ?_;refine AC.seq ?_;refine AM ?_
 (refine By (λh23=>?_) (λh23=>?_))<;>(try simp only[Bj,Bw]at h23)<;>(try simp only[h23])
 ·have hi:i<a.length:=by simpa using h23
  obtain⟨x,hx⟩:∃x,a[i]?=some x:=⟨a[i],A9 hi⟩
  have hx':=DV hx;have hxl:x<BB:=ha x (Aw hx);have wi:IntKind.i64.wrap ((i:Int)+1)=((i+1:Nat):Int):=wI (by omega) (by omega);have hax:AS (a.take (i+1))=AS (a.take i)+BB^i*x:=by rw[FG hx,Gi (i:=i) (by rw[Bd];omega)]
  refine An ?_;refine AC.seq ?_;refine AC.block ?_;refine sR 400 ?_;refine Bq kT hx' ?_;refine BP ?_;refine sR 500 ?_;refine AC.seq ?_;refine sZ 600 ?_;refine AU eb ?_;refine AC.block ?_;refine AC.loop (α:=Nat×Nat×List Nat×Nat) (λp=>⟨[(0,.sl false 1 (a.map AR)),(1,.sl false 1 (b.map AR)),(4,CT),(5,.osl 105 6 1 0 (a.length+b.length)),(6,i64 i),(7,AR x),(8,AR p.2.1),(20,.sl false 1 (a.map AR)),(21,i64 a.length),(22,i64 i),(27,.sl false 1 (b.map AR)),(28,i64 b.length),(29,i64 p.1)],[⟨105,6,210,1,p.2.2.1.map AR⟩],p.2.2.2⟩) (λp=>b.length-p.1)
   (λp=>p.1<=b.length/\p.2.1<BB/\p.2.2.1.length=a.length+b.length/\Wd p.2.2.1/\AS p.2.2.1+BB^(i+p.1)*p.2.1=AS (a.take i)*AS b+BB^i*x*AS (b.take p.1)/\∀k,i+b.length<=k->∀d,p.2.2.1[k]?=some d->d=0) (0,0,o,_)
   ⟨BU _,show 0<BB by decide,h2,h3,by simp[AS,h4],h5⟩ AJ ?_
  rintro⟨j,c,q,m2⟩ F ⟨g1,g2,g3,g4,g5,g6⟩;dsimp only at g1 g2 g3 g4 g5 g6⊢;clear h2 h3 h4 h5 r3 wl;refine sR 700 ?_;refine AC.seq ?_;refine AM ?_
  (refine By (λh30=>?_) (λh30=>?_))<;>(try simp only[Bj,Bw]at h30)<;>(try simp only[h30])
  ·have hj:j<b.length:=by simpa using h30
   obtain⟨y,hy⟩:∃y,b[j]?=some y:=⟨b[j],A9 hj⟩
   have hy':=DV hy;have hyl:y<BB:=hb y (Aw hy);obtain⟨z,hz⟩:∃z,q[i+j]?=some z:=⟨q[i+j],A9 (by omega)⟩
   have hz':=DV hz;have hzl:z<BB:=g4 z (Aw hz);have wj:IntKind.i64.wrap ((j:Int)+1)=((j+1:Nat):Int):=wI (by omega) (by omega);have wij:IntKind.i64.wrap ((i:Int)+(j:Int))=((i+j:Nat):Int):=by rw[wI (by omega) (by omega)];omega
   have hbx:AS (b.take (j+1))=AS (b.take j)+BB^j*y:=by rw[FG hy,Gi (i:=j) (by rw[Bd];omega)]
   have cm:=OP x y hxl hyl;obtain⟨hi',lo,c1,lo1,hi1,c2,lo2,c',e1,e2,e3,e4,e5,e6,e7,e8,e9,e10,e11,e12⟩:=kD hxl hyl hzl g2;rw[show x*y/18446744073709551616=hi' from e1.symm,show x*y%18446744073709551616=lo from e2.symm]at cm;have e3':(lo+z+0)%18446744073709551616=lo1:=e3.symm;have e4':(lo+z+0)/18446744073709551616=c1:=e4.symm;have e7':(lo1+c+0)%18446744073709551616=lo2:=e7.symm;have e8':(lo1+c+0)/18446744073709551616=c2:=e8.symm;have w6:IntKind.u64.wrap ((hi':Int)+(c1:Int))=(hi1:Int):=by rw[<-Int.natCast_add,<-e5];exact Vx e6
   have w7:IntKind.u64.wrap ((hi1:Int)+(c2:Int))=(c':Int):=by rw[<-Int.natCast_add,<-e9];exact Vx e10
   refine An ?_;refine AC.seq ?_;refine AC.block ?_;refine sR 800 ?_;refine Bq kT hy' ?_;refine BP ?_;refine sR 900 ?_;refine BE.same _ cm AI ?_;refine BP ?_;refine sR 1000 ?_;refine sZ 1100 ?_;refine AE (Dp wij kN BV hz' e3' e4') ?_;refine sZ 1200 ?_;refine AU w6 ?_;refine sZ 1300 ?_;refine AU (Ah e7' e8') ?_;refine Ao w1 1400 (by kernel_rfl) ?_;refine AE (CH wij w7 kN BV hz') ?_;rw[show(D.prim (Value.int IntKind.u64 (lo2:Int)))=AR lo2 from rfl,map_set];refine Ao w1 1500 (by kernel_rfl) ?_;refine AU wj ?_;refine⟨(j+1,c',q.set (i+j) lo2,_),⟨hj,e10,by dsimp only;rw[DH];exact g3,g4.set e11,?_,λk hk d hd=>?_⟩,by dsimp only;omega,AJ⟩
   ·dsimp only
    have hs:=JN (d:=lo2) hz;rw[hbx,BN,<-Ea (AS (a.take i)*AS b),<-g5];have h6:BB^(i+j)*lo2+BB^(i+(j+1))*c'=BB^i*x*(BB^j*y)+BB^(i+j)*z+BB^(i+j)*c:=by
     have:BB^i*x*(BB^j*y)=BB^(i+j)*(x*y):=by
      rw[F5,Bz,Bz,Ic x]
     rw[this,<-Ea i j 1,CN,Bz,<-BN,<-BN,<-BN,e12]
    omega
   ·dsimp only at hk hd
    rw[Ih (by omega)]at hd;exact g6 k hk d hd
  ·have hj:j=b.length:=by
    have:¬j<b.length:=by simpa using h30
    omega
   subst hj;obtain⟨z,hz⟩:∃z,q[i+b.length]?=some z:=⟨q[i+b.length],A9 (by omega)⟩
   have hz0:z=0:=g6 _ (Af _) _ hz;subst hz0;have hz':=DV hz;have wij:IntKind.i64.wrap ((i:Int)+(b.length:Int))=((i+b.length:Nat):Int):=by rw[wI (by omega) (by omega)];omega
   have wij0:IntKind.i64.wrap ((i:Int)+(((b.map AR).length:Nat):Int))=((i+b.length:Nat):Int):=by rw[eb];exact wij
   refine B9 ?_;refine Ao w1 1600 (by kernel_rfl) ?_;refine AE (CH eb wij kN BV hz') ?_;rw[map_set];refine Ao w1 1700 (by kernel_rfl) ?_;refine AU wi ?_;refine⟨(i+1,q.set (i+b.length) c,_),⟨hi,by dsimp only;rw[DH];exact g3,g4.set g2,?_,λk hk d hd=>?_⟩,by dsimp only;omega,AJ⟩
   ·dsimp only
    have hs:=JN (d:=c) hz;rw[B8 (Af _)]at g5;rw[hax,Bx];omega
   ·dsimp only at hk hd
    rw[Ih (by omega)]at hd;exact g6 k (by omega) d hd
 ·have hi:i=a.length:=by
   have:¬i<a.length:=by simpa using h23
   omega
  subst hi;rw[B8 (Af _)]at h4;refine B9 ?_;refine AC.weak ⟨[(5,.sl false 1 (o.map AR))],[],_⟩ (U4 h2) ?_;refine sR 1800 ?_;refine BE.same _ (trim_ok o h3 (by omega)) AI ?_;refine BP ?_;refine Ai ?_;exact AL (by rw[h4]) AA.out
structure GI where
 z:Int
 sm:Bool
def GI.wf (x:GI):Prop:=(x.sm=true→-9223372036854775808<=x.z/\x.z<9223372036854775808)/\(x.sm=false->¬Sm x.z)
def GI.s (x:GI):Int:=match x.sm with
 |true=>x.z
 |false=>if x.z<0 then -1 else 1
def GI.w (x:GI):D:=match x.sm with
 |true=>CT
 |false=>wD x.z.natAbs
abbrev GI.D (x:GI):D:=.agg [i64 x.s,x.w]
theorem vM (x:GI):B6 x.w:=by
 unfold GI.w;split
 ·exact .prim _
 ·exact KN _
instance  (x:GI):AA x.w:=⟨vM x⟩
instance  (z:Int):Decidable (Sm z):=inferInstanceAs (Decidable (_/\_))
def AW (z:Int):GI:=⟨z,decide (Sm z)⟩
theorem Ch (z:Int):(AW z).wf:=by
 refine⟨λh=>?_,λh=>?_⟩
 ·have h:Sm z:=DE h
  exact⟨Int.le_of_lt h.1,h.2⟩
 ·exact DS h
theorem JU {z:Int}(h:Sm z):AW z=⟨z,true⟩:=by unfold AW;rw[AX h]
theorem Ui {z:Int}(h:¬Sm z):AW z=⟨z,false⟩:=by unfold AW;rw[Ag h]
theorem MO {n:Nat}(h0:n≠0)(h:n<BB):Ae n=[n]:=by
 rw[GC h0,Di h,HP h,Fq]
theorem Hd {n:Nat}(h:n≠0):(Ae n).map AR≠[]:=by rw[GC h];simp
theorem bY (x:GI)(h:x.wf):(x.s<0)=(x.z<0):=by
 obtain⟨z,sm⟩:=x;cases sm with
 |true=>rfl
 |false=>
  unfold GI.s;dsimp only;split<;>simp<;>omega
theorem we {H Hf:Hp}(n:Nat)(h0:n≠0)(h:n<BB):Fz H Hf (.sl true 1 [AR n]) (wD n):=by
 unfold wD wL;rw[MO h0 h];exact .nn true 1 _
theorem ck {H Hf:Hp}{a b c d:D}(h:Fz H Hf a c)(k:Fz H Hf b d):Fz H Hf (.tup [a,b]) (.tup [c,d]):=.tup rfl λi x y hx hy=>by
 match i with
 | 0=>simp at hx hy;subst hx;subst hy;exact h
 | 1=>simp at hx hy;subst hx;subst hy;exact k
 |i+2=>simp at hx
instance  (a b:Nat):AA (.tup [wD a,wD b]):=AI
theorem nP:AK C0 204 [i64 (-9223372036854775808)] (AR 9223372036854775808):=CF DY 1000 40 (by kernel_rfl)
theorem Oq {z:Int}(h1 : -9223372036854775808<=z)(h2:z<9223372036854775808):AK C0 204 [i64 z] (AR z.natAbs):=by
 by_cases h:z = -9223372036854775808
 ·subst h;exact nP
 ·exact qD z ⟨by omega,h2⟩
theorem JM (x:GI)(h:x.wf):AK C0 167 [x.D] (.tup [Aq (decide (x.z<0)),wD x.z.natAbs]):=by
 refine Ak.walk w1 bC rfl λF=>?_
 obtain⟨z,sm⟩:=x;obtain⟨h1,h2⟩:=h;unfold GI.D GI.s GI.w;cases sm with
 |true=>
  obtain⟨h3,h4⟩:=h1 rfl;dsimp only at h3 h4⊢;have cs:=Oq h3 h4;refine sR 0 ?_;refine AC.seq ?_;refine AC.block ?_;refine sR 100 ?_;refine AM ?_;refine sR 300 ?_;refine AM ?_
  (refine By (λh13=>?_) (λh13=>?_))<;>(try simp only[Bj,Bw]at h13)<;>(try simp only[h13])
  ·have hz:z=0:=by simpa using h13
   subst hz;refine sR 400 ?_;refine Ai ?_;refine⟨_,ck (.refl _) (c:=Aq (decide ((0:Int)<0))) (d:=wD (Int.natAbs 0)) ?_,AA.out,rfl⟩;show Fz _ _ CT (wD 0);unfold wD wL;rw[Fq];exact .nil 1
  ·have hz:z≠0:=by simpa using h13
   refine An ?_;refine AC.seq ?_;refine B7 w1 500 [0,1,2,3,4,5,6,7] [8] (by kernel_rfl) ?_;refine AE kN ?_;refine BZ.same _ cs AI ?_;refine BP ?_;refine Ai ?_;refine⟨_,ck (.refl _) (c:=Aq (decide (z<0))) (we z.natAbs (by omega) (by unfold BB;omega)),AA.out,rfl⟩
 |false=>
  have hb:=h2 rfl;have hs:=bY ⟨z,false⟩ ⟨h1,h2⟩;unfold GI.s at hs;dsimp only at hb hs⊢;have hne:=Hd (n:=z.natAbs) (by intro h0;apply hb;exact⟨by omega,by omega⟩);have hp:B6 (.sl false 1 ((Ae z.natAbs).map AR)):=KN _;unfold wD wL;generalize(Ae z.natAbs).map AR=l at*;generalize(if z<0 then(-1:Int)else 1)=sg at*;refine sR 0 ?_;refine AC.seq ?_;refine AC.block ?_;refine sZ 100 ?_;refine AU (As (@ne_eq (List D)) hne ES) ?_;refine AM ?_;refine AC.seq ?_;refine B7 w1 200 [0,1,2,3,4,5] [6] (by kernel_rfl) ?_;refine BP ?_;refine Ai ?_;refine AL ?_ (.tup λd hd=>?_)
  ·simp only[hs]
  ·simp only[BG,Db,or_false]at hd
   rcases hd with rfl|rfl
   ·exact .prim _
   ·exact hp
def D2 (neg:Bool)(n:Nat):Int:=match neg with
 |true=>-(n:Int)
 |false=>n
theorem Lc (neg:Bool)(n:Nat)(hlen:(Ae n).length<4000000):AK C0 205 [Aq neg,wD n] (AW (D2 neg n)).D:=by
 refine Ak.walk w1 aN rfl λF=>?_
 by_cases h0:n=0
 ·subst h0
  have e:AW (D2 neg 0)=⟨0,true⟩:=by cases neg<;>exact JU ⟨by decide,by decide⟩
  rw[e];unfold wD wL GI.D GI.s GI.w;rw[Fq];dsimp only[List.map];refine sR 0 ?_;refine AC.seq ?_;refine AC.block ?_;refine sR 100 ?_;refine AM ?_;refine sR 200 ?_;refine Ai ?_;exact AL rfl AA.out
 ·by_cases h1:n<BB
  ·have hl:=MO h0 h1
   have b1:(((1:Nat):Int)==0)=false:=rfl;have b2:(((1:Nat):Int)==1)=true:=rfl;have hx:[AR n][(0:Int).toNat]?=some (AR n):=rfl
   by_cases h2:n<=9223372036854775807
   ·have b3:decide ((n:Int)<=9223372036854775807)=true:=AX (by omega)
    have hsm:Sm (D2 neg n):=by unfold D2;split<;>exact⟨by omega,by omega⟩
    rw[JU hsm];unfold wD wL GI.D GI.s GI.w;rw[hl];dsimp only[List.map];have w1':IntKind.i64.wrap (n:Int)=(n:Int):=wN h2;have w2':IntKind.i64.wrap (0-(n:Int)) = -(n:Int):=by rw[wI (by omega) (by omega)];omega
    cases neg with
    |true=>
     unfold D2;dsimp only;refine sR 0 ?_;refine AC.seq ?_;refine AC.block ?_;refine sZ 100 ?_;refine AU b1 ?_;refine AM ?_;refine sZ 300 ?_;refine AE (Ah b2 b3) ?_;refine AE (Ah b2 b3) ?_;refine Bq b2 hx ?_;refine AE (Ah b2 b3) ?_;refine AE (Ah b2 b3) ?_;refine AM ?_;refine sZ 400 ?_;refine AE b2 ?_;refine Bq b2 hx ?_;refine AE (Ah w1' w2') ?_;refine Ai ?_;exact AL rfl AA.out
    |false=>
     unfold D2;dsimp only;refine sR 0 ?_;refine AC.seq ?_;refine AC.block ?_;refine sZ 100 ?_;refine AU b1 ?_;refine AM ?_;refine sZ 300 ?_;refine AE (Ah b2 b3) ?_;refine AE (Ah b2 b3) ?_;refine Bq b2 hx ?_;refine AE (Ah b2 b3) ?_;refine AE (Ah b2 b3) ?_;refine AM ?_;refine sZ 500 ?_;refine AE (Ah b2 b3) ?_;refine AE (Ah b2 b3) ?_;refine Bq b2 hx ?_;refine AE (Ah b2 b3) ?_;refine AE (Ah b2 b3) ?_;refine AM ?_;refine sZ 600 ?_;refine AE b2 ?_;refine Bq b2 hx ?_;refine AE (Ah w1' w2') ?_;refine Ai ?_;exact AL rfl AA.out
   ·have b3:decide ((n:Int)<=9223372036854775807)=false:=Ag (by omega)
    have hsm:¬Sm (D2 neg n):=by
     intro hs;have h3:=hs.1;have h4:=hs.2
     revert h3 h4
     unfold D2;split<;>intro h3 h4<;>omega
    rw[Ui hsm];have ha:(D2 neg n).natAbs=n:=by unfold D2;split<;>omega
    unfold GI.D GI.s GI.w;dsimp only;rw[ha];unfold wD wL;rw[hl];dsimp only[List.map];cases neg with
    |true=>
     have hs:(if D2 true n<0 then(-1:Int)else 1) = -1:=AG (by show -(n:Int)<0;omega);rw[hs];refine sR 0 ?_;refine AC.seq ?_;refine AC.block ?_;refine sZ 100 ?_;refine AU b1 ?_;refine AM ?_;refine sZ 300 ?_;refine AE (Ah b2 b3) ?_;refine AE (Ah b2 b3) ?_;refine Bq b2 hx ?_;refine AE (Ah b2 b3) ?_;refine AE (Ah b2 b3) ?_;refine AM ?_;refine sZ 500 ?_;refine AE (Ah b2 b3) ?_;refine AE (Ah b2 b3) ?_;refine Bq b2 hx ?_;refine AE (Ah b2 b3) ?_;refine AE (Ah b2 b3) ?_;refine AM ?_;refine sR 700 ?_;refine AM ?_;refine sR 800 ?_;refine Ai ?_;exact AL rfl AA.out
    |false=>
     have hs:(if D2 false n<0 then(-1:Int)else 1)=1:=AF (by show ¬(n:Int)<0;omega);rw[hs];refine sR 0 ?_;refine AC.seq ?_;refine AC.block ?_;refine sZ 100 ?_;refine AU b1 ?_;refine AM ?_;refine sZ 300 ?_;refine AE (Ah b2 b3) ?_;refine AE (Ah b2 b3) ?_;refine Bq b2 hx ?_;refine AE (Ah b2 b3) ?_;refine AE (Ah b2 b3) ?_;refine AM ?_;refine sZ 500 ?_;refine AE (Ah b2 b3) ?_;refine AE (Ah b2 b3) ?_;refine Bq b2 hx ?_;refine AE (Ah b2 b3) ?_;refine AE (Ah b2 b3) ?_;refine AM ?_;refine sR 700 ?_;refine AM ?_;refine An ?_;refine sR 900 ?_;refine Ai ?_;exact AL rfl AA.out
  ·have hl2:2<=(Ae n).length:=by
    rw[GC h0,GC (n:=n/BB) (by
     intro h
     have:=EY n BB
     have:=B3 n (show BB>0 by decide)
     rw[h]at*;omega)]
    simp
   have hsm:¬Sm (D2 neg n):=by
    intro hs;have h3:=hs.1;have h4:=hs.2;have h5:BB<=n:=by omega
    unfold BB at h5
    revert h3 h4
    unfold D2;split<;>intro h3 h4<;>omega
   rw[Ui hsm];have ha:(D2 neg n).natAbs=n:=by unfold D2;split<;>omega
   have hp:AA (.sl false 1 ((Ae n).map AR)):=⟨KN _⟩
   unfold GI.D GI.s GI.w;dsimp only;rw[ha];unfold wD wL;have hel:((((Ae n).map AR).length:Nat):Int)=((Ae n).length:Int):=by rw[Ac]
   generalize(Ae n).map AR=l at*;generalize hL:(Ae n).length=L at*;have b1:((L:Int)==0)=false:=Br.2 (by omega);have b2:((L:Int)==1)=false:=Br.2 (by omega);cases neg with
   |true=>
    have hs:(if D2 true n<0 then(-1:Int)else 1) = -1:=AG (by show -(n:Int)<0;omega);rw[hs];refine sR 0 ?_;refine AC.seq ?_;refine AC.block ?_;refine sZ 100 ?_;refine AU (Ah hel b1) ?_;refine AM ?_;refine sZ 300 ?_;refine AU (Ah hel b2) ?_;refine AE (Ah hel b2) ?_;refine AE (Ah hel b2) ?_;refine AM ?_;refine sZ 500 ?_;refine AU (Ah hel b2) ?_;refine AE (Ah hel b2) ?_;refine AM ?_;refine sR 700 ?_;refine AM ?_;refine sR 800 ?_;refine Ai ?_;exact AL rfl AA.out
   |false=>
    have hs:(if D2 false n<0 then(-1:Int)else 1)=1:=AF (by show ¬(n:Int)<0;omega);rw[hs];refine sR 0 ?_;refine AC.seq ?_;refine AC.block ?_;refine sZ 100 ?_;refine AU (Ah hel b1) ?_;refine AM ?_;refine sZ 300 ?_;refine AU (Ah hel b2) ?_;refine AE (Ah hel b2) ?_;refine AE (Ah hel b2) ?_;refine AM ?_;refine sZ 500 ?_;refine AU (Ah hel b2) ?_;refine AE (Ah hel b2) ?_;refine AM ?_;refine sR 700 ?_;refine AM ?_;refine An ?_;refine sR 900 ?_;refine Ai ?_;exact AL rfl AA.out
theorem Mu (x:GI)(h:x.wf):AK C0 200 [x.D] (i64 (max (-1) (min 1 x.z))):=by
 refine Ak.walk w1 aJ rfl λF=>?_
 have e:max (-1) (min 1 x.s)=max (-1) (min 1 x.z):=by
  obtain⟨z,sm⟩:=x;cases sm with
  |true=>rfl
  |false=>
   have hb:=h.2 rfl;unfold GI.s;dsimp only at hb⊢;unfold Sm at hb;split<;>omega
 refine fR 0 ?_;refine fR 100 ?_;rw[e];refine Ai ?_;exact AL rfl AA.out
theorem nO (z:Int):D2 (!decide (z<0)) z.natAbs = -z:=by
 by_cases h:z<0
 ·rw[AX h];show((z.natAbs:Nat):Int) = -z;omega
 ·rw[Ag h];show -((z.natAbs:Nat):Int) = -z;omega
def GI.few (x:GI):Prop:=(Ae x.z.natAbs).length<1000000
theorem O6 (x:GI)(h:x.wf)(hf:x.few):AK C0 199 [x.D] (AW (-x.z)).D:=by
 by_cases hs:x.sm=true/\x.z ≠ -9223372036854775808
 ·obtain⟨z,sm⟩:=x
  obtain⟨rfl,hz⟩:=hs;have h1:=h.1 rfl;dsimp only at h1 hz⊢;have hsm:Sm z:=⟨by omega,h1.2⟩
  have:=ub z hsm
  rw[JU ⟨by have:=hsm.2;omega,by have:=hsm.1;omega⟩];exact this
 ·refine Ak.walk w1 UY rfl λF=>?_
  have cp:=JM x h;have cm:=Lc (!decide (x.z<0)) x.z.natAbs (F3 hf (by decide));rw[nO]at cm;have hpr:AA (AW (-x.z)).w:=AI;dsimp only[GI.D]at cp cm⊢;generalize(AW (-x.z)).s=rs at*;generalize(AW (-x.z)).w=rw at*;obtain⟨z,sm⟩:=x;unfold GI.s GI.w at*;cases sm with
  |true=>
   have hz:z = -9223372036854775808:=Dc λh0=>hs ⟨rfl,h0⟩
   subst hz;dsimp only at cp cm⊢;refine fR 0 ?_;refine AC.seq ?_;refine sZ 100 ?_
   repeat'(first|(refine And.intro (by exact CC) ?_;refine At ?_)|((refine By (λhb=>?_) (λhb=>?_))<;>(try simp only[Bj,Bw]at hb)<;>(try simp only[hb])<;>(refine At ?_)))
   refine AM ?_;refine An ?_;refine fR 300 ?_;refine dI cp ?_;refine fR 400 ?_;refine dI cm ?_;refine Ai ?_;exact AL rfl AA.out
  |false=>
   have hne:=Hd (n:=z.natAbs) (by
    intro h0
    have:=h.2 rfl
    apply this;exact⟨by dsimp only;omega,by dsimp only;omega⟩)
   dsimp only at cp cm⊢;unfold wD wL at*;have hp:AA (.sl false 1 ((Ae z.natAbs).map AR)):=⟨KN _⟩
   generalize(Ae z.natAbs).map AR=l at*;generalize(if z<0 then(-1:Int)else 1)=sg at*;generalize decide (z<0)=nb at*;refine fR 0 ?_;refine AC.seq ?_;refine AC.seq ?_;refine Ao w1 100 (by kernel_rfl) ?_;refine AU (As (@ne_eq (List D)) hne ES) ?_;refine AE kT ?_;refine AE kT ?_;refine AM ?_;refine An ?_;refine fR 300 ?_;refine dI cp ?_;refine fR 400 ?_;refine dI cm ?_;refine Ai ?_;exact AL rfl AA.out
theorem y6 (a b:Nat)(ha:(Ae a).length<1000000)(hb:(Ae b).length<1000000):AK C0 207 [wD a,wD b] (wD (a+b)):=by
 have:=oG (Ae a) (Ae b) (FH a) (FH b) (F3 ha (by decide)) (F3 hb (by decide))
 rwa [Er,Er]at this
theorem fg (a b:Nat)(h:b<=a)(ha:(Ae a).length<1000000):AK C0 209 [wD a,wD b] (wD (a-b)):=by
 have:=qI (Ae a) (Ae b) (FH a) (FH b) (F3 ha (by decide)) (HZ b a h) (by rw[Er,Er];exact h)
 rwa [Er,Er]at this
theorem yy (a b:Nat)(ha:(Ae a).length<1000000)(hb:(Ae b).length<1000000):AK C0 206 [wD a,wD b] (wD (a*b)):=by
 have:=oN (Ae a) (Ae b) (FH a) (FH b) ha hb
 rwa [Er,Er]at this
theorem G4 {n k:Nat}(h:n<BB^k):(Ae n).length<=k:=by
 induction k generalizing n with
 |zero=>
  have:n=0:=by simpa using h
  subst this;rw[Fq];exact Af _
 |succ k ih=>
  by_cases h0:n=0
  ·subst h0;rw[Fq];exact BU _
  ·rw[GC h0,Bo]
   exact Nat.succ_le_succ (ih (E8 (by rw[BT,<-CN];exact h)))
theorem JL (n:Nat):n<BB^(Ae n).length:=by
 have:=Hj (FH n)
 rwa [Er]at this
theorem XB (a b:Nat):(Ae (a+b)).length<=max (Ae a).length (Ae b).length+1:=by
 refine G4 ?_;have h1:=JL a;have h2:=JL b;have m1:BB^(Ae a).length<=BB^max (Ae a).length (Ae b).length:=FT (by decide) (Nat.le_max_left _ _);have m2:BB^(Ae b).length<=BB^max (Ae a).length (Ae b).length:=FT (by decide) (Nat.le_max_right _ _);rw[CN];generalize BB^max (Ae a).length (Ae b).length=q at*;unfold BB;omega
theorem XC (a b:Nat):(Ae (a-b)).length<=(Ae a).length:=HZ _ _ (Nat.sub_le _ _)
def EC (x y:GI):GI:=if x.sm=true/\y.sm=true/\x.z+y.z = -9223372036854775808 then⟨x.z+y.z,true⟩else AW (x.z+y.z)
theorem Mp (x y:GI):(EC x y).z=x.z+y.z:=by unfold EC;split<;>rfl
theorem Mb (x y:GI):(EC x y).wf:=by
 unfold EC;split
 ·rename_i h
  refine⟨λ_=>?_,λh=>by cases h⟩;dsimp only;rw[h.2.2];decide
 ·exact Ch _
theorem jM (x y:GI)(hx:x.sm=true)(hy:y.sm=true)(h1 : -9223372036854775808<=x.z+y.z)(h2:x.z+y.z<9223372036854775808):AK C0 153 [x.D,y.D] (EC x y).D:=by
 obtain⟨a,sa⟩:=x;obtain⟨b,sb⟩:=y;dsimp only at hx hy h1 h2;subst hx;subst hy;have e:(EC ⟨a,true⟩ ⟨b,true⟩).D=C6 (a+b):=by
  unfold EC;dsimp only;split
  ·rfl
  ·rename_i h
   have h3:¬a+b = -9223372036854775808:=λh0=>h ⟨rfl,rfl,h0⟩
   rw[JU ⟨by omega,h2⟩];rfl
 rw[e];show AK C0 _ [C6 a,C6 b] _;refine Ak.walk w1 UW rfl λF=>?_
 refine fR 0 ?_;refine AC.seq ?_;refine sZ 100 ?_
 repeat'(first|(refine And.intro (by exact CC) ?_;refine At ?_)|((refine By (λhb=>?_) (λhb=>?_))<;>(try simp only[Bj,Bw]at hb)<;>(try simp only[hb])<;>(refine At ?_)))
 refine AM ?_;have e1:IntKind.i64.wrap (a+b)=a+b:=wI (by omega) (by omega);have e2:(decide (a+b>a)==decide (b>0))=true:=by
  rw[EE,C8];omega
 refine sZ 200 ?_;refine Jx e1 ?_;refine fR 300 ?_;rw[e2];refine AM ?_;refine fR 400 ?_;refine Ai ?_;exact AL rfl AA.out
theorem oF (x y:GI)(hx:x.wf)(hy:y.wf)(fx:x.few)(fy:y.few)(hn:¬(x.sm=true/\y.sm=true∧-9223372036854775808<=x.z+y.z/\x.z+y.z<9223372036854775808)):AK C0 153 [x.D,y.D] (AW (x.z+y.z)).D:=by
 refine Ak.walk w1 UW rfl λF=>?_
 have cx:=JM x hx;have cy:=JM y hy;have hpr:AA (AW (x.z+y.z)).w:=AI;have hpx:AA x.w:=AI;have hpy:AA y.w:=AI;have la:=XB x.z.natAbs y.z.natAbs;have ls:=XC x.z.natAbs y.z.natAbs;have ls':=XC y.z.natAbs x.z.natAbs;unfold GI.few at fx fy;dsimp only[GI.D]at*;refine fR 0 ?_;refine EX ⟨[(2,.optr 0 0 2 0 0),(3,.optr 1 1 2 0 0),(4,.optr 2 2 2 0 0)],[⟨2,2,120,2,[C6 0]⟩,⟨1,1,120,2,[.agg [i64 y.s,y.w]]⟩,⟨0,0,120,2,[.agg [i64 x.s,x.w]]⟩],60⟩ ?_ ?_
 ·obtain⟨a,sa⟩:=x
  obtain⟨b,sb⟩:=y;clear cx cy la ls ls' hpr;have nx:sa=false->(Ae a.natAbs).map AR≠[]:=λh=>Hd (by
   intro h0;subst h;exact hx.2 rfl ⟨by dsimp only;omega,by dsimp only;omega⟩)
  have ny:sb=false->(Ae b.natAbs).map AR≠[]:=λh=>Hd (by
   intro h0;subst h;exact hy.2 rfl ⟨by dsimp only;omega,by dsimp only;omega⟩)
  unfold GI.s GI.w wD wL at*;dsimp only at*;generalize(Ae a.natAbs).map AR=ka at*;generalize(Ae b.natAbs).map AR=kb at*;cases sa with
  |false=>
   have nx:=nx rfl;dsimp only at*;generalize(if a<0 then(-1:Int)else 1)=sg at*;generalize(match sb with|true=>b|false=>if b<0 then(-1:Int)else 1)=sh at*;generalize(match sb with|true=>CT|false=>D.sl false 1 kb)=wy at*;refine AC.seq ?_;refine Ao w1 100 (by kernel_rfl) ?_;refine AU (As (@ne_eq (List D)) nx ES) ?_;refine AE kT ?_;refine AE kT ?_;refine AM ?_;refine An ?_;exact And.intro (by trivial) (AJ)
  |true=>
   dsimp only at*;cases sb with
   |false=>
    have ny:=ny rfl;dsimp only at*;generalize(if b<0 then(-1:Int)else 1)=sh at*;refine AC.seq ?_;refine Ao w1 100 (by kernel_rfl) ?_;refine AU (As (@ne_eq (List D)) ny ES) ?_;refine AE (BY kT (@ne_eq (List D)) ny ES) ?_;refine AE (BY kT (@ne_eq (List D)) ny ES) ?_;refine AM ?_;refine An ?_;exact And.intro (by trivial) (AJ)
   |true=>
    have ra:=hx.1 rfl;have rb:=hy.1 rfl;dsimp only at*;have e2:(decide (IntKind.i64.wrap (a+b)>a)==decide (b>0))=false:=by
     have hov:¬(-9223372036854775808<=a+b/\a+b<9223372036854775808):=λh=>hn ⟨rfl,rfl,h.1,h.2⟩
     have ew:IntKind.i64.wrap (a+b)=a+b-18446744073709551616/\9223372036854775808<=a+b\/IntKind.i64.wrap (a+b)=a+b+18446744073709551616/\a+b < -9223372036854775808:=by
      have e1:(2:Int)^IntKind.i64.bits=18446744073709551616:=rfl;have e2:(2:Int)^(IntKind.i64.bits-1)=9223372036854775808:=rfl;have e3:IntKind.i64.signed=true:=rfl;unfold IntKind.wrap;simp only[e1,e2,e3,Gd,Gc];split<;>omega
     rw[Br,ne_eq,C8];omega
    refine sZ 100 ?_
    repeat'(first|(refine And.intro (by exact CC) ?_;refine At ?_)|((refine By (λhb=>?_) (λhb=>?_))<;>(try simp only[Bj,Bw]at hb)<;>(try simp only[hb])<;>(refine At ?_)))
    refine AM ?_;refine fR 200 ?_;refine fR 300 ?_;rw[e2];refine AM ?_;refine An ?_;exact And.intro (by trivial) (AJ)
 ·refine fR 500 ?_
  refine dI cx ?_;refine fR 600 ?_;refine dI cy ?_;refine AC.seq ?_;refine AC.block ?_;refine fR 700 ?_
  by_cases hs:(decide (x.z<0))=(decide (y.z<0))
  ·have e1:(decide (x.z<0)==decide (y.z<0))=true:=EE.2 hs
   rw[e1];have ca:=y6 x.z.natAbs y.z.natAbs fx fy;have cm:=Lc (decide (x.z<0)) (x.z.natAbs+y.z.natAbs) (by omega);have ez:D2 (decide (x.z<0)) (x.z.natAbs+y.z.natAbs)=x.z+y.z:=by
    rw[C8]at hs
    by_cases h:x.z<0
    ·rw[AX h];have:=hs.1 h;show -(((x.z.natAbs+y.z.natAbs:Nat)):Int)=_;omega
    ·rw[Ag h];have:¬y.z<0:=λh0=>h (hs.2 h0);show(((x.z.natAbs+y.z.natAbs:Nat)):Int)=_;omega
   rw[ez]at cm;dsimp only[GI.D]at cm;refine AM ?_;refine fR 800 ?_;refine dI ca ?_;refine dI cm ?_;refine Ai ?_;exact AL rfl AA.out
  ·have e1:(decide (x.z<0)==decide (y.z<0))=false:=Br.2 hs
   rw[e1];have cc:=Qp x.z.natAbs y.z.natAbs (by omega) (by omega);refine AM ?_;refine fR 900 ?_;refine dI cc ?_
   by_cases hc:y.z.natAbs<=x.z.natAbs
   ·have e2:decide (Dz (x.z.natAbs:Nat) (y.z.natAbs:Nat)>=0)=true:=AX (by unfold Dz;split<;>(try split)<;>omega)
    rw[e2];have ca:=fg x.z.natAbs y.z.natAbs hc fx;have cm:=Lc (decide (x.z<0)) (x.z.natAbs-y.z.natAbs) (by omega);have ez:D2 (decide (x.z<0)) (x.z.natAbs-y.z.natAbs)=x.z+y.z:=by
     rw[C8]at hs
     by_cases h:x.z<0
     ·rw[AX h];have:¬y.z<0:=λh0=>hs ⟨λ_=>h0,λ_=>h⟩;show -(((x.z.natAbs-y.z.natAbs:Nat)):Int)=_;omega
     ·rw[Ag h];have:y.z<0:=Dc λh0=>hs ⟨λh1=>Ad h1 h,λh1=>Ad h1 h0⟩;show(((x.z.natAbs-y.z.natAbs:Nat)):Int)=_;omega
    rw[ez]at cm;dsimp only[GI.D]at cm;refine AM ?_;refine fR 1000 ?_;refine dI ca ?_;refine dI cm ?_;refine Ai ?_;exact AL rfl AA.out
   ·have e2:decide (Dz (x.z.natAbs:Nat) (y.z.natAbs:Nat)>=0)=false:=Ag (by unfold Dz;split<;>(try split)<;>omega)
    rw[e2];have ca:=fg y.z.natAbs x.z.natAbs (by omega) fy;have cm:=Lc (decide (y.z<0)) (y.z.natAbs-x.z.natAbs) (by omega);have ez:D2 (decide (y.z<0)) (y.z.natAbs-x.z.natAbs)=x.z+y.z:=by
     rw[C8]at hs
     by_cases h:y.z<0
     ·rw[AX h];have:¬x.z<0:=λh0=>hs ⟨λ_=>h,λ_=>h0⟩;show -(((y.z.natAbs-x.z.natAbs:Nat)):Int)=_;omega
     ·rw[Ag h];have:x.z<0:=Dc λh0=>hs ⟨λh1=>Ad h1 h0,λh1=>Ad h1 h⟩;show(((y.z.natAbs-x.z.natAbs:Nat)):Int)=_;omega
    rw[ez]at cm;dsimp only[GI.D]at cm;refine AM ?_;refine An ?_;refine fR 1100 ?_;refine dI ca ?_;refine dI cm ?_;refine Ai ?_;exact AL rfl AA.out
theorem O2 (x y:GI)(hx:x.wf)(hy:y.wf)(fx:x.few)(fy:y.few):AK C0 153 [x.D,y.D] (EC x y).D:=by
 by_cases h:x.sm=true/\y.sm=true∧-9223372036854775808<=x.z+y.z/\x.z+y.z<9223372036854775808
 ·exact jM x y h.1 h.2.1 h.2.2.1 h.2.2.2
 ·have:=oF x y hx hy fx fy h
  have e:EC x y=AW (x.z+y.z):=by
   unfold EC;rw[AF];rintro⟨h1,h2,h3⟩;exact h ⟨h1,h2,by omega,by omega⟩
  rw[e];exact this
theorem Yr {z:Int}(h:(Ae z.natAbs).length<1000000):(AW (-z)).few:=by
 show(Ae (-z).natAbs).length<1000000;rw[MC];exact h
def IX (x y:GI):GI:=EC x (AW (-y.z))
theorem cQ (x y:GI):(IX x y).z=x.z-y.z:=by unfold IX;rw[Mp];show x.z + -y.z=_;omega
theorem Zd (x y:GI):(IX x y).wf:=Mb _ _
theorem fC (x y:GI)(hx:x.wf)(hy:y.wf)(fx:x.few)(fy:y.few):AK C0 284 [x.D,y.D] (IX x y).D:=by
 refine Ak.walk w1 bl rfl λF=>?_
 have c1:=O6 y hy fy;have c2:=O2 x (AW (-y.z)) hx (Ch _) fx (Yr fy);unfold IX;refine fR 0 ?_;refine AC.seq ?_;refine B7 w1 100 [0,1,2] [3,4] (by kernel_rfl) ?_;refine CA ?_;refine BZ.same _ (c1) AI ?_;refine CA ?_;refine dI c2 ?_;refine Ai ?_;exact AL rfl AA.out
theorem vo (x y:GI)(hx:x.wf)(hy:y.wf)(fx:x.few)(fy:y.few):AK C0 273 [x.D,y.D] (i64 (Dz x.z y.z)):=by
 by_cases h:x.sm=true/\y.sm=true
 ·obtain⟨a,sa⟩:=x
  obtain⟨b,sb⟩:=y;obtain⟨h1,h2⟩:=h;dsimp only at h1 h2;subst h1;subst h2;exact oo a b
 ·have cs:=fC x y hx hy fx fy
  have cg:=Mu (IX x y) (Zd x y);rw[cQ]at cg;have e:max (-1) (min 1 (x.z-y.z))=Dz x.z y.z:=by unfold Dz;split<;>(try split)<;>omega
  rw[e]at cg;have hpr:AA (IX x y).w:=AI;have hpx:AA x.w:=AI;have hpy:AA y.w:=AI;dsimp only[GI.D]at*;generalize(IX x y).s=rs at*;generalize(IX x y).w=rw at*;generalize Dz x.z y.z=r at*;refine Ak.walk w1 Ua rfl λF=>?_
  obtain⟨a,sa⟩:=x;obtain⟨b,sb⟩:=y;have nx:sa=false->(Ae a.natAbs).map AR≠[]:=λh=>Hd (by
   intro h0;subst h;exact hx.2 rfl ⟨by dsimp only;omega,by dsimp only;omega⟩)
  have ny:sb=false->(Ae b.natAbs).map AR≠[]:=λh=>Hd (by
   intro h0;subst h;exact hy.2 rfl ⟨by dsimp only;omega,by dsimp only;omega⟩)
  unfold GI.s GI.w wD wL at*;dsimp only at*;generalize(Ae a.natAbs).map AR=ka at*;generalize(Ae b.natAbs).map AR=kb at*;cases sa with
  |false=>
   have nx:=nx rfl;dsimp only at*;generalize(if a<0 then(-1:Int)else 1)=sg at*;generalize(match sb with|true=>b|false=>if b<0 then(-1:Int)else 1)=sh at*;generalize(match sb with|true=>CT|false=>D.sl false 1 kb)=wy at*;refine fR 0 ?_;refine AC.seq ?_;refine AC.seq ?_;refine Ao w1 100 (by kernel_rfl) ?_;refine AU (As (@ne_eq (List D)) nx ES) ?_;refine AE kT ?_;refine AE kT ?_;refine AM ?_;refine An ?_;refine fR 700 ?_;refine dI cs ?_;refine dI cg ?_;refine Ai ?_;exact AL rfl AA.out
  |true=>
   dsimp only at*;cases sb with
   |false=>
    have ny:=ny rfl;dsimp only at*;generalize(if b<0 then(-1:Int)else 1)=sh at*;refine fR 0 ?_;refine AC.seq ?_;refine AC.seq ?_;refine Ao w1 100 (by kernel_rfl) ?_;refine AU (As (@ne_eq (List D)) ny ES) ?_;refine AE (BY kT (@ne_eq (List D)) ny ES) ?_;refine AE (BY kT (@ne_eq (List D)) ny ES) ?_;refine AM ?_;refine An ?_;refine fR 700 ?_;refine dI cs ?_;refine dI cg ?_;refine Ai ?_;exact AL rfl AA.out
   |true=>exact Ad ⟨rfl,rfl⟩ h
theorem LT (a b:Nat):(Ae (a*b)).length<=(Ae a).length+(Ae b).length:=by
 refine G4 ?_;rw[F5];exact Nat.mul_lt_mul'' (JL a) (JL b)
theorem nN (a b:Int):D2 (decide (a<0) != decide (b<0)) (a.natAbs*b.natAbs)=a*b:=by
 rw[<-NW]
 by_cases h1:a<0<;>by_cases h2:b<0
 ·rw[AX h1,AX h2]
  have:0<=a*b:=Int.mul_nonneg_of_nonpos_of_nonpos (by omega) (by omega)
  show(((a*b).natAbs:Nat):Int)=a*b;omega
 ·rw[AX h1,Ag h2]
  have:a*b<=0:=Int.mul_nonpos_of_nonpos_of_nonneg (by omega) (by omega)
  show -(((a*b).natAbs:Nat):Int)=a*b;omega
 ·rw[Ag h1,AX h2]
  have:a*b<=0:=Int.mul_nonpos_of_nonneg_of_nonpos (by omega) (by omega)
  show -(((a*b).natAbs:Nat):Int)=a*b;omega
 ·rw[Ag h1,Ag h2]
  have:0<=a*b:=Int.mul_nonneg (by omega) (by omega)
  show(((a*b).natAbs:Nat):Int)=a*b;omega
theorem oM (x y:GI)(hx:x.wf)(hy:y.wf)(fx:(Ae x.z.natAbs).length<400000)(fy:(Ae y.z.natAbs).length<400000)(hn:¬(x.sm=true/\y.sm=true/\(x.z*y.z).natAbs<=9223372036854775807)):AK C0 152 [x.D,y.D] (AW (x.z*y.z)).D:=by
 refine Ak.walk w1 UV rfl λF=>?_
 have cx:=JM x hx;have cy:=JM y hy;have hpr:AA (AW (x.z*y.z)).w:=AI;have hpx:AA x.w:=AI;have hpy:AA y.w:=AI;have lm:=LT x.z.natAbs y.z.natAbs;have ca:=yy x.z.natAbs y.z.natAbs (by omega) (by omega);have cm:=Lc (decide (x.z<0) != decide (y.z<0)) (x.z.natAbs*y.z.natAbs) (by omega);rw[nN]at cm;dsimp only[GI.D]at*;refine fR 0 ?_;refine EX ⟨[(2,.optr 0 0 2 0 0),(3,.optr 1 1 2 0 0),(4,.optr 2 2 2 0 0)],[⟨2,2,120,2,[C6 0]⟩,⟨1,1,120,2,[.agg [i64 y.s,y.w]]⟩,⟨0,0,120,2,[.agg [i64 x.s,x.w]]⟩],90⟩ ?_ ?_
 ·obtain⟨a,sa⟩:=x
  obtain⟨b,sb⟩:=y;clear cx cy lm ca cm hpr;have nx:sa=false->(Ae a.natAbs).map AR≠[]:=λh=>Hd (by
   intro h0;subst h;exact hx.2 rfl ⟨by dsimp only;omega,by dsimp only;omega⟩)
  have ny:sb=false->(Ae b.natAbs).map AR≠[]:=λh=>Hd (by
   intro h0;subst h;exact hy.2 rfl ⟨by dsimp only;omega,by dsimp only;omega⟩)
  unfold GI.s GI.w wD wL at*;dsimp only at*;generalize(Ae a.natAbs).map AR=ka at*;generalize(Ae b.natAbs).map AR=kb at*;cases sa with
  |false=>
   have nx:=nx rfl;dsimp only at*;generalize(if a<0 then(-1:Int)else 1)=sg at*;generalize(match sb with|true=>b|false=>if b<0 then(-1:Int)else 1)=sh at*;generalize(match sb with|true=>CT|false=>D.sl false 1 kb)=wy at*;refine AC.seq ?_;refine Ao w1 100 (by kernel_rfl) ?_;refine AU (As (@ne_eq (List D)) nx ES) ?_;refine AE kT ?_;refine AE kT ?_;refine AM ?_;refine An ?_;exact And.intro (by trivial) (AJ)
  |true=>
   dsimp only at*;cases sb with
   |false=>
    have ny:=ny rfl;dsimp only at*;generalize(if b<0 then(-1:Int)else 1)=sh at*;refine AC.seq ?_;refine Ao w1 100 (by kernel_rfl) ?_;refine AU (As (@ne_eq (List D)) ny ES) ?_;refine AE (BY kT (@ne_eq (List D)) ny ES) ?_;refine AE (BY kT (@ne_eq (List D)) ny ES) ?_;refine AM ?_;refine An ?_;exact And.intro (by trivial) (AJ)
   |true=>
    have ra:=hx.1 rfl;have rb:=hy.1 rfl;dsimp only at*;have sa:=Oq ra.1 ra.2;have sb:=Oq rb.1 rb.2;have la:a.natAbs<BB:=by unfold BB;omega
    have lb:b.natAbs<BB:=by unfold BB;omega
    have c0:=OP a.natAbs b.natAbs la lb;have hab:a.natAbs*b.natAbs=(a*b).natAbs:=(NW a b).symm;have hbig:9223372036854775807<(a*b).natAbs:=Dc λh=>hn ⟨rfl,rfl,by omega⟩
    rw[hab]at c0;generalize(a*b).natAbs=p at*;refine sZ 100 ?_
    repeat'(first|(refine And.intro (by exact CC) ?_;refine At ?_)|((refine By (λhb=>?_) (λhb=>?_))<;>(try simp only[Bj,Bw]at hb)<;>(try simp only[hb])<;>(refine At ?_)))
    refine AM ?_;refine AC.seq ?_;refine B7 w1 200 [0,1,2,3,4,5,6,7,8,9,10] [11] (by kernel_rfl) ?_;refine CA ?_;refine BZ.same _ (sa) AI ?_;refine CA ?_;refine BZ.same _ (sb) AI ?_;refine CA ?_;refine BZ.same _ (c0) AI ?_;refine CA ?_;refine AC.seq ?_
    by_cases h0:p/18446744073709551616=0
    ·rw[h0]
     have h1:p%18446744073709551616=p:=by omega
     rw[h1];have e3:decide ((p:Int)<=9223372036854775807)=false:=Ag (by omega);refine Ao w1 300 (by kernel_rfl) ?_
     repeat'(first|(refine And.intro (by exact CC) ?_;refine At ?_)|((refine By (λhb=>?_) (λhb=>?_))<;>(try simp only[Bj,Bw]at hb)<;>(try simp only[hb])<;>(refine At ?_)))
     rw[e3];refine AM ?_;refine An ?_;exact And.intro (by trivial) (AJ)
    ·have e3:(((p/18446744073709551616:Nat):Int)==0)=false:=Br.2 (by omega)
     refine Ao w1 300 (by kernel_rfl) ?_;refine AU e3 ?_;refine AE e3 ?_;refine AE e3 ?_;refine AM ?_;refine An ?_;exact And.intro (by trivial) (AJ)
 ·refine fR 700 ?_
  refine dI cx ?_;refine fR 800 ?_;refine dI cy ?_;refine fR 900 ?_;refine dI ca ?_;refine dI cm ?_;refine Ai ?_;exact AL rfl AA.out
theorem kE (a b:Int)(hc:Sm (a*b))(ha : -9223372036854775808<=a/\a<9223372036854775808)(hb : -9223372036854775808<=b/\b<9223372036854775808):AK C0 152 [C6 a,C6 b] (C6 (a*b)):=by
 refine Ak.walk w1 UV rfl λF=>?_
 have hab:a.natAbs*b.natAbs=(a*b).natAbs:=(NW a b).symm;have h1:a.natAbs*b.natAbs/18446744073709551616=0:=by rw[hab];have:=hc.1;have:=hc.2;omega
 have h2:a.natAbs*b.natAbs%18446744073709551616=(a*b).natAbs:=by rw[hab];have:=hc.1;have:=hc.2;omega
 have c0:=OP a.natAbs b.natAbs (by omega) (by omega);rw[h1,h2]at c0;refine fR 0 ?_;refine AC.seq ?_;refine sZ 100 ?_
 repeat'(first|(refine And.intro (by exact CC) ?_;refine At ?_)|((refine By (λhb=>?_) (λhb=>?_))<;>(try simp only[Bj,Bw]at hb)<;>(try simp only[hb])<;>(refine At ?_)))
 refine AM ?_;refine AC.seq ?_;refine B7 w1 200 [0,1,2,3,4,5,6,7,8,9,10] [11] (by kernel_rfl) ?_;refine CA ?_;refine BZ.same _ (Oq ha.1 ha.2) AI ?_;refine CA ?_;refine BZ.same _ (Oq hb.1 hb.2) AI ?_;refine CA ?_;refine BZ.same _ (c0) AI ?_;refine CA ?_;refine sZ 300 ?_
 repeat'(first|(refine And.intro (by exact CC) ?_;refine At ?_)|((refine By (λhb=>?_) (λhb=>?_))<;>(try simp only[Bj,Bw]at hb)<;>(try simp only[hb])<;>(refine At ?_)))
 have e3:decide ((((a*b).natAbs:Nat):Int)<=9223372036854775807)=true:=AX (by have:=hc.1;have:=hc.2;omega);rw[e3];refine AM ?_;refine AC.seq ?_;refine fR 400 ?_;refine AM ?_;have e4:IntKind.i64.wrap (((a*b).natAbs:Nat):Int)=((a*b).natAbs:Nat):=wN (by have:=hc.1;have:=hc.2;omega)
 (refine By (λh41=>?_) (λh41=>?_))<;>(try simp only[Bj,Bw]at h41)<;>(try simp only[h41])
 ·have e5:IntKind.i64.wrap (0-(((a*b).natAbs:Nat):Int)) = -((a*b).natAbs:Nat):=by
   rw[wI (by have:=hc.1;have:=hc.2;omega) (by have:=hc.1;have:=hc.2;omega)];omega
  have e6 : -(((a*b).natAbs:Nat):Int)=a*b:=by
   have hs:(a<0)≠(b<0):=by simpa using h41
   have:a*b<=0:=by
    by_cases h1:a<0
    ·have h2:¬b<0:=λh2=>hs (by simp[h1,h2])
     exact Int.mul_nonpos_of_nonpos_of_nonneg (by omega) (by omega)
    ·have h2:b<0:=Dc λh2=>hs (by simp[h1,h2])
     exact Int.mul_nonpos_of_nonneg_of_nonpos (by omega) (by omega)
   omega
  refine sZ 500 ?_;refine Jx (As e4 e5 e6) ?_;refine Ai ?_;exact AL rfl AA.out
 ·have e6:(((a*b).natAbs:Nat):Int)=a*b:=by
   have hs:¬((a<0)≠(b<0)):=by simpa using h41
   have:0<=a*b:=by
    by_cases h1:a<0
    ·have h2:b<0:=Dc λh2=>hs (by simp[h1,h2])
     exact Int.mul_nonneg_of_nonpos_of_nonpos (by omega) (by omega)
    ·have h2:¬b<0:=λh2=>hs (by simp[h1,h2])
     exact Int.mul_nonneg (by omega) (by omega)
   omega
  rw[e6]at e4;refine An ?_;refine sZ 600 ?_;refine Jx (Ah e6 e4) ?_;refine Ai ?_;exact AL rfl AA.out
theorem de (x y:GI)(hx:x.wf)(hy:y.wf)(fx:(Ae x.z.natAbs).length<400000)(fy:(Ae y.z.natAbs).length<400000):AK C0 152 [x.D,y.D] (AW (x.z*y.z)).D:=by
 by_cases h:x.sm=true/\y.sm=true/\(x.z*y.z).natAbs<=9223372036854775807
 ·obtain⟨a,sa⟩:=x
  obtain⟨b,sb⟩:=y;obtain⟨h1,h2,h3⟩:=h;dsimp only at h1 h2 h3;subst h1;subst h2;have hs:Sm (a*b):=⟨by omega,by omega⟩
  dsimp only;rw[JU hs];exact kE a b hs (hx.1 rfl) (hy.1 rfl)
 ·exact oM x y hx hy fx fy h
def L5 (x:GI):GI:=if x.z<0 then AW (-x.z)else x
theorem qp (x:GI):(L5 x).z=(x.z.natAbs:Nat):=by
 unfold L5;split
 ·show -x.z=_;omega
 ·omega
theorem oD (x:GI)(h:x.wf):(L5 x).wf:=by
 unfold L5;split
 ·exact Ch _
 ·exact h
theorem dO (x:GI)(h:x.wf)(hf:x.few):AK C0 250 [x.D] (L5 x).D:=by
 refine Ak.walk w1 bh rfl λF=>?_
 have hs:=bY x h;have cn:=O6 x h hf;have hpx:AA x.w:=AI;have hpr:AA (AW (-x.z)).w:=AI;unfold L5
 by_cases hz:x.z<0
 ·have e:decide (x.s<0)=true:=AX (by rw[hs];exact hz)
  rw[AG hz];dsimp only[GI.D]at*;refine fR 0 ?_;refine AC.seq ?_;refine fR 100 ?_;rw[e];refine AM ?_;refine fR 200 ?_;refine dI cn ?_;refine Ai ?_;exact AL rfl AA.out
 ·have e:decide (x.s<0)=false:=Ag (by rw[hs];exact hz)
  rw[AF hz];dsimp only[GI.D]at*;refine fR 0 ?_;refine AC.seq ?_;refine fR 100 ?_;rw[e];refine AM ?_;refine An ?_;refine fR 300 ?_;refine Ai ?_;exact AL rfl AA.out
structure LM (B Y u1 u0:Nat)(q r:Nat):Prop where
 eq:q*(Y/B)+r=u1
 up:u1*B+u0<(q+1)*Y
 q2:q<=B+1
theorem Wj {B Y u1 u0:Nat}(hB:0<B)(hY:B*B<=2*Y)(hY2:Y<B*B)(hev:B%2=0)(hu:u1<Y)(h0:u0<B):
  LM B Y u1 u0 (u1/(Y/B)) (u1-u1/(Y/B)*(Y/B))/\u1-u1/(Y/B)*(Y/B)<B:=by
 have e:=EY Y B;have m:=B3 Y hB;generalize hg:Y/B=y1 at*;generalize Y%B=y0 at*;have hy1:y1<B:=by
  rcases BH y1 B with h|h
  ·exact h
  ·have:=Cb B h
   omega
 have hy2:B<=2*y1:=by
  rcases BH (2*y1) B with h|h
  ·exfalso
   have h1:2*y1+2<=B:=by omega
   have h2:=Cb B h1;have h3:B*(2*y1+2)=2*(B*y1)+2*B:=by
    rw[BN,Ic,BT B 2]
   omega
  ·exact h
 have e1:=EY u1 y1;have m1:=B3 u1 (show 0<y1 by omega);have c1:y1*(u1/y1)=u1/y1*y1:=BT _ _;refine⟨⟨by rw[hg];omega,?_,?_⟩,by omega⟩
 ·generalize hq:u1/y1=q at*
  have h1:u1+1<=(q+1)*y1:=by rw[Bx];omega
  have h2:=CL B h1;have h3:(q+1)*Y=(q+1)*y1*B+(q+1)*y0:=by
   rw[<-e,BN,BT B y1,Bz]
  rw[Bx]at h2;omega
 ·rcases BH (B+1) (u1/y1)with h|h
  ·exfalso
   have h1:=Cb y1 (show B+2<=u1/y1 by omega);have h2:y1*(B+2)=B*y1+2*y1:=by rw[BN,BT y1 B,BT y1 2]
   omega
  ·exact h
theorem W6 {B Y u1 u0 q r:Nat}(hB:0<B)(hu:u1<Y)(h0:u0<B)(I:LM B Y u1 u0 q r)
  (c:B<=q\/B*r+u0<q*(Y%B)):0<q/\LM B Y u1 u0 (q-1) (r+Y/B):=by
 have e:=EY Y B;obtain⟨i1,i2,i3⟩:=I;generalize hg:Y/B=y1 at*;generalize Y%B=y0 at*;have hq:0<q:=by
  rcases c with c|c
  ·omega
  ·rcases Do q with h|h
   ·subst h;omega
   ·exact h
 obtain⟨p,rfl⟩:∃p,q=p+1:=⟨q-1,by omega⟩
 refine⟨hq,⟨?_,?_,?_⟩⟩
 ·rw[Ia,hg,BT p];rw[Bx,BT p]at i1;omega
 ·rw[Ia]
  rcases c with c|c
  ·have h1:=CL Y c
   have h2:(u1+1)*B<=Y*B:=CL B hu;rw[Bx]at h2;rw[BT Y B]at h2;omega
  ·have h3:(p+1)*Y=(p+1)*y1*B+(p+1)*y0:=by
    rw[<-e,BN,BT B y1,Bz]
   have h4:u1*B=(p+1)*y1*B+r*B:=by rw[<-i1,Bx]
   rw[BT r B]at h4;omega
 ·omega
theorem TO {B Y u1 u0 q r:Nat}(I:LM B Y u1 u0 q r)
  (c:q*(Y%B)<=B*r+u0):q=(u1*B+u0)/Y:=by
 have e:=EY Y B;obtain⟨i1,i2,i3⟩:=I;have h3:q*Y=q*(Y/B)*B+q*(Y%B):=by
  conv=>lhs;rw[<-e]
  rw[BN,BT B (Y/B),Bz]
 have h4:u1*B=q*(Y/B)*B+r*B:=by rw[<-i1,Bx]
 rw[BT r B]at h4;have h5:0<Y:=by
  rcases Do Y with h|h
  ·subst h;omega
  ·exact h
 symm
 apply Nat.div_eq_of_lt_le
 ·omega
 ·exact i2
theorem Wi {B Y u1 u0 q r:Nat}(hB:0<B)(I:LM B Y u1 u0 q r)(hq:q<=B)(hr:B<=r):
  q=(u1*B+u0)/Y:=by
 refine TO I ?_;have m:=B3 Y hB;have h1:q*(Y%B)<=B*B:=Ie hq (by omega);have h2:=Cb B hr;omega
theorem j7 {B N S y u32 u1 u0 v:Nat}(hS:0<S)(hy:0<y)(hN:N*S=u32*(B*B)+(u1*B+u0))(hv:v=(u32*B+u1)%(y*S)):
  (u32*B+u1)/(y*S)*B+(v*B+u0)/(y*S)=N/y/\(v*B+u0)%(y*S)/S=N%y:=by
 have hY0:0<y*S:=HW hy hS;have e1:=EY (u32*B+u1) (y*S);have e2:=EY (v*B+u0) (y*S);have m2:=B3 (v*B+u0) hY0;rw[<-hv]at e1;have dY:N*S/(y*S)=N/y:=Pi _ _ hS;have mY:N*S%(y*S)=N%y*S:=Pj _ _ _;generalize(u32*B+u1)/(y*S)=q1 at*;generalize(v*B+u0)/(y*S)=q0 at*;generalize(v*B+u0)%(y*S)=r at*;generalize y*S=Y at*;have hT:N*S=r+Y*(q1*B+q0):=by
  have c1:u32*(B*B)+u1*B=Y*q1*B+v*B:=by
   rw[<-Bz,<-Bx,<-e1,Bx]
  rw[hN,BN,<-Bz Y q1 B];omega
 refine⟨?_,?_⟩
 ·rw[<-dY,hT,SS _ _ hY0,HP m2,BV]
 ·rw[hT,SW,Di m2]at mY
  rw[mY,Nat.mul_div_cancel _ hS]
theorem mM {hi lo y s:Nat}(hs:s<=63)(h1:hi<y)(hlo:lo<18446744073709551616):
  lo/2^(64-s)<2^s/\hi*2^s+lo/2^(64-s)<y*2^s /\
   (hi*18446744073709551616+lo)*2^s=(hi*2^s+lo/2^(64-s))*18446744073709551616+lo*2^s%18446744073709551616:=by
 have hp:0<2^s:=Gy s;have hpp:2^(64-s)*2^s=18446744073709551616:=by
  rw[<-F5,show 64-s+s=64 by omega]
 have hl:lo*2^s/18446744073709551616=lo/2^(64-s):=by
  rw[<-hpp,Pi _ _ hp]
 have hl2:lo/2^(64-s)<2^s:=E8 (by rw[hpp];exact hlo);refine⟨hl2,?_,?_⟩
 ·have:(hi+1)*2^s<=y*2^s:=CL _ h1
  rw[Bx]at this;omega
 ·have e:=EY (lo*2^s) 18446744073709551616
  rw[hl]at e;rw[Bx,Bx,Nat.mul_right_comm];omega
theorem Us {a b s:Nat}(h:b<2^s):(a*2^s) ||| b=a*2^s+b:=by
 rw[BT,Nat.two_pow_add_eq_or_of_lt h]
theorem d9 (x:Nat)(hx:x<BB):AK C0 227 [AR x] (i64 (64-(Lib.bitLen x:Int))):=by
 refine⟨⟨_,_,Tryz.func227,rfl,by kernel_rfl⟩,λY w vs hG hnG hX hvs hr=>?_⟩
 have:=Qi hvs hr
 subst this;refine(Tryz.bits_LeadingZeros64 x w (by omega) (by unfold BB at hx;omega)).mono ?_;rintro e w' ⟨rfl,rfl⟩;exact⟨_,_,rfl,.refl _ _,rfl,.prim _⟩
theorem WU {x:Nat}(h0:x≠0)(hx:x<BB):∃s,s<=63/\(64-(Lib.bitLen x:Int))=(s:Nat)/\9223372036854775808<=x*2^s/\x*2^s<18446744073709551616:=by
 obtain⟨h1,h2,h3⟩:=Lib.bitLenAux_bounds 64 x hx h0;have h4:=Lib.bitLen_le x 64 (Af _) hx;have h5:Lib.bitLenAux 64 x=Lib.bitLen x:=rfl;rw[h5]at h1 h2 h3;refine⟨64-Lib.bitLen x,by omega,by omega,?_,?_⟩
 ·have:=CL (2^(64-Lib.bitLen x)) h2
  rw[<-F5,show Lib.bitLen x-1+(64-Lib.bitLen x)=63 by omega]at this;exact this
 ·have:=(Nat.mul_lt_mul_right (Gy (64-Lib.bitLen x))).2 h3
  rw[<-F5,show Lib.bitLen x+(64-Lib.bitLen x)=64 by omega]at this;exact this
theorem Im (n:Nat):IntKind.u64.wrap (n:Int)=((n%18446744073709551616:Nat):Int):=by
 have e1:(2:Int)^IntKind.u64.bits=18446744073709551616:=rfl;unfold IntKind.wrap;simp only[e1];have e3:IntKind.u64.signed=false:=rfl;rw[e3];simp only[HV,E9,if_false];omega
theorem PB (x s:Nat)(hs:s<=63):Kr .u64 (x:Int) (s:Int)=((x*2^s%18446744073709551616:Nat):Int):=by
 have hm:min ((s:Int)).toNat (IntKind.bits .u64)=s:=by
  have:IntKind.bits .u64=64:=rfl
  rw[this];omega
 unfold Kr;rw[hm]
 have:(x:Int)*2^s=((x*2^s:Nat):Int):=by simp
 rw[this];exact Im _
theorem ND (x s:Nat)(hs:s<=64):MA .u64 (x:Int) (s:Int)=((x/2^s:Nat):Int):=by
 have hm:min ((s:Int)).toNat (IntKind.bits .u64)=s:=by
  have:IntKind.bits .u64=64:=rfl
  rw[this];omega
 unfold MA;rw[hm]
 have:(2:Int)^s=((2^s:Nat):Int):=by simp
 rw[this,Int.fdiv_eq_ediv_of_nonneg _ (Int.natCast_nonneg _)];exact(Int.natCast_ediv _ _).symm
theorem R3 (a:Nat)(ha:a<18446744073709551616):(BitVec.ofInt (IntKind.bits .u64) (a:Int)).toNat=a:=by
 rw[show IntKind.bits .u64=64 from rfl,BitVec.ofInt_natCast,BitVec.toNat_ofNat];exact Di ha
theorem VY (a b:Nat)(ha:a<18446744073709551616)(hb:b<18446744073709551616):G8 .or .u64 (a:Int) (b:Int)=((a ||| b:Nat):Int):=by
 have h:a ||| b<2^64:=Nat.or_lt_two_pow ha hb;show IntKind.u64.wrap ((BitVec.ofInt (IntKind.bits .u64) (a:Int) ||| BitVec.ofInt (IntKind.bits .u64) (b:Int)).toNat:Int)=_;rw[BitVec.toNat_or,R3 a ha,R3 b hb,Im];exact congrArg Nat.cast (Di h)
theorem dQ (a:Nat)(ha:a<18446744073709551616):G8 .and .u64 (a:Int) 4294967295=((a%4294967296:Nat):Int):=by
 show IntKind.u64.wrap ((BitVec.ofInt (IntKind.bits .u64) (a:Int) &&& BitVec.ofInt (IntKind.bits .u64) ((4294967295:Nat):Int)).toNat:Int)=_;rw[BitVec.toNat_and,R3 a ha,R3 _ (by decide),Im,show(4294967295:Nat)=2^32-1 from rfl,Nat.and_two_pow_sub_one_eq_mod];exact congrArg Nat.cast (Di (by omega))
theorem Uz (a b:Nat):IntKind.u64.wrap ((a:Int).tdiv (b:Int))=((a/b%18446744073709551616:Nat):Int):=by
 rw[<-Int.ofNat_tdiv];exact Im _
theorem cY {a b:Nat}(h:b<=a)(ha:a<18446744073709551616):IntKind.u64.wrap ((a:Int)-(b:Int))=((a-b:Nat):Int):=by
 rw[<-Int.natCast_sub h,Im];exact congrArg Nat.cast (Di (by omega))
section
variable {C:BC} {B F:Aa} {s:St} {rd:Option Nat} {Q:Exit->Aa->St->Prop}
theorem fo {a b:Code}(S:Nat->St)(h1:AC C B rd F a s (λe F1 s1=>I1 (F1=F/\∃n,Wk s1 (S n)) (λe=>Q e F1 s1) e))(h2:∀n,AC C B rd F b (S n) Q):AC C B rd F (.seq a b) s Q:=
 AC.seq (h1.mono λe F1 s1 h=>by
  cases e with
  |normal=>
   obtain⟨h0,n,h3⟩:=(show F1=F/\∃n,Wk s1 (S n)from h)
   rw[h0];exact AC.weak (S n) h3 (h2 n)
  |ret=>exact h
  |exit j=>exact h
  |goto l=>exact h
  |panic c=>exact h
  |outgrown=>exact h)
end
theorem Mk (z:Int):IntKind.u64.wrap z=z%18446744073709551616:=by
 have e1:(2:Int)^IntKind.u64.bits=18446744073709551616:=rfl;unfold IntKind.wrap;simp only[e1];have e3:IntKind.u64.signed=false:=rfl;rw[e3];simp only[HV,E9,if_false]
theorem iM (a b:Nat)(ha:a<4294967296)(hb:b<4294967296):IntKind.u64.wrap (IntKind.u64.wrap ((a:Int)*4294967296)+(b:Int))=((a*4294967296+b:Nat):Int):=by
 rw[Mk,Mk];omega
theorem XA (a c q Y:Nat)(hY:0<Y)(hY2:Y<18446744073709551616)(hq:q=(a*4294967296+c)/Y):
  IntKind.u64.wrap (IntKind.u64.wrap (IntKind.u64.wrap ((a:Int)*4294967296)+(c:Int))-IntKind.u64.wrap ((q:Int)*(Y:Int)))=(((a*4294967296+c)%Y:Nat):Int):=by
 have e:=EY (a*4294967296+c) Y;have m:=B3 (a*4294967296+c) hY;rw[<-hq,BT Y q]at e;generalize(a*4294967296+c)%Y=v at*;rw[<-F6 q Y];generalize q*Y=Q at*;rw[Mk,Mk,Mk,Mk];omega
structure qi (hi lo y s Y u u10:Nat):Prop where
 s63:s<=63
 eY:Y=y*2^s
 big:9223372036854775808<=Y
 Yl:Y<18446744073709551616
 uY:u<Y
 u10l:u10<18446744073709551616
 N:(hi*BB+lo)*2^s=u*18446744073709551616+u10
 e8:Kr .u64 (y:Int) (s:Int)=(Y:Int)
 e9:MA .u64 (Y:Int) 32=((Y/4294967296:Nat):Int)
 e10:G8 .and .u64 (Y:Int) 4294967295=((Y%4294967296:Nat):Int)
 ew:IntKind.u64.wrap (64-(s:Int))=((64-s:Nat):Int)
 e11:G8 .or .u64 (Kr .u64 (hi:Int) (s:Int)) (MA .u64 (lo:Int) ((64-s:Nat):Int))=(u:Int)
 e12:Kr .u64 (lo:Int) (s:Int)=(u10:Int)
 e13:MA .u64 (u10:Int) 32=((u10/4294967296:Nat):Int)
 e14:G8 .and .u64 (u10:Int) 4294967295=((u10%4294967296:Nat):Int)
theorem mD {hi lo y s:Nat}(h1:hi<y)(hlo:lo<BB)(hs:s<=63)(t1:9223372036854775808<=y*2^s)(t2:y*2^s<18446744073709551616):
  ∃Y u u10,qi hi lo y s Y u u10:=by
 obtain⟨m1,m2,m3⟩:=mM hs h1 hlo;have hpos:0<2^s:=Gy s;have hh:hi*2^s<18446744073709551616:=Dd (Nat.le_add_right _ _) (F3 m2 t2);have hl:lo/2^(64-s)<18446744073709551616:=Dd (Gx _ _) hlo;refine⟨_,_,_,hs,rfl,t1,t2,m2,B3 _ (by decide),m3,?_,ND _ 32 (by decide),dQ _ t2,?_,?_,PB lo s hs,ND _ 32 (by decide),dQ _ (B3 _ (by decide))⟩
 ·rw[PB y s hs,Di t2]
 ·rw[wU (by omega) (by omega)];omega
 ·rw[PB hi s hs,Di hh,ND lo (64-s) (by omega),VY _ _ hh hl,Us m1]
theorem Xx (hi lo y:Nat)(h1:hi<y)(hlo:lo<BB)(hy:y<BB):AK C0 225 [AR hi,AR lo,AR y] (.tup [AR ((hi*BB+lo)/y),AR ((hi*BB+lo)%y)]):=by
 refine Ak.walk w1 aV rfl λF=>?_
 have y0:¬(y:Int)=0:=by omega
 have c1:((y:Int)==0)=false:=by simp;omega
 have c2:decide ((y:Int)<=(hi:Int))=false:=Ag (by omega);refine sR 0 ?_;refine AC.seq ?_;refine sZ 100 ?_;refine AU c1 ?_;refine AM ?_;refine An ?_;refine AC.seq ?_;refine sZ 300 ?_;refine AU c2 ?_;refine AM ?_;refine An ?_;refine AC.seq ?_;refine sR 500 ?_;refine AM ?_
 (refine By (λh27=>?_) (λh27=>?_))<;>(try simp only[Bj,Bw]at h27)<;>(try simp only[h27])
 ·have hi0:hi=0:=by simpa using h27
  subst hi0;refine AC.seq ?_;refine B7 w1 600 [0,1,2,3,4,5,6] [7] (by kernel_rfl) ?_;refine BP ?_;refine Ai ?_;refine AL ?_ AA.out;have l1:lo/y<18446744073709551616:=Dd (Gx _ _) hlo;rw[Uz,Di l1,Gz,BV];rfl
 ·obtain⟨s,hs,es,t1,t2⟩:=WU (x:=y) (by omega) hy
  have cl:=d9 y hy;rw[es]at cl;have ws:IntKind.u64.wrap (s:Int)=(s:Int):=wU (by omega) (by omega);obtain⟨Y,u,u10,L⟩:=mD h1 hlo hs t1 t2;have ew0:(0:Int)<=IntKind.u64.wrap (64-(s:Int)):=by rw[L.ew];omega
  refine An ?_;refine sR 700 ?_;refine cI cl ?_;rw[ws];refine sZ 800 ?_;refine AU L.e8 ?_;refine sZ 900 ?_;refine AU L.e9 ?_;refine sZ 1000 ?_;refine AU L.e10 ?_;refine sZ 1100 ?_;refine AE (Ah L.ew L.e11) ?_;refine sZ 1200 ?_;refine AU L.e12 ?_;refine sZ 1300 ?_;refine AU L.e13 ?_;refine sZ 1400 ?_;refine AU L.e14 ?_;have hB:2147483648<=Y/4294967296:=by have:=L.big;omega
  have hB2:Y/4294967296<4294967296:=by have:=L.Yl;omega
  have n0:¬((Y/4294967296:Nat):Int)=0:=by omega
  obtain⟨I0,r0⟩:=Wj (B:=4294967296) (u0:=u10/4294967296) (by decide) (by have:=L.big;omega) L.Yl (by decide) L.uY (by have:=L.u10l;omega);have q0l:=I0.q2;have hu64:u<18446744073709551616:=F3 L.uY L.Yl;have hqy:=Nat.div_mul_le_self u (Y/4294967296);have e15:IntKind.u64.wrap ((u:Int).tdiv ((Y/4294967296:Nat):Int))=((u/(Y/4294967296):Nat):Int):=by
   rw[Uz,Di (by omega)]
  have e16:IntKind.u64.wrap ((u:Int)-IntKind.u64.wrap (((u/(Y/4294967296):Nat):Int)*((Y/4294967296:Nat):Int)))=((u-u/(Y/4294967296)*(Y/4294967296):Nat):Int):=by
   rw[<-F6,Im,Di (by omega),cY hqy hu64]
  refine sZ 1500 ?_;refine AU e15 ?_;refine sZ 1600 ?_;refine AU e16 ?_;have hu1:u10/4294967296<4294967296:=by have:=L.u10l;omega
  have hy0:Y%4294967296<4294967296:=B3 _ (by decide);generalize hu1e:u10/4294967296=u1 at*;generalize hu0e:u10%4294967296=u0 at*;refine fo (λn=>⟨[(2,AR Y),(6,u64 0),(7,u64 0),(8,AR s),(9,AR (Y/4294967296)),(10,AR (Y%4294967296)),(11,AR u),(13,AR u1),(14,AR u0),(15,AR ((u*4294967296+u1)/Y))],[],n⟩) ?_ λn=>?_
  ·refine AC.block ?_
   refine GY (α:=Nat×Nat×Nat) (λp=>⟨[(2,AR Y),(6,u64 0),(7,u64 0),(8,AR s),(9,AR (Y/4294967296)),(10,AR (Y%4294967296)),(11,AR u),(13,AR u1),(14,AR u0),(15,AR p.1),(16,AR p.2.1)],[],p.2.2⟩) (λp=>p.1)
    (λp F'=>F'=F/\LM 4294967296 Y u u1 p.1 p.2.1/\p.2.1<4294967296) (_,_,_)
    ⟨rfl,I0,r0⟩ AJ ?_
   rintro⟨q,r,m⟩ F' ⟨rfl,I,hr⟩;dsimp only at I hr⊢;have hq2:=I.q2;refine AC.seq ?_;obtain⟨b,hbt⟩:∃b:Bool,b=decide (4294967296<=q\/4294967296*r+u1<q*(Y%4294967296)):=⟨_,rfl⟩
   refine EX ⟨[(2,AR Y),(6,u64 0),(7,u64 0),(8,AR s),(9,AR (Y/4294967296)),(10,AR (Y%4294967296)),(11,AR u),(13,AR u1),(14,AR u0),(15,AR q),(16,AR r),(78,Aq b)],[],m+30⟩ ?_ ?_
   ·rcases BH q 4294967296 with hq|hq
    ·have e1:decide ((q:Int)>=4294967296)=false:=Ag (by omega)
     have hqy:q*(Y%4294967296)<=4294967295*4294967295:=Ie (by omega) (by omega);have k1:IntKind.u64.wrap ((q:Int)*((Y%4294967296:Nat):Int))=((q*(Y%4294967296):Nat):Int):=by
      rw[<-F6,Im,Di (by omega)]
     have k2:IntKind.u64.wrap (4294967296*(r:Int))=((4294967296*r:Nat):Int):=by rw[wU (by omega) (by omega)];omega
     have k3:IntKind.u64.wrap (((4294967296*r:Nat):Int)+(u1:Int))=((4294967296*r+u1:Nat):Int):=by rw[wU (by omega) (by omega)];omega
     have k4:decide (((q*(Y%4294967296):Nat):Int)>((4294967296*r+u1:Nat):Int))=b:=by
      rw[hbt];exact C8.2 ⟨λh=>Or.inr (by omega),λh=>by rcases h with h|h<;>omega⟩
     refine Ao w1 1700 (by kernel_rfl) ?_;refine AE e1 ?_;refine AE (CH kF k1 k2 k3 k4) ?_;exact And.intro (by trivial) (AJ)
    ·have e1:decide ((q:Int)>=4294967296)=true:=AX (by omega)
     have hb:b=true:=by rw[hbt];exact AX (Or.inl hq)
     subst hb;refine Ao w1 1700 (by kernel_rfl) ?_;refine AE e1 ?_;refine AE kT ?_;exact And.intro (by trivial) (AJ)
   ·cases b
    ·have hc:=DS hbt.symm
     have hq:=TO I (by omega);subst hq;refine AM ?_;refine B9 ?_;exact⟨rfl,_,AJ⟩
    ·have hc:=DE hbt.symm
     obtain⟨hq0,I2⟩:=W6 (by decide) L.uY hu1 I hc;have hq3:=I2.q2;have k1:IntKind.u64.wrap ((q:Int)-1)=((q-1:Nat):Int):=by rw[wU (by omega) (by omega)];omega
     have k2:IntKind.u64.wrap ((r:Int)+((Y/4294967296:Nat):Int))=((r+Y/4294967296:Nat):Int):=by rw[wU (by omega) (by omega)];omega
     refine AM ?_;refine An ?_;refine AC.block ?_;refine sZ 1800 ?_;refine AU k1 ?_;refine sZ 1900 ?_;refine AU k2 ?_;refine sR 2000 ?_;refine AM ?_
     (refine By (λh85=>?_) (λh85=>?_))<;>(try simp only[Bj,Bw]at h85)<;>(try simp only[h85])
     ·have hq:=Wi (by decide) I2 (by omega) (by have:=DE h85;omega)
      rw[hq];refine B9 ?_;exact⟨rfl,_,AJ⟩
     ·refine An ?_
      refine⟨(q-1,r+Y/4294967296,_),⟨rfl,I2,by have:=DS h85;dsimp only;omega⟩,by dsimp only;omega,AJ⟩
  ·have hY0:0<Y:=by have:=L.big;omega
   have e21:=XA u u1 _ Y hY0 L.Yl rfl;have q1l:(u*4294967296+u1)/Y<4294967296:=by
    refine E8 ?_
    have:(u+1)*4294967296<=Y*4294967296:=CL _ L.uY
    rw[Bx]at this;omega
   have hvY:(u*4294967296+u1)%Y<Y:=B3 _ hY0;have tr:=j7 (B:=4294967296) (N:=hi*BB+lo) (S:=2^s) (y:=y) (u32:=u) (u1:=u1) (u0:=u0) (v:=(u*4294967296+u1)%Y) (Gy s) (by omega) (by rw[L.N];omega) (by rw[L.eY]);rw[<-L.eY]at tr;clear e15 e16 I0 r0 q0l hqy;obtain⟨q1,hq1e⟩:∃x,x=(u*4294967296+u1)/Y:=⟨_,rfl⟩
   rw[<-hq1e]at e21 q1l tr⊢;obtain⟨v,hve⟩:∃x,x=(u*4294967296+u1)%Y:=⟨_,rfl⟩
   rw[<-hve]at e21 hvY tr;have hu0:u0<4294967296:=by rw[<-hu0e];exact B3 _ (by decide)
   obtain⟨J0,s0⟩:=Wj (B:=4294967296) (u0:=u0) (by decide) (by have:=L.big;omega) L.Yl (by decide) hvY hu0;have q0l:=J0.q2;have hv64:v<18446744073709551616:=F3 hvY L.Yl;have hqy:=Nat.div_mul_le_self v (Y/4294967296);have e22:IntKind.u64.wrap ((v:Int).tdiv ((Y/4294967296:Nat):Int))=((v/(Y/4294967296):Nat):Int):=by
    rw[Uz,Di (by omega)]
   have e23:IntKind.u64.wrap ((v:Int)-IntKind.u64.wrap (((v/(Y/4294967296):Nat):Int)*((Y/4294967296:Nat):Int)))=((v-v/(Y/4294967296)*(Y/4294967296):Nat):Int):=by
    rw[<-F6,Im,Di (by omega),cY hqy hv64]
   refine sZ 2100 ?_;refine AU e21 ?_;refine sZ 2200 ?_;refine AU e22 ?_;refine sZ 2300 ?_;refine AU e23 ?_;refine fo (λn=>⟨[(2,AR Y),(6,u64 0),(7,u64 0),(8,AR s),(9,AR (Y/4294967296)),(10,AR (Y%4294967296)),(11,AR u),(13,AR u1),(14,AR u0),(15,AR q1),(17,AR v),(18,AR ((v*4294967296+u0)/Y))],[],n⟩) ?_ λn=>?_
   ·refine AC.block ?_
    refine GY (α:=Nat×Nat×Nat) (λp=>⟨[(2,AR Y),(6,u64 0),(7,u64 0),(8,AR s),(9,AR (Y/4294967296)),(10,AR (Y%4294967296)),(11,AR u),(13,AR u1),(14,AR u0),(15,AR q1),(17,AR v),(18,AR p.1),(16,AR p.2.1)],[],p.2.2⟩) (λp=>p.1)
     (λp F'=>F'=F/\LM 4294967296 Y v u0 p.1 p.2.1/\p.2.1<4294967296) (_,_,_)
     ⟨rfl,J0,s0⟩ AJ ?_
    rintro⟨q,r,m⟩ F' ⟨rfl,I,hr⟩;dsimp only at I hr⊢;have hq2:=I.q2;refine AC.seq ?_;obtain⟨b,hbt⟩:∃b:Bool,b=decide (4294967296<=q\/4294967296*r+u0<q*(Y%4294967296)):=⟨_,rfl⟩
    refine EX ⟨[(2,AR Y),(6,u64 0),(7,u64 0),(8,AR s),(9,AR (Y/4294967296)),(10,AR (Y%4294967296)),(11,AR u),(13,AR u1),(14,AR u0),(15,AR q1),(17,AR v),(18,AR q),(16,AR r),(113,Aq b)],[],m+30⟩ ?_ ?_
    ·rcases BH q 4294967296 with hq|hq
     ·have e1:decide ((q:Int)>=4294967296)=false:=Ag (by omega)
      have hqy:q*(Y%4294967296)<=4294967295*4294967295:=Ie (by omega) (by omega);have k1:IntKind.u64.wrap ((q:Int)*((Y%4294967296:Nat):Int))=((q*(Y%4294967296):Nat):Int):=by
       rw[<-F6,Im,Di (by omega)]
      have k2:IntKind.u64.wrap (4294967296*(r:Int))=((4294967296*r:Nat):Int):=by rw[wU (by omega) (by omega)];omega
      have k3:IntKind.u64.wrap (((4294967296*r:Nat):Int)+(u0:Int))=((4294967296*r+u0:Nat):Int):=by rw[wU (by omega) (by omega)];omega
      have k4:decide (((q*(Y%4294967296):Nat):Int)>((4294967296*r+u0:Nat):Int))=b:=by
       rw[hbt];exact C8.2 ⟨λh=>Or.inr (by omega),λh=>by rcases h with h|h<;>omega⟩
      refine Ao w1 2400 (by kernel_rfl) ?_;refine AE e1 ?_;refine AE (CH kF k1 k2 k3 k4) ?_;exact And.intro (by trivial) (AJ)
     ·have e1:decide ((q:Int)>=4294967296)=true:=AX (by omega)
      have hb:b=true:=by rw[hbt];exact AX (Or.inl hq)
      subst hb;refine Ao w1 2400 (by kernel_rfl) ?_;refine AE e1 ?_;refine AE kT ?_;exact And.intro (by trivial) (AJ)
    ·cases b
     ·have hc:=DS hbt.symm
      have hq:=TO I (by omega);subst hq;refine AM ?_;refine B9 ?_;exact⟨rfl,_,AJ⟩
     ·have hc:=DE hbt.symm
      obtain⟨hq0,I2⟩:=W6 (by decide) hvY hu0 I hc;have hq3:=I2.q2;have k1:IntKind.u64.wrap ((q:Int)-1)=((q-1:Nat):Int):=by rw[wU (by omega) (by omega)];omega
      have k2:IntKind.u64.wrap ((r:Int)+((Y/4294967296:Nat):Int))=((r+Y/4294967296:Nat):Int):=by rw[wU (by omega) (by omega)];omega
      refine AM ?_;refine An ?_;refine AC.block ?_;refine sZ 2500 ?_;refine AU k1 ?_;refine sZ 2600 ?_;refine AU k2 ?_;refine sR 2700 ?_;refine AM ?_
      (refine By (λh120=>?_) (λh120=>?_))<;>(try simp only[Bj,Bw]at h120)<;>(try simp only[h120])
      ·have hq:=Wi (by decide) I2 (by omega) (by have:=DE h120;omega)
       rw[hq];refine B9 ?_;exact⟨rfl,_,AJ⟩
      ·refine An ?_
       refine⟨(q-1,r+Y/4294967296,_),⟨rfl,I2,by have:=DS h120;dsimp only;omega⟩,by dsimp only;omega,AJ⟩
   ·have e28:=XA v u0 _ Y hY0 L.Yl rfl
    have hm28:(v*4294967296+u0)%Y<Y:=B3 _ hY0;have q2l:(v*4294967296+u0)/Y<4294967296:=by
     refine E8 ?_
     have:(v+1)*4294967296<=Y*4294967296:=CL _ hvY
     rw[Bx]at this;omega
    have k1:=iM q1 ((v*4294967296+u0)/Y) q1l q2l;have k2:=ND ((v*4294967296+u0)%Y) s (by omega);rw[tr.1]at k1;rw[tr.2]at k2;refine sZ 2800 ?_;refine AE (As k1 e28 k2) ?_;refine Ai ?_;exact AL rfl AA.out
theorem WJ {n2 v1 P U V q:Nat}(hU:U<(n2+1)*P)(hV:v1*P<=V)(hq:n2+1<=(q+1)*v1):U<(q+1)*V:=by
 have h1:=CL P hq;have h2:=Cb (q+1) hV;rw[Bz]at h1;omega
theorem Wp {n3 D P U V q:Nat}(hU:U<(n3+1)*P)(hV:D*P<=V)(hq:n3<q*D):U<q*V:=by
 have h1:=CL P (show n3+1<=q*D from hq);have h2:=Cb q hV;rw[Bz]at h1;omega
theorem Xe {n3 D P U V q B v:Nat}(hU:n3*P<=U)(hV:V=D*P+v)(hv:v<P)(hq:q*D<=n3)(hqB:q<=B)(hD:B<=D):q*V<=U+V:=by
 have h1:=CL P hq;rw[Bz]at h1;have h2:q*v<=B*P:=Ie hqB (by omega);have h3:=CL P hD;have h4:q*V=q*(D*P)+q*v:=by rw[hV,BN]
 omega
theorem Wm {c x s:Nat}(hs:s<=63)(hc:c<2^s)(hx:x<18446744073709551616):
  c |||(x*2^s%18446744073709551616)=c+x*2^s%18446744073709551616/\c+x*2^s%18446744073709551616<18446744073709551616 /\
   c+x*2^s%18446744073709551616+18446744073709551616*(x/2^(64-s))=c+x*2^s/\x/2^(64-s)<2^s:=by
 have hp:0<2^s:=Gy s;have hpp:2^(64-s)*2^s=18446744073709551616:=by
  rw[<-F5,show 64-s+s=64 by omega]
 have hl:x*2^s/18446744073709551616=x/2^(64-s):=by
  rw[<-hpp,Pi _ _ hp]
 have hm:x*2^s%18446744073709551616=x%2^(64-s)*2^s:=by
  rw[<-hpp,Pj]
 have hl2:x/2^(64-s)<2^s:=E8 (by rw[hpp];exact hx);have e:=EY (x*2^s) 18446744073709551616;rw[hl]at e;have ho:c |||(x*2^s%18446744073709551616)=c+x*2^s%18446744073709551616:=by
  rw[hm,Nat.or_comm,Us hc,Kz]
 have hlt:c+x*2^s%18446744073709551616<18446744073709551616:=by
  rw[hm]
  have:(x%2^(64-s)+1)*2^s<=2^(64-s)*2^s:=CL _ (B3 _ (Gy _))
  rw[hpp,Bx]at this;omega
 exact⟨ho,hlt,by omega,hl2⟩
structure Rm (w out:List Nat)(s i c:Nat):Prop where
 le:i<=w.length
 len:out.length=w.length+1
 wd:Wd out
 val:AS out=AS (w.take i)*2^s
 at_:out[i]?=some c
 cl:c<2^s
 zero:∀k,i<k->∀d,out[k]?=some d->d=0
theorem pJ {w out:List Nat}{s i c x:Nat}(hs:s<=63)(hw:Wd w)(hi:i<w.length)(hx:w[i]?=some x)(I:Rm w out s i c):
  Rm w ((out.set i (c+x*2^s%18446744073709551616)).set (i+1) (x/2^(64-s))) s (i+1) (x/2^(64-s)):=by
 have hxl:x<BB:=hw x (Aw hx);obtain⟨_,d2,d3,d4⟩:=Wm hs I.cl hxl;obtain⟨z,hz⟩:∃z,out[i+1]?=some z:=⟨out[i+1]'(by have:=I.len;omega),A9 _⟩
 have hz0:=I.zero _ (HQ i) z hz;subst hz0;have s1:=JN (d:=c+x*2^s%18446744073709551616) I.at_;have hz1:(out.set i (c+x*2^s%18446744073709551616))[i+1]?=some 0:=by rw[Ih (by omega)];exact hz
 have s2:=JN (d:=x/2^(64-s)) hz1;have hbx:AS (w.take (i+1))=AS (w.take i)+BB^i*x:=by rw[FG hx,Gi (i:=i) (by rw[Bd];omega)]
 have hhi:x/2^(64-s)<BB:=Dd (Gx _ _) hxl;refine⟨by omega,by rw[DH,DH];exact I.len,(I.wd.set d2).set hhi,?_,?_,d4,λk hk d hd=>?_⟩
 ·have e1:BB^(i+1)*(x/2^(64-s))=BB^i*(18446744073709551616*(x/2^(64-s))):=by rw[CN,Bz]
  have e2:BB^i*(c+x*2^s%18446744073709551616+18446744073709551616*(x/2^(64-s)))=BB^i*(c+x*2^s):=by rw[d3]
  rw[BN,BN _ c (x*2^s)]at e2;rw[hbx,Bx,<-I.val,Bz];omega
 ·rw[Vn (by rw[DH];have:=I.len;omega)]
 ·rw[Ih (by omega),Ih (by omega)]at hd
  exact I.zero k (by omega) d hd
def Up (w:List Nat)(s:Nat)(H:Hp)(n:Nat)(d:D)(H':Hp)(n':Nat):Prop:=
 ∃(out:List Nat) (g:Nat),out.length=w.length+1/\Wd out/\AS out=AS w*2^s/\d=.osl 103 g 1 0 (w.length+1)/\H'=⟨103,g,210,1,out.map AR⟩::H/\n<=n'
theorem W8 (w:List Nat)(s:Nat)(hs:s<=63)(hw:Wd w)(hl:w.length<4000000)(H:Hp)(n:Nat):Cd C0 228 [wL w,i64 s] H n (Up w s H n):=by
 refine Cd.walk w1 aX rfl λF=>?_
 unfold wL;have ew:(((w.map AR).length:Nat):Int)=(w.length:Int):=by rw[Ac]
 have wl:IntKind.i64.wrap ((w.length:Int)+1)=((w.length+1:Nat):Int):=by rw[wI (by omega) (by omega)];omega
 have r3:List.replicate (w.length+1) (ofV (.int .u64 0))=(List.replicate (w.length+1) 0).map AR:=by rw[Jo];rfl
 refine sR 0 ?_;refine sZ 100 ?_;refine AU (As ew wl kN) ?_;refine AC.seq ?_;refine sZ 200 ?_;refine AU ew ?_;obtain⟨g,hg⟩:∃g,g=n+1+1+1+1:=⟨_,rfl⟩
 rw[<-hg];have I0:Rm w (List.replicate (w.length+1) 0) s 0 0:=⟨BU _,by simp,MY _,by simp[AS,QG],by simp,Gy s,λk _ d hd=>Pc (Aw hd)⟩
 refine AC.weak ⟨[(0,.sl false 1 (w.map AR)),(1,i64 s),(4,CT),(5,.osl 103 g 1 0 (w.length+1)),(12,.sl false 1 (w.map AR)),(13,i64 w.length),(14,i64 0)],⟨103,g,210,1,(List.replicate (w.length+1) 0).map AR⟩::H,n+30⟩ (by rw[<-r3];exact AJ) ?_;refine AC.block ?_;refine AC.loop (α:=Nat×Nat×List Nat×Nat) (λp=>⟨[(0,.sl false 1 (w.map AR)),(1,i64 s),(4,CT),(5,.osl 103 g 1 0 (w.length+1)),(12,.sl false 1 (w.map AR)),(13,i64 w.length),(14,i64 p.1)],⟨103,g,210,1,p.2.2.1.map AR⟩::H,p.2.2.2⟩) (λp=>w.length-p.1)
  (λp=>Rm w p.2.2.1 s p.1 p.2.1/\n<=p.2.2.2) (0,0,List.replicate (w.length+1) 0,n+30)
  ⟨I0,Nat.le_add_right _ _⟩ AJ ?_
 rintro⟨i,c,o,m⟩ F ⟨I,hm⟩;dsimp only at I hm⊢;refine sR 300 ?_;refine AC.seq ?_;refine AM ?_
 (refine By (λh15=>?_) (λh15=>?_))<;>(try simp only[Bj,Bw]at h15)<;>(try simp only[h15])
 ·have hi:i<w.length:=by simpa using h15
  obtain⟨x,hx⟩:∃x,w[i]?=some x:=⟨w[i],A9 hi⟩
  have hx':=DV hx;have hc':=DV I.at_;have hxl:x<BB:=hw x (Aw hx);obtain⟨d1,d2,d3,d4⟩:=Wm hs I.cl hxl;have J:=pJ hs hw hi hx I;have e5:G8 .or .u64 (c:Int) (Kr .u64 (x:Int) (s:Int))=((c+x*2^s%18446744073709551616:Nat):Int):=by
   rw[PB x s hs,VY _ _ (by omega) (B3 _ (by decide)),d1]
  refine An ?_;refine AC.seq ?_;refine AC.block ?_;refine sR 400 ?_;refine Bq kT hx' ?_;refine BP ?_;refine AC.seq ?_;refine B7 w1 500 [0,1,2,3,4,5,6] [7,8,9] (by kernel_rfl) ?_;refine AE (BY e5 kN BV hc') ?_;refine D7 rfl rfl ?_;refine My rfl rfl rfl hc' ?_;refine AE @map_set ?_;refine AC.seq ?_;obtain⟨z,hz⟩:∃z,o[i+1]?=some z:=⟨o[i+1]'(by have:=I.len;omega),A9 _⟩
  have hz0:=I.zero _ (HQ i) z hz;subst hz0;have hz1:(o.set i (c+x*2^s%18446744073709551616))[i+1]?=some 0:=by rw[Ih (by omega)];exact hz
  have hz':=DV hz1;have wi:IntKind.i64.wrap ((i:Int)+1)=((i+1:Nat):Int):=wI (by omega) (by omega);rcases Do s with hs0|hs0
  ·have e1:decide ((s:Int)>0)=false:=Ag (by omega)
   have hx0:x/2^(64-s)=0:=by rw[hs0];exact HP hxl
   have hset:(o.set i (c+x*2^s%18446744073709551616)).set (i+1) 0=o.set i (c+x*2^s%18446744073709551616):=by
    refine Pb λk=>?_
    rcases Nat.decEq (i+1) k with hk|hk
    ·rw[Ih hk]
    ·subst hk
     rw[Vn (by have:=(List.getElem?_eq_some_iff.1 hz1).1;exact this),hz1]
   rw[hx0,hset]at J;refine Ao w1 600 (by kernel_rfl) ?_;refine AU e1 ?_;refine AM ?_;refine An ?_;refine Ao w1 800 (by kernel_rfl) ?_;refine AU wi ?_;refine⟨(i+1,0,o.set i (c+x*2^s%18446744073709551616),m+200),⟨J,by dsimp only;omega⟩,by dsimp only;omega,AJ⟩
  ·have e1:decide ((s:Int)>0)=true:=AX (by omega)
   have w64:IntKind.i64.wrap (64-(s:Int))=((64-s:Nat):Int):=by rw[wI (by omega) (by omega)];omega
   have w640:(0:Int)<=IntKind.i64.wrap (64-(s:Int)):=by rw[w64];omega
   have e36:=ND x (64-s) (by omega);refine Ao w1 600 (by kernel_rfl) ?_;refine AU e1 ?_;refine AM ?_;refine Ao w1 700 (by kernel_rfl) ?_;refine AE (Dp wi w64 e36 kN BV hz') ?_
   try rw[map_set]
   refine Ao w1 800 (by kernel_rfl) ?_;refine AU wi ?_;refine⟨(i+1,x/2^(64-s),(o.set i (c+x*2^s%18446744073709551616)).set (i+1) (x/2^(64-s)),m+200),⟨J,by dsimp only;omega⟩,by dsimp only;omega,AJ⟩
 ·have hi:i=w.length:=by
   have:¬i<w.length:=by simpa using h15
   have:=I.le
   omega
  subst hi;have hv:=I.val;rw[B8 (Af _)]at hv;refine B9 ?_;refine sR 900 ?_;refine Ai ?_;exact⟨o,g,I.len,I.wd,hv,rfl,rfl,by omega⟩
section
variable {C:BC} {B F:Aa} {s:St} {rd:Option Nat} {Q:Exit->Aa->St->Prop}
theorem C4 {a b:Code}{α:Type}(S:α->St)(J:α->Prop)(h1:AC C B rd F a s (λe F1 s1=>I1 (F1=F/\∃x,J x/\Wk s1 (S x)) (λe=>Q e F1 s1) e))(h2:∀x,J x->AC C B rd F b (S x) Q):AC C B rd F (.seq a b) s Q:=
 AC.seq (h1.mono λe F1 s1 h=>by
  cases e with
  |normal=>
   obtain⟨h0,x,hx,h3⟩:=(show F1=F/\∃x,J x/\Wk s1 (S x)from h)
   rw[h0];exact AC.weak (S x) h3 (h2 x hx)
  |ret=>exact h
  |exit j=>exact h
  |goto l=>exact h
  |panic c=>exact h
  |outgrown=>exact h)
end
theorem jF {q v c:Nat}(hq:q<BB)(hv:v<BB)(hc:c<BB):
  (q*v%BB+c)%BB+BB*(q*v/BB+(q*v%BB+c)/BB)=q*v+c/\q*v/BB+(q*v%BB+c)/BB<BB:=by
 have hqv:q*v<=(18446744073709551616-1)*(18446744073709551616-1):=Ie (by unfold BB at hq;omega) (by unfold BB at hv;omega);have hk:(18446744073709551616-1)*(18446744073709551616-1)=340282366920938463426481119284349108225:=by decide
 rw[hk]at hqv;generalize q*v=p at*;have e1:=Eo p BB;have e2:=Eo (p%BB+c) BB;have l1:=B3 p (show BB>0 by decide);have l2:=B3 (p%BB+c) (show BB>0 by decide);unfold BB at*;generalize p/18446744073709551616=A at*;generalize p%18446744073709551616=D at*;generalize(D+c)/18446744073709551616=E at*;generalize(D+c)%18446744073709551616=G at*;omega
theorem CV {l:List Nat}{i:Nat}(h:i<l.length):∃a,l[i]?=some a:=⟨l[i],A9 h⟩
theorem Ve {l:List Nat}{k a:Nat}(hl:l.length=k+1)(ha:l[k]?=some a):AS l=AS (l.take k)+BB^k*a:=by
 rw[KO ha,HS (by omega)];simp[AS]
theorem yX {l:List Nat}{k a b:Nat}(hl:l.length=k+2)(ha:l[k]?=some a)(hb:l[k+1]?=some b):AS l=AS (l.take k)+BB^k*(a+BB*b):=by
 rw[KO ha]
 have:l.drop (k+1)=[b]:=by
  rw[ET (by omega),HS (by omega)]
  congr 1
  exact(List.getElem?_eq_some_iff.1 hb).2
 rw[this];simp[AS]
theorem yY {l:List Nat}{k a b c:Nat}(hl:l.length=k+3)(ha:l[k]?=some a)(hb:l[k+1]?=some b)(hc:l[k+2]?=some c):AS l=AS (l.take k)+BB^k*(a+BB*(b+BB*c)):=by
 rw[KO ha];have h1:=Ve (l:=l.drop (k+1)) (k:=1) (a:=c) (by rw[Dh];omega) (by rw[Gb,Ea];exact hc);have h2:(l.drop (k+1)).take 1=[b]:=by
  rw[ET (by omega)];simp only[List.take_succ_cons,NX]
  congr 1
  exact(List.getElem?_eq_some_iff.1 hb).2
 rw[h1,h2];simp[AS]
structure Mn (P v:List Nat)(m p0 p1 p2 v2 v1:Nat):Prop where
 lP:P.length=m+3
 lv:v.length=m+2
 wP:Wd P
 wv:Wd v
 h0:P[m]?=some p0
 h1:P[m+1]?=some p1
 h2:P[m+2]?=some p2
 g2:v[m]?=some v2
 g1:v[m+1]?=some v1
 top:0<v1
 less:AS P<AS v*BB
namespace Mn
variable {P v:List Nat} {m p0 p1 p2 v2 v1:Nat} (S:Mn P v m p0 p1 p2 v2 v1)
include S
theorem valP:AS P=AS (P.take m)+BB^m*(p0+BB*(p1+BB*p2)):=yY S.lP S.h0 S.h1 S.h2
theorem valv:AS v=AS (v.take m)+BB^m*(v2+BB*v1):=yX S.lv S.g2 S.g1
theorem lowP:AS (P.take m)<BB^m:=by
 have:=Hj (S.wP.take m)
 rwa [Bd,FC (by have:=S.lP;omega)]at this
theorem lowv:AS (v.take m)<BB^m:=by
 have:=Hj (S.wv.take m)
 rwa [Bd,FC (by have:=S.lv;omega)]at this
theorem p0l:p0<BB:=S.wP _ (Aw S.h0)
theorem p1l:p1<BB:=S.wP _ (Aw S.h1)
theorem p2l:p2<BB:=S.wP _ (Aw S.h2)
theorem v1l:v1<BB:=S.wv _ (Aw S.g1)
theorem v2l:v2<BB:=S.wv _ (Aw S.g2)
theorem below3:AS P<(p0+BB*(p1+BB*p2)+1)*BB^m:=by
 rw[S.valP,Bx,JD,BT (BB^m)]
 have:=S.lowP
 omega
theorem below2:AS P<(p1+BB*p2+1)*BB^(m+1):=by
 have h:=S.below3;have h1:=S.p0l;generalize p1+BB*p2=t at*;have h2:(p0+BB*t+1)*BB^m<=(BB*(t+1))*BB^m:=CL _ (by rw[BN BB t 1];omega);have h3:(t+1)*BB^(m+1)=(BB*(t+1))*BB^m:=by rw[CN,BT (BB^m) BB,<-Bz,BT (t+1) BB]
 omega
theorem abovev:v1*BB^(m+1)<=AS v:=by
 rw[S.valv,CN,BN]
 have:v1*(BB^m*BB)=BB^m*(BB*v1):=by rw[BT v1,Bz]
 omega
theorem abovev2:(v2+BB*v1)*BB^m<=AS v:=by
 rw[S.valv,BT];omega
theorem pos:0<AS v:=CX (HW S.top (Nat.pow_pos (by decide))) S.abovev
theorem p2v1:p2<=v1:=by
 rcases BH v1 p2 with h|h
 ·exfalso
  have e1:BB^(m+2)*p2<=AS P:=by
   rw[S.valP,BN,BN,BN]
   have:BB^(m+2)*p2=BB^m*(BB*(BB*p2)):=by rw[CN,CN,Bz,Bz]
   omega
  have e2:AS v<BB^(m+1)*(v1+1):=by
   have h1:=S.lowv;have h2:=S.v2l;have e3:BB^(m+1)*(v1+1)=BB^m*(BB*v1+BB):=by rw[CN,Bz,BN,EF]
   have e4:BB^m*(v2+BB*v1+1)<=BB^m*(BB*v1+BB):=Cb _ (by omega);rw[BN _ _ 1,EF]at e4;rw[S.valv,e3];omega
  have e5:BB^(m+1)*(v1+1)*BB=BB^(m+2)*(v1+1):=by rw[Nat.mul_right_comm,<-CN]
  have e6:BB^(m+2)*(v1+1)<=BB^(m+2)*p2:=Cb _ h;have e7:(AS v)*BB<=BB^(m+1)*(v1+1)*BB:=CL _ (Jt e2)
  have:=S.less
  omega
 ·exact h
end Mn
theorem kK {B q v2 r c p0:Nat}(hq:q<B)(hv:v2<B)(h:0<c\/q*v2<=r*B+p0):q*v2<=(r+B*c)*B+p0:=by
 rcases h with h|h
 ·have h2:q*v2<=B*B:=Ie (by omega) (by omega)
  have h4:B*1<=B*c:=Cb _ h;have h3:B*B<=(r+B*c)*B:=CL _ (by omega);omega
 ·have h3:r*B<=(r+B*c)*B:=CL _ (by omega)
  omega
structure Lt (U V n2 v1 q r c:Nat):Prop where
 eq:q*v1+(r+BB*c)=n2
 up:U<(q+1)*V
 qB:q<BB
 rB:r<BB
 c1:c<=1
section
variable {P v:List Nat} {m p0 p1 p2 v2 v1:Nat} (S:Mn P v m p0 p1 p2 v2 v1)
include S
theorem kL (h:v1<=p2):Lt (AS P) (AS v) (p1+BB*p2) v1 18446744073709551615 ((p1+v1+0)%BB) ((p1+v1+0)/BB):=by
 have h1:p2=v1:=Nat.le_antisymm S.p2v1 h;have h2:=S.less;have h3:=S.p1l;have h4:=S.v1l;have e:=Eo (p1+v1+0) BB;refine⟨?_,?_,by decide,B3 _ (by decide),?_⟩
 ·rw[e,h1]
  show 18446744073709551615*v1+(p1+v1+0)=p1+18446744073709551616*v1;omega
 ·rw[BT];exact h2
 ·have:p1+v1+0<2*BB:=by omega
  exact Nh (E8 (by rw[BT];exact this))
theorem iH (h:p2<v1):Lt (AS P) (AS v) (p1+BB*p2) v1 ((p2*BB+p1)/v1) ((p2*BB+p1)%v1) 0:=by
 have c0:p2*BB+p1=p1+BB*p2:=by rw[BT,Kz]
 rw[c0];have e:=EY (p1+BB*p2) v1;have l:=B3 (p1+BB*p2) S.top;have h3:=S.p1l;have h4:=S.v1l;have c1:=BT v1 ((p1+BB*p2)/v1);refine⟨by omega,WJ S.below2 S.abovev ?_,?_,by omega,by decide⟩
 ·rw[Bx];omega
 ·refine E8 ?_
  have:BB*(p2+1)<=BB*v1:=Cb _ h
  rw[BN]at this;rw[BT v1];omega
theorem iq {q r:Nat}(G:Lt (AS P) (AS v) (p1+BB*p2) v1 q r 0)(h:r*BB+p0<q*v2):
  0<q/\Lt (AS P) (AS v) (p1+BB*p2) v1 (q-1) ((r+v1+0)%BB) ((r+v1+0)/BB):=by
 obtain⟨e,u,b,rb,_⟩:=G;rcases Do q with h0|h0
 ·subst h0;omega
 obtain⟨k,rfl⟩:∃k,q=k+1:=⟨q-1,by omega⟩
 have e1:=Eo (r+v1+0) BB;have h4:=S.v1l;have e2:(k+1)*(v2+BB*v1)=(k+1)*v2+BB*((k+1)*v1):=by rw[BN,Ic]
 have hn3:p0+BB*(p1+BB*p2)<(k+1)*(v2+BB*v1):=by
  rw[e2,<-e,BN BB,Eb,DW r,BT BB r];omega
 refine⟨by omega,⟨?_,?_,by omega,B3 _ (by decide),?_⟩⟩
 ·rw[Ia,e1,<-e,Bx];omega
 ·rw[Ia];exact Wp S.below3 S.abovev2 hn3
 ·have:r+v1+0<2*BB:=by omega
  exact Nh (E8 (by rw[BT];exact this))
theorem We {q r c:Nat}(G:Lt (AS P) (AS v) (p1+BB*p2) v1 q r c)(h:0<c\/q*v2<=r*BB+p0):q*AS v<=AS P+AS v:=by
 obtain⟨e,u,b,rb,c1⟩:=G;have h5:=S.v2l;have hq:q*v2<=(r+BB*c)*BB+p0:=kK b h5 h;have e2:q*(v2+BB*v1)=q*v2+BB*(q*v1):=by rw[BN,Ic]
 refine Xe (n3:=p0+BB*(p1+BB*p2)) (D:=v2+BB*v1) (P:=BB^m) (B:=BB) (v:=AS (v.take m)) ?_ ?_ S.lowv ?_ (by omega) ?_
 ·rw[S.valP,BT];omega
 ·rw[S.valv,BT];omega
 ·rw[e2,<-e,BN BB]
  have:BB*(r+BB*c)=(r+BB*c)*BB:=BT _ _
  omega
 ·have:=S.top
  have h1:=Cb BB (show 1<=v1 from this);omega
end
theorem iu {x r p0:Nat}(hp:p0<BB):(x/BB<r\/x/BB=r/\x%BB<=p0)↔x<=r*BB+p0:=by
 have e:=EY x BB;have l:=B3 x (show 0<BB by decide);generalize x/BB=h at*;generalize x%BB=d at*;unfold BB at*;omega
theorem TT {U V q N:Nat}(h:N+q*V=U+0)(hu:U<(q+1)*V):U/V=q/\U%V=N:=by
 have h1:U=N+V*q:=by rw[BT];omega
 have h2:N<V:=by rw[Bx]at hu;omega
 subst h1;exact⟨by rw[SS _ _ (by omega),HP h2,BV],by rw[SW,Di h2]⟩
theorem Xg {U V q N N3 T c:Nat}(h:N+q*V=U+T)(hN:N<T)(hu:q*V<=U+V)(h3:N3+T*c=N+V)(hc:c<=1)(h3l:N3<T):0<q/\U/V=q-1/\U%V=N3:=by
 rcases Do q with h0|h0
 ·subst h0;omega
 obtain⟨k,rfl⟩:∃k,q=k+1:=⟨q-1,by omega⟩
 rw[Bx,JD]at h hu;have hc1:c=1:=by
  rcases Do c with h4|h4
  ·subst h4;omega
  ·omega
 subst hc1;have h5:N3+k*V=U+0:=by omega
 have h6:U<(k+1)*V:=by rw[Bx];omega
 obtain⟨a,b⟩:=TT h5 h6;exact⟨by omega,by rw[a];omega,b⟩
theorem gf {A P v:List Nat}{q i z x d b c b' c' lo:Nat}(hz:A[i]?=some z)(hx:v[i]?=some x)(hI:AS A+q*AS (v.take i)=AS P+BB^i*(c+b))
  (h1:lo+BB*c'=q*x+c) (h2:d+lo+b=z+BB*b'):AS (A.set i d)+q*AS (v.take (i+1))=AS P+BB^(i+1)*(c'+b'):=by
 have hs:=JN (d:=d) hz;have hi:i<v.length:=(List.getElem?_eq_some_iff.1 hx).1;rw[FG hx,Gi (i:=i) (by rw[Bd];omega),BN,Ic q,CN,Bz];have e:BB^i*(d+q*x+(c+b))=BB^i*(z+BB*(c'+b')):=by congr 1;rw[BN BB];omega
 rw[BN,BN,BN (BB^i) z]at e;omega
theorem gh {A P:List Nat}{i z d X b c b':Nat}(hz:A[i]?=some z)(hI:AS A+X=AS P+BB^i*(c+b))(h2:d+c+b=z+BB*b'):AS (A.set i d)+X=AS P+BB^(i+1)*b':=by
 have hs:=JN (d:=d) hz;rw[CN,Bz];have e:BB^i*(d+(c+b))=BB^i*(z+BB*b'):=by congr 1;omega
 rw[BN,BN (BB^i) z]at e;omega
theorem gX {A P v:List Nat}{i z x c:Nat}(hz:A[i]?=some z)(hx:v[i]?=some x)(hI:AS A+BB^i*c=AS P+AS (v.take i)):
  AS (A.set i ((z+x+c)%BB))+BB^(i+1)*((z+x+c)/BB)=AS P+AS (v.take (i+1)):=by
 have hs:=JN (d:=(z+x+c)%BB) hz;have hi:i<v.length:=(List.getElem?_eq_some_iff.1 hx).1;rw[FG hx,Gi (i:=i) (by rw[Bd];omega),CN,Bz];have e:BB^i*((z+x+c)%BB+BB*((z+x+c)/BB))=BB^i*(z+x+c):=by rw[Eo]
 rw[BN,BN,BN (BB^i) z]at e;omega
theorem g9 {A:List Nat}{i z c X:Nat}(hz:A[i]?=some z)(hI:AS A+BB^i*c=X):
  AS (A.set i ((z+c)%BB))+BB^(i+1)*((z+c)/BB)=X:=by
 have hs:=JN (d:=(z+c)%BB) hz;rw[CN,Bz];have e:BB^i*((z+c)%BB+BB*((z+c)/BB))=BB^i*(z+c):=by rw[Eo]
 rw[BN,BN (BB^i) z]at e;omega
theorem Lj {A P Z:List Nat}{i z:Nat}(h:P[i]?=some z):((A++(P++Z)).map AR)[A.length+i]?=some (AR z):=by
 have hi:i<P.length:=(List.getElem?_eq_some_iff.1 h).1;refine DV ?_;rw[En (by omega),Kx,Fj hi];exact h
theorem Qv {A P Z:List Nat}{i d:Nat}(hi:i<P.length):((A++(P++Z)).map AR).set (A.length+i) (AR d)=(A++(P.set i d++Z)).map AR:=by
 rw[map_set,Ph _ _ (by omega),Kx,List.set_append_left _ _ hi]
set_option maxHeartbeats 2000000
def oC (A P Z v:List Nat)(gq Tq gu:Nat)(qs:List D)(d:D)(H':Hp)(_:Nat):Prop:=
 ∃P':List Nat,P'.length=P.length/\Wd P'/\AS P'=AS P%AS v/\d=AR (AS P/AS v)/\H'=[⟨1505,gq,Tq,1,qs⟩,⟨103,gu,210,1,(A++(P'++Z)).map AR⟩]
theorem qH (A P Z v:List Nat)(m p0 p1 p2 v2 v1:Nat)(S:Mn P v m p0 p1 p2 v2 v1)(hm:A.length+m<4000000)(gq Tq gu:Nat)(qs:List D)(n:Nat):
  Cd C0 229 [.osl 103 gu 1 A.length (m+3),wL v] [⟨1505,gq,Tq,1,qs⟩,⟨103,gu,210,1,(A++(P++Z)).map AR⟩] n (oC A P Z v gq Tq gu qs):=by
 refine Cd.walk w1 aY rfl λF=>?_
 unfold wL;have hPl:=S.lP;have hvl:=S.lv;have ev:(((v.map AR).length:Nat):Int)=((m+2:Nat):Int):=by rw[Ac,hvl]
 have k1:IntKind.i64.wrap (((m+2:Nat):Int)-1)=((m+1:Nat):Int):=by rw[wI (by omega) (by omega)];omega
 have k2:IntKind.i64.wrap (((m+2:Nat):Int)-2)=(m:Int):=by rw[wI (by omega) (by omega)];omega
 have hp0:=Lj (A:=A) (Z:=Z) S.h0;have hp1:=Lj (A:=A) (Z:=Z) S.h1;have hp2:=Lj (A:=A) (Z:=Z) S.h2;have hv1:=DV S.g1;have hv2:=DV S.g2;have l0:=S.p0l;have l1:=S.p1l;have l2:=S.p2l;have lv1:=S.v1l;have lv2:=S.v2l;refine sR 0 ?_;refine sZ 100 ?_;refine AU ev ?_;refine sR 200 ?_;refine sR 300 ?_;refine C4 (α:=Nat×Nat×Nat×Nat) (λp=>⟨[(0,.osl 103 gu 1 A.length (m+3)),(1,.sl false 1 (v.map AR)),(5,i64 ((m+2:Nat):Int)),(6,AR p.1),(7,AR p.2.1),(8,AR p.2.2.1)],[⟨1505,gq,Tq,1,qs⟩,⟨103,gu,210,1,(A++(P++Z)).map AR⟩],p.2.2.2⟩)
  (λp=>Lt (AS P) (AS v) (p1+BB*p2) v1 p.1 p.2.1 p.2.2.1) ?_ ?_
 ·refine AC.seq ?_
  refine B7 w1 400 [0,1,2,3,4,5,6,7,8] [9] (by kernel_rfl) ?_;refine AE (As kN k1 hp2) ?_;refine Bq kT hv1 ?_;refine AE (As kN k1 hp2) ?_;rcases BH p2 v1 with h|h
  ·have e1:decide ((p2:Int)>=(v1:Int))=false:=Ag (by omega)
   have G:=iH S h;rw[e1];refine AM ?_;refine B7 w1 700 [0,1,2,3,4,5,6,7,8,9,10,11,12,13,14,15,16,17,18] [19] (by kernel_rfl) ?_;refine AE (BY kN k1 hp2 hp1) ?_;refine Bq kT hv1 ?_;refine AE (BY kN k1 hp2 hp1) ?_;refine BZ.same _ (Xx p2 p1 v1 h l1 lv1) AI ?_;refine BP ?_;exact⟨trivial,⟨(p2*BB+p1)/v1,(p2*BB+p1)%v1,0,_⟩,G,AJ⟩
  ·have e1:decide ((p2:Int)>=(v1:Int))=true:=AX (by omega)
   have G:=kL S h;rw[e1];refine AM ?_;refine sR 500 ?_;refine B7 w1 600 [0,1,2,3,4,5,6,7,8,9,10,11,12,13,14] [15] (by kernel_rfl) ?_;refine AE (BY kN k1 hp2 hp1) ?_;refine Bq kT hv1 ?_;refine AE (BY kN k1 hp2 hp1) ?_;exact⟨trivial,⟨18446744073709551615,(p1+v1+0)%BB,(p1+v1+0)/BB,_⟩,G,AJ⟩
 rintro⟨q0,r0,c0,n0⟩ G0;dsimp only at G0⊢;refine C4 (α:=Nat×Nat) (λp=>⟨[(0,.osl 103 gu 1 A.length (m+3)),(1,.sl false 1 (v.map AR)),(5,i64 ((m+2:Nat):Int)),(6,AR p.1)],[⟨1505,gq,Tq,1,qs⟩,⟨103,gu,210,1,(A++(P++Z)).map AR⟩],p.2⟩)
  (λp=>p.1<BB/\AS P<(p.1+1)*AS v/\p.1*AS v<=AS P+AS v) ?_ ?_
 ·refine AC.block ?_
  refine GY (α:=Nat×Nat×Nat×Nat) (λp=>⟨[(0,.osl 103 gu 1 A.length (m+3)),(1,.sl false 1 (v.map AR)),(5,i64 ((m+2:Nat):Int)),(6,AR p.1),(7,AR p.2.1),(8,AR p.2.2.1)],[⟨1505,gq,Tq,1,qs⟩,⟨103,gu,210,1,(A++(P++Z)).map AR⟩],p.2.2.2⟩)
   (λp=>p.1) (λp F'=>F'=F/\Lt (AS P) (AS v) (p1+BB*p2) v1 p.1 p.2.1 p.2.2.1) (q0,r0,c0,n0) ⟨rfl,G0⟩ AJ ?_
  rintro⟨q,r,c,n1⟩ F' ⟨rfl,G⟩;dsimp only at G⊢;refine AC.seq ?_;refine AC.seq ?_;rcases Do c with hc|hc
  ·subst hc
   have e8:(((0:Nat):Int)==0)=true:=rfl;refine Ao w1 800 (by kernel_rfl) ?_;refine AU e8 ?_;refine AM ?_;refine An ?_;refine AC.block ?_;have lq:=G.qB;have cm:=OP q v2 lq lv2;refine sZ 900 ?_;refine AE (Ah kN k2) ?_;refine Bq kT hv2 ?_;refine AE (Ah kN k2) ?_;refine BE.same _ cm AI ?_;refine BP ?_;have ht:=iu (x:=q*v2) (r:=r) l0;obtain⟨b,hb⟩:∃b:Bool,b=decide (q*v2<=r*BB+p0):=⟨_,rfl⟩
   refine AC.seq ?_;refine EX ⟨[(0,.osl 103 gu 1 A.length (m+3)),(1,.sl false 1 (v.map AR)),(5,i64 ((m+2:Nat):Int)),(6,AR q),(7,AR r),(91,Aq b)],[⟨1505,gq,Tq,1,qs⟩,⟨103,gu,210,1,(A++(P++Z)).map AR⟩],n1+100⟩ ?_ ?_
   ·change(q*v2/18446744073709551616<r\/q*v2/18446744073709551616=r/\q*v2%18446744073709551616<=p0)↔_ at ht
    generalize q*v2/18446744073709551616=hi at*;generalize q*v2%18446744073709551616=lo at*;rcases BH hi r with h|h
    ·have e1:decide ((hi:Int)<(r:Int))=true:=AX (by omega)
     have hb1:b=true:=by rw[hb];exact AX (ht.1 (.inl h))
     subst hb1;refine Ao w1 1000 (by kernel_rfl) ?_;refine AE e1 ?_;refine AE kT ?_;exact And.intro (by trivial) (AJ)
    ·have e1:decide ((hi:Int)<(r:Int))=false:=Ag (by omega)
     rcases Nat.eq_or_lt_of_le h with h2|h2
     ·have e2:((hi:Int)==(r:Int))=true:=EE.2 (by omega)
      have e3:decide ((lo:Int)<=(p0:Int))=b:=by
       rw[hb];exact C8.2 ⟨λh3=>ht.1 (.inr ⟨h2.symm,by omega⟩),λh3=>by rcases ht.2 h3 with h4|h4<;>omega⟩
      refine Ao w1 1000 (by kernel_rfl) ?_;refine AE e1 ?_;refine AE (Ah kF e2) ?_;refine AE (Dp kF e2 kN k2 hp0 e3) ?_;exact And.intro (by trivial) (AJ)
     ·have e2:((hi:Int)==(r:Int))=false:=Br.2 (by omega)
      have hb1:b=false:=by rw[hb];exact Ag λh3=>by rcases ht.2 h3 with h4|h4<;>omega
      subst hb1;refine Ao w1 1000 (by kernel_rfl) ?_;refine AE e1 ?_;refine AE kF ?_;simp only[e2];refine AE (Ah kF E9) ?_;exact And.intro (by trivial) (AJ)
   ·cases b
    ·have hn:=DS hb.symm
     obtain⟨hq0,G2⟩:=iq S G (by omega);have j1:IntKind.u64.wrap ((q:Int)-1)=((q-1:Nat):Int):=by rw[wU (by omega) (by have:=G.qB;unfold BB at this;omega)];omega
     refine AM ?_;refine An ?_;refine sZ 1100 ?_;refine AU j1 ?_;refine Ao w1 1200 (by kernel_rfl) ?_;refine AE (Ah kN k1) ?_;refine Bq kT hv1 ?_;refine AE (Ah kN k1) ?_;exact⟨(q-1,(r+v1+0)%BB,(r+v1+0)/BB,_),⟨trivial,G2⟩,by dsimp only;omega,AJ⟩
    ·have hn:=DE hb.symm
     refine AM ?_;refine B9 ?_;exact⟨rfl,⟨q,_⟩,⟨G.qB,G.up,We S G (.inr hn)⟩,AJ⟩
  ·have e8:((c:Int)==0)=false:=Br.2 (by omega)
   refine Ao w1 800 (by kernel_rfl) ?_;refine AU e8 ?_;refine AM ?_;refine B9 ?_;exact⟨rfl,⟨q,_⟩,⟨G.qB,G.up,We S G (.inl hc)⟩,AJ⟩
 rintro⟨q,n1⟩ ⟨hq,hup,hdn⟩;dsimp only at hq hup hdn⊢;clear hp0 hp1 hp2;refine sR 1300 ?_;refine AC.seq ?_;refine sR 1400 ?_;refine AC.block ?_;refine AC.loop (α:=Nat×Nat×Nat×List Nat×Nat) (λp=>⟨[(0,.osl 103 gu 1 A.length (m+3)),(1,.sl false 1 (v.map AR)),(5,i64 ((m+2:Nat):Int)),(6,AR q),(11,AR p.2.1),(12,AR p.2.2.1),(104,i64 ((m+2:Nat):Int)),(105,i64 p.1)],[⟨1505,gq,Tq,1,qs⟩,⟨103,gu,210,1,(A++(p.2.2.2.1++Z)).map AR⟩],p.2.2.2.2⟩) (λp=>m+2-p.1)
  (λp=>p.1<=m+2/\p.2.1<=1/\p.2.2.1<BB/\p.2.2.2.1.length=m+3/\Wd p.2.2.2.1/\AS p.2.2.2.1+q*AS (v.take p.1)=AS P+BB^p.1*(p.2.2.1+p.2.1)) (0,0,0,P,_) ⟨BU _,BU _,(show 0<BB by decide),hPl,S.wP,by simp[AS]⟩ AJ ?_
 rintro⟨i,b,c,p,n2⟩ F ⟨hi,hb,hc,hpl,hpw,hI⟩;dsimp only at hi hb hc hpl hpw hI⊢;have hv1':=hv1;clear hv1 hv2;refine sR 1500 ?_;refine AC.seq ?_;refine AM ?_
 (refine By (λhlt=>?_) (λhlt=>?_))<;>(try simp only[Bj,Bw]at hlt)<;>(try simp only[hlt])
 ·have hi2:i<m+2:=by
   have:=DE hlt
   omega
  obtain⟨x,hx⟩:=CV (l:=v) (i:=i) (by omega);have hx':=DV hx;have hxl:x<BB:=S.wv x (Aw hx);obtain⟨z,hz⟩:=CV (l:=p) (i:=i) (by omega);have hz':=Lj (A:=A) (Z:=Z) hz;have hzl:z<BB:=hpw z (Aw hz);have cm:=OP q x hq hxl;have md:=jF hq hxl hc;obtain⟨h,l,lo,k,c',eh,el,elo,ek,ec,hlo,hc',hmd⟩:∃h l lo k c',q*x/18446744073709551616=h/\q*x%18446744073709551616=l/\(l+c+0)%18446744073709551616=lo/\(l+c+0)/18446744073709551616=k/\h+k=c'/\lo<BB/\c'<BB/\lo+BB*c'=q*x+c:=
   ⟨_,_,_,_,_,rfl,rfl,rfl,rfl,rfl,B3 _ (by decide),md.2,md.1⟩
  rw[eh,el]at cm;have j1:IntKind.u64.wrap ((h:Int)+(k:Int))=(c':Int):=by rw[<-Int.natCast_add,ec];exact Vx hc'
  have hsub:=Tf (a:=z) (b:=lo) hb;have hdig:=TV hzl hlo hb;have hb':(if z<lo+b then 1 else 0)<=1:=by split<;>decide
  have hd:(z+BB-lo-b)%BB<BB:=B3 _ (by decide);generalize(if z<lo+b then 1 else 0)=b' at*;generalize(z+BB-lo-b)%BB=d at*;have wi:IntKind.i64.wrap ((i:Int)+1)=((i+1:Nat):Int):=wI (by omega) (by omega);refine An ?_;refine AC.seq ?_;refine AC.block ?_;refine sR 1600 ?_;refine sZ 1700 ?_;refine AE kN ?_;refine Bq kT hx' ?_;refine AE kN ?_;refine BE.same _ cm AI ?_;refine BP ?_;refine sR 1800 ?_;refine sZ 1900 ?_;refine AU (Ah elo ek) ?_;refine sZ 2000 ?_;refine AU j1 ?_;refine Ao w1 2100 (by kernel_rfl) ?_;refine AE (Ah kN hz') ?_
  first|(refine D7 rfl rfl ?_;refine Q0 rfl rfl (hsub) ?_)|(refine Ef rfl rfl ?_;refine Od rfl rfl (hsub) ?_)
  refine AE (Ah kN hz') ?_;rw[Qv (by omega)];refine Ao w1 2200 (by kernel_rfl) ?_;refine AU wi ?_;exact⟨(i+1,b',c',p.set i d,_),⟨hi2,hb',hc',by dsimp only;rw[DH];exact hpl,hpw.set hd,gf hz hx hI hmd hdig⟩,by dsimp only;omega,AJ⟩
 ·have hi2:i=m+2:=by
   have:=DS hlt
   omega
  subst hi2;rw[B8 (by omega)]at hI;obtain⟨z,hz⟩:=CV (l:=p) (i:=m+2) (by omega);have hz':=Lj (A:=A) (Z:=Z) hz;have hzl:z<BB:=hpw z (Aw hz);have hsub:=Tf (a:=z) (b:=c) hb;have hdig:=TV hzl hc hb;have hb':(if z<c+b then 1 else 0)<=1:=by split<;>decide
  have hd:(z+BB-c-b)%BB<BB:=B3 _ (by decide);generalize(if z<c+b then 1 else 0)=b' at*;generalize(z+BB-c-b)%BB=d at*;have hT:=gh hz hI hdig;have hml:m+2<p.length:=by omega
  refine B9 ?_;refine sZ 2300 ?_;refine AE (Ah kN hz') ?_
  first|(refine D7 rfl rfl ?_;refine Q0 rfl rfl (hsub) ?_)|(refine Ef rfl rfl ?_;refine Od rfl rfl (hsub) ?_)
  refine AE (Ah kN hz') ?_;rw[Qv hml];have hpl2:(p.set (m+2) d).length=m+3:=by rw[DH];exact hpl
  have hpw2:=hpw.set (i:=m+2) hd;clear hz' hz hdig hsub hI;generalize p.set (m+2) d=p2 at*;refine AC.seq ?_;refine AC.seq ?_;rcases Do b' with hb0|hb0
  ·subst hb0
   have e24:(((0:Nat):Int)==0)=true:=rfl;obtain⟨ed,em⟩:=TT hT hup;refine Ao w1 2400 (by kernel_rfl) ?_;refine AU e24 ?_;refine AM ?_;refine sR 2500 ?_;refine Ai ?_;exact⟨p2,by omega,hpw2,em.symm,by rw[ed],rfl⟩
  ·have hb1:b'=1:=by omega
   subst hb1;have e24:(((1:Nat):Int)==0)=false:=rfl;have hpL:=Hj hpw2;rw[hpl2]at hpL;refine Ao w1 2400 (by kernel_rfl) ?_;refine AU e24 ?_;refine AM ?_;refine An ?_;refine sR 2600 ?_;refine AC.seq ?_;refine sR 2700 ?_;refine AC.block ?_;refine AC.loop (α:=Nat×Nat×List Nat×Nat) (λp=>⟨[(0,.osl 103 gu 1 A.length (m+3)),(1,.sl false 1 (v.map AR)),(5,i64 ((m+2:Nat):Int)),(6,AR q),(17,AR p.2.1),(156,i64 ((m+2:Nat):Int)),(157,i64 p.1)],[⟨1505,gq,Tq,1,qs⟩,⟨103,gu,210,1,(A++(p.2.2.1++Z)).map AR⟩],p.2.2.2⟩) (λp=>m+2-p.1)
    (λp=>p.1<=m+2/\p.2.1<=1/\p.2.2.1.length=m+3/\Wd p.2.2.1/\AS p.2.2.1+BB^p.1*p.2.1=AS p2+AS (v.take p.1)) (0,0,p2,_) ⟨BU _,BU _,hpl2,hpw2,by simp[AS]⟩ AJ ?_
   rintro⟨i,c3,p3,n3⟩ F ⟨hi,hc3,hpl3,hpw3,hI⟩;dsimp only at hi hc3 hpl3 hpw3 hI⊢;refine sR 2800 ?_;refine AC.seq ?_;refine AM ?_
   (refine By (λhlt=>?_) (λhlt=>?_))<;>(try simp only[Bj,Bw]at hlt)<;>(try simp only[hlt])
   ·have hi2:i<m+2:=by
     have:=DE hlt
     omega
    obtain⟨x,hx⟩:=CV (l:=v) (i:=i) (by omega);have hx':=DV hx;have hxl:x<BB:=S.wv x (Aw hx);obtain⟨z,hz⟩:=CV (l:=p3) (i:=i) (by omega);have hz':=Lj (A:=A) (Z:=Z) hz;have hzl:z<BB:=hpw3 z (Aw hz);have hadd:=Xn (a:=z) (b:=x) hc3;have J:=gX hz hx hI;have hs:(z+x+c3)%BB<BB:=B3 _ (by decide);have hc':(z+x+c3)/BB<=1:=by
     have:z+x+c3<2*BB:=by omega
     exact Nh (E8 (by rw[BT];exact this))
    generalize(z+x+c3)%BB=d at*;generalize(z+x+c3)/BB=c' at*;have wi:IntKind.i64.wrap ((i:Int)+1)=((i+1:Nat):Int):=wI (by omega) (by omega);refine An ?_;refine AC.seq ?_;refine AC.block ?_;refine sR 2900 ?_;refine PX w1 3000 [0,1,2,3,4,5,6,7,8,9,10,11,12,13,14,15,16] [17] 16 [12,10,9,8,7,6,5,4,3,2,1,0,11,13,15] (103) (by kernel_rfl) (by kernel_rfl) ?_;refine At ?_;refine MG (Ah kN hz') ?_;refine MR rfl rfl rfl rfl ?_;refine Mx (λ_ _=>rfl) (by exact CC) ⟨rfl,by omega⟩ hx' ?_
    try dsimp only[D.cells,spot]
    refine MG (Ah kN hz') ?_;refine MR rfl rfl rfl rfl ?_;refine Od rfl rfl hadd ?_;refine MG (Ah kN hz') ?_;refine And.intro (by first|exact Or.inl AB|exact Or.inl rfl) ?_;refine AE kN ?_;rw[Qv (by omega)];refine Ao w1 3100 (by kernel_rfl) ?_;refine AU wi ?_;exact⟨(i+1,c',p3.set i d,_),⟨hi2,hc',by dsimp only;rw[DH];exact hpl3,hpw3.set hs,J⟩,by dsimp only;omega,AJ⟩
   ·have hi2:i=m+2:=by
     have:=DS hlt
     omega
    subst hi2;rw[B8 (l:=v) (by omega)]at hI;obtain⟨z,hz⟩:=CV (l:=p3) (i:=m+2) (by omega);have hz':=Lj (A:=A) (Z:=Z) hz;have hzl:z<BB:=hpw3 z (Aw hz);have J:=g9 hz hI;have hs:(z+c3)%BB<BB:=B3 _ (by decide);have hc':(z+c3)/BB<=1:=by
     have:z+c3<2*BB:=by omega
     exact Nh (E8 (by rw[BT];exact this))
    have j1:IntKind.u64.wrap ((z:Int)+(c3:Int))=(((z+c3)%BB:Nat):Int):=by rw[<-Int.natCast_add];exact Im _
    generalize(z+c3)%BB=d at*;generalize(z+c3)/BB=c' at*;have hml:m+2<p3.length:=by omega
    have hpl4:(p3.set (m+2) d).length=m+3:=by rw[DH];exact hpl3
    have hpw4:=hpw3.set (i:=m+2) hs;have hpL4:=Hj hpw4;rw[hpl4]at hpL4;obtain⟨q0p,ed,em⟩:=Xg (by rw[EF]at hT;exact hT) hpL hdn J hc' hpL4;have j2:IntKind.u64.wrap ((q:Int)-1)=((q-1:Nat):Int):=by rw[wU (by omega) (by unfold BB at hq;omega)];omega
    refine B9 ?_;refine sZ 3200 ?_;refine AE (As kN hz' j1) ?_;rw[Qv hml];refine sZ 3300 ?_;refine AU j2 ?_;refine Ai ?_;exact⟨p3.set (m+2) d,by omega,hpw4,em.symm,by rw[ed],rfl⟩
theorem Cd.toP {C:BC}{f:Nat}{args:List D}{Φ:D->Hp->Nat->Prop}{Ψ:D->Prop}(h:Cd C f args [] 0 Φ)(k:∀d H n,Φ d H n->∃d',Fz H [] d d'/\B6 d'/\Ψ d'):Ak C f args Ψ:=by
 refine⟨h.1,λY w vs hG hnG hX' hvs hr=>?_⟩
 let F0:Aa:=⟨w,Y,λ_=>False,0,nol,[]⟩
 have m0:Ap C F0 nol [] w:=⟨⟨by simp,.nil,by simp⟩,rfl,rfl,rfl,Af _,λ_ _ _=>rfl,hX',hG,hnG,by simp[F0],λ_ _ _ h=>h,λ_ cs _ _ h=>⟨cs,_,h,rfl⟩⟩
 have hoe:AN F0.X nol []=Y:=funext λb=>propext (by simp[AN,F0])
 refine(h.2 F0 nol w vs m0 (λ_ _ _=>rfl) (by simp) hvs (λi d hd=>by rw[hoe];exact hr i d hd)).mono ?_;rintro e w' ⟨v,d,H',n',ρ',rfl,hΦ,m,x,fr,g,r⟩;obtain⟨d',h3,h4,h5⟩:=k d H' n' hΦ;have hH:Cm H' [] H' []:=by
  generalize H'=H0
  have:∀H1:Hp,Cm H0 [] H1 []:=λH1=>by
   induction H1 with
   |nil=>exact .nil
   |cons e r ih=>exact .drop ih
  exact this H0
 obtain⟨m2,hO,hN⟩:=hH.mem m;have r3:=h3.rep m hO hN r;have r4:=h4 _ nol _ _ _ r3;exact⟨v,d',rfl,⟨m.os,m.tape,m.output,m.size,λb hb=>m.blk b hb (by simp[F0])⟩,h5,r4.anti λb hb=>.inl hb⟩
theorem bw {H Hf:Hp}{a a' b b':D}(h1:Fz H Hf a a')(h2:Fz H Hf b b'):Fz H Hf (.tup [a,b]) (.tup [a',b']):=
 .tup rfl λi d d' hd hd'=>by
  match i with
  | 0=>simp at hd hd';subst hd;subst hd';exact h1
  | 1=>simp at hd hd';subst hd;subst hd';exact h2
  |i+2=>simp at hd
theorem YG {a b:D}(h1:B6 a)(h2:B6 b):B6 (.tup [a,b]):=B6.tup λd hd=>by
 simp only[BG,Db,or_false]at hd;rcases hd with rfl|rfl
 ·exact h1
 ·exact h2
theorem iG (K g T:Nat)(l l':List Nat)(h:l.take l'.length=l'):Fz [⟨K,g,T,1,l.map AR⟩] [] (.osl K g 1 0 l'.length) (wL l'):=by
 have hll:l'.length<=l.length:=by
  have:=congrArg List.length h
  rw[Bd]at this;omega
 have key:∀(j:Nat) (d d':D),(l.map AR)[0+j]?=some d->(l'.map AR)[j]?=some d'->d=d':=λj d d' h1 h2=>by
  rw[<-h,A8,El]at h2;rw[BV,A8]at h1;split at h2
  ·rw[h1]at h2;exact F7 h2
  ·simp at h2
 refine .osl (e:=⟨K,g,T,1,l.map AR⟩) (by simp[Hp.get]) rfl rfl rfl (by simp;exact hll) (by simp) (λj d d' h1 h2=>by rw[key j d d' h1 h2]) λj d d' q c c' h1 h2 h3 h4=>?_
 rw[key j d d' h1 h2]at h3;rw[h3]at h4;cases h4;exact Fz.refl _
theorem pV:wD 0=.sl false 1 []:=by unfold wD;rw[Fq];rfl
theorem kn (w:List Nat)(s:Nat)(hs:s<=63)(hw:Wd w)(hl:w.length<4000000):Ak C0 228 [wL w,i64 s] (λd=>∃out:List Nat,out.length=w.length+1/\Wd out/\AS out=AS w*2^s/\d=wL out):=
 (W8 w s hs hw hl [] 0).toP λd H n ⟨out,g,h1,h2,h3,h4,h5,_⟩=>by
  subst h4;subst h5;refine⟨wL out,?_,KN _,out,h1,h2,h3,rfl⟩
  have:=iG 103 g 210 out out (by simp)
  rw[h1]at this;exact this
theorem kV {n k:Nat}(h1:BB^k<=n)(h2:n<BB^(k+1)):(Ae n).length=k+1:=by
 have h3:=G4 h2;have h4:=Dd h1 (JL n);have h5:=(Nat.pow_lt_pow_iff_right (show 1<BB by decide)).1 h4;omega
theorem TC:∀(n:Nat) {k a:Nat},(Ae n).length=k+1->(Ae n)[k]?=some a->a≠0:=λn=>by
 induction n using Nat.strongRecOn with
 |ind n ih=>
  intro k a h1 h2
  by_cases h0:n=0
  ·subst h0;rw[Fq]at h1;cases h1
  ·rw[GC h0]at h1 h2
   rw[Bo]at h1;have h3:=Nat.succ.inj h1;cases k with
   |zero=>
    have h4:Ae (n/BB)=[]:=FU h3;have h5:n/BB=0:=by rw[<-Er (n/BB),h4];rfl
    have h6:=Eo n BB;rw[h5]at h6;simp at h2;intro h7;subst h7;rw[h2]at h6;omega
   |succ k=>
    rw[Jq]at h2;exact ih _ (H3 (D4 h0) (by decide)) h3 h2
theorem YV {n k:Nat}(h:(Ae n).length=k+1):BB^k<=n:=by
 obtain⟨a,ha⟩:=CV (l:=Ae n) (i:=k) (by omega);have h1:=TC n h ha;have h2:=Ve h ha;rw[Er]at h2;have h3:=Cb (BB^k) (show 1<=a by omega);omega
theorem ux {b m y s:Nat}(hs:s<=63)(hl:(Ae b).length=m+1)(hy:(Ae b)[m]?=some y)(h:y*2^s<BB):(Ae (b*2^s)).length=m+1:=by
 have hp:0<2^s:=Gy s;have hpp:2^(64-s)*2^s=BB:=by rw[<-F5,show 64-s+s=64 by omega]
 have h1:y<2^(64-s):=by
  rw[<-hpp]at h;exact Nat.lt_of_mul_lt_mul_right h
 refine kV ?_ ?_
 ·have:=YV hl
  exact BX this (Nat.le_mul_of_pos_right _ hp)
 ·have h2:=Ve hl hy
  have h3:=Hj ((FH b).take m);rw[Bd,hl,FC (by omega)]at h3;rw[Er]at h2;have h4:b<BB^m*(y+1):=by rw[BN,EF];omega
  have h5:BB^m*(y+1)<=BB^m*2^(64-s):=Cb _ h1;have h6:b*2^s<BB^m*2^(64-s)*2^s:=SU (CX h4 h5) hp;rw[Bz,hpp]at h6;exact h6
theorem YJ {l:List Nat}{j a:Nat}(h:l[j]?=some a):AS (l.drop j)=a+BB*AS (l.drop (j+1)):=by
 have hj:j<l.length:=(List.getElem?_eq_some_iff.1 h).1;rw[ET hj,(List.getElem?_eq_some_iff.1 h).2];rfl
theorem Qj {l:List Nat}{j a:Nat}(h:j<l.length):(l.set j a).drop j=a::l.drop (j+1):=by
 rw[ET (by rw[DH];exact h)]
 congr 1
 ·exact List.getElem_set_self _
 ·rw[List.drop_set_of_lt (by omega)]
theorem ij {a q:List Nat}{j x b rest:Nat}(hb:0<b)(hx:a[j]?=some x)(hj:j<q.length)(hI:AS (q.drop (j+1))*b+rest=AS (a.drop (j+1))):
  AS ((q.set j ((rest*BB+x)/b)).drop j)*b+(rest*BB+x)%b=AS (a.drop j)/\(rest*BB+x)%b<b:=by
 refine⟨?_,B3 _ hb⟩;rw[Qj hj,YJ hx,<-hI,AS];have e:=EY (rest*BB+x) b;rw[Bx,BN BB,Bz BB,BT BB rest,BT _ b];omega
theorem QS {q b r a:Nat}(h:q*b+r=a)(hr:r<b):q=a/b/\r=a%b:=by
 subst h;rw[BT];exact⟨by rw[Nat.mul_add_div (by omega),HP hr,DW],by rw[Nat.mul_add_mod,Di hr]⟩
structure Li (X:Nat)(v U q:List Nat)(lu lq k:Nat):Prop where
 lU:U.length=lu
 lQ:q.length=lq
 wU:Wd U
 wq:Wd q
 val:BB^k*AS (q.drop k)*AS v+AS U=X
 less:AS (U.drop k)<AS v
theorem fS {U:List Nat}(j n:Nat):U=U.take j++((U.drop j).take n++U.drop (j+n)):=by
 rw[<-List.drop_drop,E7,E7]
theorem mc {X:Nat}{v U q:List Nat}{lu lq j m:Nat}(I:Li X v U q lu lq (j+1))(hv:v.length=m+2)(wv:Wd v)(v1 v2:Nat)(h2:v[m]?=some v2)(h1:v[m+1]?=some v1)(ht:0<v1)(hj:j+(m+3)<=lu):
  ∃p0 p1 p2,Mn ((U.drop j).take (m+3)) v m p0 p1 p2 v2 v1/\AS (U.drop (j+(m+3)))=0/\AS ((U.drop j).take (m+3))=AS (U.drop j):=by
 obtain⟨lU,lQ,wU,wq,val,less⟩:=I;obtain⟨x,hx⟩:=CV (l:=U) (i:=j) (by omega);have hxl:=wU x (Aw hx);have e1:=YJ hx;have hlt:AS (U.drop j)<AS v*BB:=by
  have:BB*(AS (U.drop (j+1))+1)<=BB*AS v:=Cb _ less
  rw[BN,BT BB (AS v)]at this;omega
 have hPl:((U.drop j).take (m+3)).length=m+3:=by rw[Bd,Dh];omega
 have e2:AS (U.drop j)=AS ((U.drop j).take (m+3))+BB^(m+3)*AS (U.drop (j+(m+3))):=by
  conv=>lhs;rw[<-E7 (m+3) (U.drop j)]
  rw[J5,hPl,List.drop_drop]
 have hvl:=Hj wv;rw[hv]at hvl;have hz:AS (U.drop (j+(m+3)))=0:=by
  rcases Do (AS (U.drop (j+(m+3))))with h|h
  ·exact h
  ·exfalso
   have e3:BB^(m+3)*1<=BB^(m+3)*AS (U.drop (j+(m+3))):=Cb _ h;have e4:AS v*BB<=BB^(m+2)*BB:=CL _ (Jt hvl);have e5:BB^(m+2)*BB=BB^(m+3):=(CN BB (m+2)).symm;rw[e5]at e4;omega
 rw[hz,Eb,DW]at e2;obtain⟨p0,h0⟩:=CV (l:=(U.drop j).take (m+3)) (i:=m) (by omega);obtain⟨p1,h3⟩:=CV (l:=(U.drop j).take (m+3)) (i:=m+1) (by omega);obtain⟨p2,h4⟩:=CV (l:=(U.drop j).take (m+3)) (i:=m+2) (by omega);exact⟨p0,p1,p2,⟨hPl,hv,λa ha=>wU a (Jn (Fy ha)),wv,h0,h3,h4,h2,h1,ht,by rw[<-e2];exact hlt⟩,hz,e2.symm⟩
theorem mb {X:Nat}{v U q P':List Nat}{lu lq j m:Nat}(I:Li X v U q lu lq (j+1))(hv:0<AS v)(hj:j+(m+3)<=lu)(hjq:j<lq)(hz:AS (U.drop (j+(m+3)))=0)(hP:AS ((U.drop j).take (m+3))=AS (U.drop j))
  (h1:P'.length=m+3) (h2:Wd P') (h3:AS P'=AS ((U.drop j).take (m+3))%AS v) (hd:AS ((U.drop j).take (m+3))/AS v<BB):
  Li X v (U.take j++(P'++U.drop (j+(m+3)))) (q.set j (AS ((U.drop j).take (m+3))/AS v)) lu lq j:=by
 obtain⟨lU,lQ,wU,wq,val,less⟩:=I;have hA:(U.take j).length=j:=by rw[Bd];omega
 have e0:AS U=AS (U.take j)+BB^j*AS (U.drop j):=by
  conv=>lhs;rw[<-E7 j U]
  rw[J5,hA]
 have e1:AS (P'++U.drop (j+(m+3)))=AS P':=by rw[J5,hz,Eb,DW]
 refine⟨?_,by rw[DH];exact lQ,?_,wq.set hd,?_,?_⟩
 ·rw[Bc,Bc,hA,h1,Dh];omega
 ·exact Wd.append (wU.take j) (Wd.append h2 λa ha=>wU a (Jn ha))
 ·rw[Qj (by omega),AS,J5,hA,e1,h3,hP]
  rw[e0]at val;have e2:=EY (AS (U.drop j)) (AS v);have e3:BB^(j+1)*AS (q.drop (j+1))*AS v=BB^j*(BB*AS (q.drop (j+1))*AS v):=by
   rw[CN,Bz,Bz,Bz]
  rw[e3]at val;have e4:BB^j*AS (U.drop j)=BB^j*(AS v*(AS (U.drop j)/AS v))+BB^j*(AS (U.drop j)%AS v):=by
   rw[<-BN,e2]
  rw[Bz,Bx,BN,BT (AS (U.drop j)/AS v)];omega
 ·rw[List.drop_left' hA,e1,h3]
  exact B3 _ hv
theorem js {a b s:Nat}{U v:List Nat}{k lu lq:Nat}(hU:AS U=a*2^s)(hv:AS v=b*2^s)(wU:Wd U)(lU:U.length=lu){q:List Nat}(hq:q=List.replicate lq 0)(hk:lq<=k)
  (hab:a<BB^k*b):Li (a*2^s) v U q lu lq k:=by
 subst hq;refine⟨lU,HT,wU,MY _,?_,?_⟩
 ·rw[HS (by rw[HT];exact hk)]
  rw[show AS []=0 from rfl,Eb,Gz,BV,hU]
 ·rcases BH (AS (U.drop k)) (AS v)with h|h
  ·exact h
  ·exfalso
   have e0:AS U=AS (U.take k)+BB^(U.take k).length*AS (U.drop k):=by
    conv=>lhs;rw[<-E7 k U]
    rw[J5]
   have hp:0<2^s:=Gy s;have h3:a*2^s<BB^k*b*2^s:=SU hab hp;rw[Bz,<-hv]at h3;rcases BH U.length k with hl|hl
   ·rw[HS (by omega)]at h
    rw[show AS []=0 from rfl]at h;rw[Nat.le_zero.1 h,Eb]at h3;omega
   ·rw[Bd,FC hl]at e0
    have:=Cb (BB^k) h
    omega
theorem ma {a b s:Nat}{v U q:List Nat}{lu lq:Nat}(I:Li (a*2^s) v U q lu lq 0)(hv:AS v=b*2^s):AS q=a/b/\AS U=a%b*2^s:=by
 obtain⟨lU,lQ,wU,wq,val,less⟩:=I;simp only[MD,JD,FW]at val less;obtain⟨h1,h2⟩:=QS val less;rw[hv,Pi _ _ (Gy s)]at h1;rw[hv,Pj]at h2;exact⟨h1,h2⟩
structure OY (U u:List Nat)(s i:Nat):Prop where
 len:u.length=U.length
 wd:Wd u
 rest:∀k,i<=k->u[k]?=U[k]?
 val:∀c,U[i]?=some c->AS (U.take i)+BB^i*(c%2^s)=2^s*AS (u.take i)
theorem il {U:List Nat}{s r:Nat}(wU:Wd U)(h:AS U=r*2^s)(hs:s<=63):OY U U s 0:=by
 refine⟨rfl,wU,λ_ _=>rfl,λc hc=>?_⟩;have e:=KO hc;simp only[NX,MD,JD,AS,BV,Eb]at e⊢;have hpp:2^(64-s)*2^s=BB:=by rw[<-F5,show 64-s+s=64 by omega]
 have e1:(AS U)%2^s=0:=by rw[h];exact Nat.mul_mod_left _ _
 rw[e,<-hpp,Nat.mul_right_comm,Nat.add_mul_mod_self_right]at e1;exact e1
theorem WX {c d s:Nat}(hs:s<=63)(hc:c<BB):c/2^s ||| d*2^(64-s)%BB=c/2^s+d%2^s*2^(64-s)/\c/2^s+d%2^s*2^(64-s)<BB /\
  c%2^s+2^s*(c/2^s+d%2^s*2^(64-s))=c+BB*(d%2^s):=by
 have hpp:2^s*2^(64-s)=BB:=by rw[<-F5,show s+(64-s)=64 by omega]
 have h1:d*2^(64-s)%BB=d%2^s*2^(64-s):=by rw[<-hpp,Pj]
 have h2:c/2^s<2^(64-s):=E8 (by rw[hpp];exact hc);have h3:d%2^s<2^s:=B3 _ (Gy s);have h4:(d%2^s+1)*2^(64-s)<=2^s*2^(64-s):=CL _ h3;rw[hpp,Bx,JD]at h4;have e:=Eo c (2^s);refine⟨?_,by omega,?_⟩
 ·rw[h1,Nat.or_comm,Us h2,Kz]
 ·rw[BN,Ic,hpp,BT (d%2^s)]
  omega
theorem jx {U u:List Nat}{s i c d:Nat}(hs:s<=63)(wU:Wd U)(I:OY U u s i)(hc:U[i]?=some c)(hd:U[i+1]?=some d):
  OY U (u.set i (c/2^s+d%2^s*2^(64-s))) s (i+1):=by
 obtain⟨len,wd,rest,val⟩:=I;have hcl:=wU c (Aw hc);obtain⟨_,e2,e3⟩:=WX (d:=d) hs hcl;have hi:i<U.length:=(List.getElem?_eq_some_iff.1 hc).1;refine⟨by rw[DH];exact len,wd.set e2,λk hk=>?_,λc' hc'=>?_⟩
 ·rw[Ih (by omega)];exact rest k (by omega)
 ·rw[hd]at hc'
  cases hc';have v0:=val c hc;rw[Qk (by omega),Gi (i:=i) (by rw[Bd];omega),FG hc,Gi (i:=i) (by rw[Bd];omega),BN,<-v0,CN,Bz,Ic (2^s)];have e4:BB^i*(c%2^s+2^s*(c/2^s+d%2^s*2^(64-s)))=BB^i*(c+BB*(d%2^s)):=by rw[e3]
  rw[BN,BN (BB^i) c]at e4;omega
theorem jw {U u:List Nat}{s n r:Nat}(I:OY U u s n)(hn:n<U.length)(hU:AS U=r*2^s)(hl:AS U<BB^n):AS (u.take n)=r:=by
 obtain⟨c,hc⟩:=CV hn;have e:=KO hc;have hz:c+BB*AS (U.drop (n+1))=0:=by
  rcases Do (c+BB*AS (U.drop (n+1)))with h|h
  ·exact h
  ·have:=Cb (BB^n) h
   omega
 have hc0:c=0:=by omega
 subst hc0;have v0:=I.val 0 hc;rw[hz,Eb,DW]at e;rw[Nat.zero_mod,Eb,DW,<-e,hU,BT]at v0;exact(Nat.eq_of_mul_eq_mul_left (Gy s) v0).symm
theorem Yz {a b:Nat}(h:a<b):decide (Dz (a:Int) (b:Int)<0)=true:=AX (by unfold Dz;split<;>(try split)<;>omega)
theorem Qo {a b:Nat}(h:b<=a):decide (Dz (a:Int) (b:Int)<0)=false:=Ag (by unfold Dz;split<;>(try split)<;>omega)
theorem pW {env:Ar}{t K g n N t2:Nat}{z:List Nat}{T:Nat}{d2:D}(hl:z.length=N)(he:env.get t=.osl K g 1 0 N:=by exact rfl)(h2:env.get t2=d2:=by exact rfl):Wk ⟨env,[⟨K,g,T,1,z.map AR⟩],n⟩ ⟨[(t,.sl false 1 (z.map AR)),(t2,d2)],[],n⟩:=by
 subst hl;refine⟨.drop .nil,⟨?_,?_,trivial⟩,Af _⟩
 ·dsimp only
  rw[he]
  have:=RZ K g T 1 (z.map AR)
  rwa [Ac]at this
 ·dsimp only
  rw[h2];exact .refl _
theorem ju (a b:Nat)(hab:a<b)(ha:(Ae a).length<1000000)(hb:(Ae b).length<1000000):AK C0 168 [wD a,wD b] (.tup [wD (a/b),wD (a%b)]):=by
 rw[HP hab,Di hab,pV];refine Ak.walk w1 RV rfl λF=>?_
 have cc:=Qp a b (by omega) (by omega);have e1:=Yz hab;refine sR 0 ?_;refine AC.seq ?_;refine sR 100 ?_;refine cI cc ?_;rw[e1];refine AM ?_;refine sR 200 ?_;refine Ai ?_;exact⟨_,bw (.nil 1) (.refl _),YG (.sl λe he=>by cases he) (KN _),rfl⟩
theorem me (a b:Nat)(hab:b<=a)(ha:(Ae a).length<1000000)(hb:(Ae b).length=1)(hb0:b≠0):AK C0 168 [wD a,wD b] (.tup [wD (a/b),wD (a%b)]):=by
 have cc:=Qp a b (by omega) (by omega);have e1:=Qo hab;have hbl:b<BB:=by
  have:=JL b
  rw[hb,Nat.pow_one]at this;exact this
 have hlb:(Ae b)[0]?=some b:=by rw[MO hb0 hbl];rfl
 have va:=Er a;have wa:=FH a;refine Ak.walk w1 RV rfl λF=>?_
 unfold wD wL at cc⊢;change AC C0 F none F _ _ (Rl X1.tt _ (· = .tup [wD (a/b),wD (a%b)]));generalize Ae a=la at*;generalize Ae b=lb at*;have hb':=DV hlb;have e3:((((lb.map AR).length:Nat):Int)==1)=true:=by rw[Ac,hb];rfl
 have ea:(((la.map AR).length:Nat):Int)=(la.length:Int):=by rw[Ac]
 have wl:IntKind.i64.wrap ((la.length:Int)-1)=(la.length:Int)-1:=wI (by omega) (by omega);have r3:List.replicate la.length (ofV (.int .u64 0))=(List.replicate la.length 0).map AR:=by rw[Jo];rfl
 refine sR 0 ?_;refine AC.seq ?_;refine sR 100 ?_;refine cI cc ?_;rw[e1];refine AM ?_;refine An ?_;refine AC.seq ?_;refine sZ 300 ?_;refine AU e3 ?_;refine AM ?_;refine sZ 400 ?_;refine AU (Ah ea kN) ?_;refine sR 500 ?_;refine AC.seq ?_;refine sZ 600 ?_;refine AU (Ah ea wl) ?_;refine AC.block ?_;refine AC.loop (α:=Nat×Nat×List Nat×Nat) (λp=>⟨[(0,.sl false 1 (la.map AR)),(1,.sl false 1 (lb.map AR)),(6,.osl 402 11 1 0 la.length),(7,AR p.2.1),(8,i64 ((p.1:Int)-1))],[⟨402,11,210,1,p.2.2.1.map AR⟩],p.2.2.2⟩) (λp=>p.1)
  (λp=>p.1<=la.length/\p.2.1<b/\p.2.2.1.length=la.length/\Wd p.2.2.1/\AS (p.2.2.1.drop p.1)*b+p.2.1=AS (la.drop p.1)) (la.length,0,List.replicate la.length 0,_)
  ⟨Af _,D4 hb0,by simp,MY _,by simp[AS]⟩ (by rw[<-r3];exact AJ) ?_
 rintro⟨k,r,q,m⟩ F ⟨h1,h2,h3,h4,h5⟩;dsimp only at h1 h2 h3 h4 h5⊢;clear cc e1 e3 ea wl r3;refine AC.seq ?_;refine sR 700 ?_;refine AM ?_
 (refine By (λh20=>?_) (λh20=>?_))<;>(try simp only[Bj,Bw]at h20)<;>(try simp only[h20])
 ·obtain⟨j,rfl⟩:∃j,k=j+1:=⟨k-1,by
   have:(k:Int)-1>=0:=by simpa using h20
   omega⟩
  have wj:((j+1:Nat):Int)-1=(j:Int):=by omega
  obtain⟨x,hx⟩:=CV (l:=la) (i:=j) (by omega);obtain⟨z,hz⟩:=CV (l:=q) (i:=j) (by omega);have hx':=DV hx;have hz':=DV hz;have hxl:=wa x (Aw hx);have cd:=Xx r x b h2 hxl hbl;obtain⟨J1,J2⟩:=ij (D4 hb0) hx (by omega) h5;have hql:(r*BB+x)/b<BB:=by
   refine E8 ?_
   have:(r+1)*BB<=b*BB:=CL _ h2
   rw[Bx]at this;omega
  have wi:IntKind.i64.wrap ((j:Int)-1)=(j:Int)-1:=wI (by omega) (by omega);generalize(r*BB+x)/b=d at*;generalize(r*BB+x)%b=r' at*;rw[wj];refine An ?_;refine AC.seq ?_;refine AC.block ?_;refine PX w1 900 [0,1,2,3,4,5,6,7,8,9,10,11,12,13,14,15] [16] 15 [11,9,8,7,6,5,4,3,2,1,0,10,12,14] (402) (by kernel_rfl) (by kernel_rfl) ?_;refine At ?_;refine MG kN ?_;refine MR rfl rfl rfl rfl ?_;refine Mx (λ_ _=>rfl) (by exact CC) ⟨rfl,by omega⟩ hx' ?_
  try dsimp only[D.cells,spot]
  refine MG kN ?_;refine MR rfl rfl rfl rfl ?_;refine Mx (λ_ _=>rfl) (by exact CC) ⟨rfl,by omega⟩ hb' ?_
  try dsimp only[D.cells,spot]
  refine MG kN ?_;refine MR rfl rfl rfl rfl ?_;refine LY (λ_ _=>rfl) (by exact CC) ?_;refine At ?_;refine BZ.same _ cd AI ?_;refine MG (As kN BV hz') ?_;refine And.intro (by first|exact Or.inl AB|exact Or.inl rfl) ?_;refine AE (Ah kN BV) ?_;rw[map_set];refine Ao w1 800 (by kernel_rfl) ?_;refine AU wi ?_;exact⟨(j,r',q.set j d,_),⟨by dsimp only;omega,J2,by dsimp only;rw[DH];exact h3,h4.set hql,J1⟩,by dsimp only;omega,AJ⟩
 ·have hk:k=0:=by
   have:¬((k:Int)-1>=0):=by simpa using h20
   omega
  subst hk;rw[FW,FW,va]at h5;obtain⟨q1,q2⟩:=QS h5 h2;refine B9 ?_;refine AC.weak ⟨[(6,.sl false 1 (q.map AR)),(7,AR r)],[],_⟩ (pW h3) ?_;refine sR 1000 ?_;refine BE.same _ (trim_ok q h4 (by omega)) AI ?_;refine BP ?_;have hrl:Wd [r]:=λa ha=>by
   simp only[BG,Db,or_false]at ha;subst ha;exact F3 h2 hbl
  refine BE.pure [wL [r]] _ ⟨.nn true 1 _,trivial⟩ (trim_ok [r] hrl (by simp)) AI ?_;refine BP ?_;refine Ai ?_;exact AL (by rw[q1,q2];simp[AS]) AA.out
set_option maxHeartbeats 4000000
theorem ZF {H:Hp}{K g T:Nat}{l:List Nat}{N:Nat}(hl:l.length=N)(he:Hp.get H K=some ⟨K,g,T,1,l.map AR⟩:=by exact rfl):Fz H [] (.osl K g 1 0 N) (.sl false 1 (l.map AR)):=by
 subst hl;have key:∀(j:Nat) (d d':D),(l.map AR)[0+j]?=some d->(l.map AR)[j]?=some d'->d=d':=λj d d' h1 h2=>by
  rw[BV]at h1;rw[h1]at h2;exact F7 h2
 refine .osl (e:=⟨K,g,T,1,l.map AR⟩) he rfl rfl rfl (by simp) (by simp) (λj d d' h1 h2=>by rw[key j d d' h1 h2]) λj d d' q c c' h1 h2 h3 h4=>?_
 rw[key j d d' h1 h2]at h3;rw[h3]at h4;cases h4;exact Fz.refl _
theorem jv (a b m:Nat)(hab:b<=a)(ha:(Ae a).length<1000000)(hb:(Ae b).length=m+2):AK C0 168 [wD a,wD b] (.tup [wD (a/b),wD (a%b)]):=by
 have hlen:=HZ b a hab;have cc:=Qp a b (by omega) (by omega);have e1:=Qo hab;obtain⟨y,hy⟩:=CV (l:=Ae b) (i:=m+1) (by omega);have y0:=TC b hb hy;have yl:y<BB:=FH b y (Aw hy);obtain⟨s,hs,es,t1,t2⟩:=WU y0 yl;have cl:=d9 y yl;rw[es]at cl;have hvl:=ux hs hb hy t2;obtain⟨v,hv⟩:∃v,v=Ae (b*2^s):=⟨_,rfl⟩
 have wv:Wd v:=by rw[hv];exact FH _
 have vv:AS v=b*2^s:=by rw[hv];exact Er _
 rw[<-hv]at hvl;obtain⟨v1,h1⟩:=CV (l:=v) (i:=m+1) (by omega);obtain⟨v2,h2⟩:=CV (l:=v) (i:=m) (by omega);have v10:v1≠0:=TC (b*2^s) (by rw[<-hv];exact hvl) (by rw[<-hv];exact h1);have vpos:0<AS v:=by
  rw[vv];refine HW ?_ (Gy s);refine D4 λh=>?_
  subst h;rw[Fq]at hb;cases hb
 have va:=Er a;have vb:=Er b;have wa:=FH a;have wb:=FH b;have hup:=JL a;have hbge:=YV hb;refine Ak.walk w1 RV rfl λF=>?_
 unfold wD wL at cc⊢;change AC C0 F none F _ _ (Rl X1.tt _ (· = .tup [wD (a/b),wD (a%b)]));generalize Ae a=la at*;generalize Ae b=lb at*;obtain⟨lq,hlq⟩:∃lq,la.length=lq+(m+2):=⟨la.length-(m+2),by omega⟩
 have hy':=DV hy;have e3:((((lb.map AR).length:Nat):Int)==1)=false:=by rw[Ac,hb];exact Br.2 (by omega)
 have elb:(((lb.map AR).length:Nat):Int)=((m+2:Nat):Int):=by rw[Ac,hb]
 have wlb0:IntKind.i64.wrap (((m+2:Nat):Int)-1)=((m+1:Nat):Int):=by rw[wI (by omega) (by omega)];omega
 have wlb:IntKind.i64.wrap ((((lb.map AR).length:Nat):Int)-1)=((m+1:Nat):Int):=by rw[elb];exact wlb0
 have ea:(((la.map AR).length:Nat):Int)=(la.length:Int):=by rw[Ac]
 have ev:(((v.map AR).length:Nat):Int)=((m+2:Nat):Int):=by rw[Ac,hvl]
 have wq1:IntKind.i64.wrap ((la.length:Int)-((m+2:Nat):Int))=(lq:Int):=by rw[wI (by omega) (by omega)];omega
 have wq2:IntKind.i64.wrap ((lq:Int)+1)=((lq+1:Nat):Int):=by rw[wI (by omega) (by omega)];omega
 have wq1':IntKind.i64.wrap ((la.length:Int)-((m+2:Nat):Int))=((lq+1:Nat):Int)-1:=by rw[wI (by omega) (by omega)];omega
 have wraw:IntKind.i64.wrap (IntKind.i64.wrap ((((la.map AR).length:Nat):Int)-((m+2:Nat):Int))+1)=((lq+1:Nat):Int):=by rw[ea,wq1,wq2]
 have r3:List.replicate (lq+1) (ofV (.int .u64 0))=(List.replicate (lq+1) 0).map AR:=by rw[Jo];rfl
 refine sR 0 ?_;refine AC.seq ?_;refine sR 100 ?_;refine cI cc ?_;rw[e1];refine AM ?_;refine An ?_;refine AC.seq ?_;refine sZ 300 ?_;refine AU e3 ?_;refine AM ?_;refine An ?_;refine sZ 1100 ?_;refine AE (BY wlb elb wlb0 kN) ?_;refine Bq kT hy' ?_;refine AE (BY wlb elb wlb0 kN) ?_;refine cI cl ?_;refine C4 (α:=Nat) (λn=>⟨[(0,.sl false 1 (la.map AR)),(9,i64 s),(10,.sl false 1 (v.map AR))],[],n⟩) (λ_=>True) ?_ ?_
 ·refine rI 1200 ?_
  refine BE.prop [wL lb,i64 s] _ (Ed.refl _) (kn lb s hs wb (by omega)) AI ?_;rintro d ⟨out,o1,o2,o3,rfl⟩;have hvo:wD (AS out)=.sl false 1 (v.map AR):=by rw[o3,vb,hv];rfl
  refine BP ?_;refine BE.same _ (trim_ok out o2 (by omega)) AI ?_;refine BP ?_;simp only[hvo];exact⟨trivial,_,trivial,AJ⟩
 rintro n0 -;clear cc e1 e3 elb wlb wlb0 hy' cl es t1 t2 yl y0 hy wb;refine sR 1300 ?_;refine BE.own _ (W8 la s hs wa (by omega) [] _) ?_;rintro d H' n1 ⟨U,gu,u1,u2,u3,rfl,rfl,-⟩;rw[va]at u3;refine BP ?_;refine sZ 1400 ?_;refine AU ev ?_;refine C4 (α:=Nat×Nat) (λp=>⟨[(0,.sl false 1 (la.map AR)),(9,i64 s),(10,.sl false 1 (v.map AR)),(11,.osl 103 gu 1 0 (la.length+1)),(12,i64 ((m+2:Nat):Int)),(13,.osl 1505 p.1 1 0 (lq+1))],[⟨1505,p.1,210,1,(List.replicate (lq+1) 0).map AR⟩,⟨103,gu,210,1,U.map AR⟩],p.2⟩) (λ_=>True) ?_ ?_
 ·refine Ao w1 1500 (by kernel_rfl) ?_
  refine AU (CH ea wq1 wq2 kN r3) ?_;exact⟨trivial,⟨n1+9,n1+20⟩,trivial,by rw[<-r3];exact AJ⟩
 rintro⟨g,n2⟩ -;dsimp only;have I0:Li (a*2^s) v U (List.replicate (lq+1) 0) (la.length+1) (lq+1) (lq+1):=by
  refine js u3 vv u2 u1 rfl (Af _) ?_
  have:BB^(lq+1)*BB^(m+1)<=BB^(lq+1)*b:=Cb _ hbge
  rw[<-F5,show lq+1+(m+1)=la.length by omega]at this;omega
 refine AC.seq ?_;refine sZ 1600 ?_;refine AU (Ah ea wq1') ?_;refine AC.block ?_;refine AC.loop (α:=Nat×List Nat×List Nat×Nat) (λp=>⟨[(9,i64 s),(10,.sl false 1 (v.map AR)),(11,.osl 103 gu 1 0 (la.length+1)),(12,i64 ((m+2:Nat):Int)),(13,.osl 1505 g 1 0 (lq+1)),(14,i64 ((p.1:Int)-1))],[⟨1505,g,210,1,p.2.2.1.map AR⟩,⟨103,gu,210,1,p.2.1.map AR⟩],p.2.2.2⟩) (λp=>p.1)
  (λp=>p.1<=lq+1/\Li (a*2^s) v p.2.1 p.2.2.1 (la.length+1) (lq+1) p.1) (lq+1,U,List.replicate (lq+1) 0,_) ⟨Af _,I0⟩ AJ ?_
 rintro⟨k,u,q,n3⟩ F ⟨hk,I⟩;dsimp only at hk I⊢;clear I0 wq1 wq2 wq1' wraw r3 ea;refine AC.seq ?_;refine sR 1700 ?_;refine AM ?_
 (refine By (λh20=>?_) (λh20=>?_))<;>(try simp only[Bj,Bw]at h20)<;>(try simp only[h20])
 ·obtain⟨j,rfl⟩:∃j,k=j+1:=⟨k-1,by
   have:(k:Int)-1>=0:=by simpa using h20
   omega⟩
  have wj:((j+1:Nat):Int)-1=(j:Int):=by omega
  obtain⟨p0,p1,p2,SI,hz,hP⟩:=mc I hvl wv v1 v2 h2 h1 (D4 v10) (by omega);have hA:(u.take j).length=j:=by rw[Bd,I.lU];omega
  have cs:=λn=>qH (u.take j) ((u.drop j).take (m+3)) (u.drop (j+(m+3))) v m p0 p1 p2 v2 v1 SI (by rw[hA];omega) g 210 gu (q.map AR) n
  rw[hA,<-fS j (m+3)]at cs;obtain⟨z,hzq⟩:=CV (l:=q) (i:=j) (by rw[I.lQ];omega);have hz':=DV hzq;have hdl:AS ((u.drop j).take (m+3))/AS v<BB:=E8 SI.less;have wi:IntKind.i64.wrap ((j:Int)-1)=(j:Int)-1:=wI (by omega) (by omega);have wjn1:IntKind.i64.wrap ((j:Int)+((m+2:Nat):Int))=((j+(m+2):Nat):Int):=by rw[wI (by omega) (by omega)];omega
  have wjn2:IntKind.i64.wrap (((j+(m+2):Nat):Int)+1)=((j+(m+3):Nat):Int):=by rw[wI (by omega) (by omega)];omega
  have wraw:IntKind.i64.wrap (IntKind.i64.wrap ((j:Int)+((m+2:Nat):Int))+1)=((j+(m+3):Nat):Int):=by rw[wjn1,wjn2]
  have els:j+(m+3)-j=m+3:=Kx _ _;have J:=λP' h1 h2 h3=>mb (P':=P') I vpos (by omega) (by omega) hz hP h1 h2 h3 hdl
  rw[wj];refine An ?_;refine AC.seq ?_;refine AC.block ?_;refine Ao w1 1900 (by kernel_rfl) ?_;refine AE (Dp wraw wjn1 wjn2 kN BV els) ?_;refine BE.own _ (cs _) ?_;rintro d H' n4 ⟨P',g1,g2,g3,rfl,rfl⟩;rw[SI.lP]at g1;refine AE (As kN BV hz') ?_;rw[map_set];refine Ao w1 1800 (by kernel_rfl) ?_;refine AU wi ?_;exact⟨(j,u.take j++(P'++u.drop (j+(m+3))),q.set j (AS ((u.drop j).take (m+3))/AS v),_),⟨by dsimp only;omega,J P' g1 g2 g3⟩,by dsimp only;omega,AJ⟩
 ·have hk:k=0:=by
   have:¬((k:Int)-1>=0):=by simpa using h20
   omega
  subst hk;obtain⟨q1,q2⟩:=ma I vv;have D0:=il I.wU q2 hs;have wu:=I.wU;have wqq:=I.wq;have lu:=I.lU;have lqq:=I.lQ;have hlt:AS u<BB^(m+2):=by
   have:=I.less
   rw[FW]at this;have h:=Hj wv;rw[show v.length=m+2 from hvl]at h;omega
  clear I;refine B9 ?_;refine AC.seq ?_;refine sR 2000 ?_;refine AC.block ?_;refine AC.loop (α:=Nat×List Nat×Nat) (λp=>⟨[(9,i64 s),(11,.osl 103 gu 1 0 (la.length+1)),(12,i64 ((m+2:Nat):Int)),(13,.osl 1505 g 1 0 (lq+1)),(96,i64 ((m+2:Nat):Int)),(97,i64 p.1)],[⟨1505,g,210,1,q.map AR⟩,⟨103,gu,210,1,p.2.1.map AR⟩],p.2.2⟩) (λp=>m+2-p.1)
   (λp=>p.1<=m+2/\OY u p.2.1 s p.1) (0,u,_) ⟨BU _,D0⟩ AJ ?_
  rintro⟨i,x,n4⟩ F ⟨hi,I⟩;dsimp only at hi I⊢;have xl:=I.len;refine sR 2100 ?_;refine AC.seq ?_;refine AM ?_
  (refine By (λhlt2=>?_) (λhlt2=>?_))<;>(try simp only[Bj,Bw]at hlt2)<;>(try simp only[hlt2])
  ·have hi2:i<m+2:=by
    have:=DE hlt2
    omega
   obtain⟨c,hc⟩:=CV (l:=u) (i:=i) (by omega);obtain⟨d,hd⟩:=CV (l:=u) (i:=i+1) (by omega);have hcx:x[i]?=some c:=by rw[I.rest i (Af _)];exact hc
   have hdx:x[i+1]?=some d:=by rw[I.rest (i+1) (by omega)];exact hd
   have hc':=DV hcx;have hcl:=wu c (Aw hc);have hdl:=wu d (Aw hd);have I2:=jx hs wu I hc hd;obtain⟨g1,g2,_⟩:=WX (d:=d) hs hcl;have esh:=ND c s (by omega);have wi:IntKind.i64.wrap ((i:Int)+1)=((i+1:Nat):Int):=wI (by omega) (by omega);refine An ?_;refine AC.seq ?_;refine AC.block ?_;refine sR 2200 ?_;refine sZ 2300 ?_;refine AE (BY kN BV hc' esh) ?_;rw[map_set];have hxi:i<x.length:=by omega
   have h2c:((x.set i (c/2^s)).map AR)[i]?=some (AR (c/2^s)):=DV (Vn hxi);have h2d:((x.set i (c/2^s)).map AR)[i+1]?=some (AR d):=DV (by rw[Ih (by omega)];exact hdx);refine AC.seq ?_;rcases Do s with h0|h0
   ·have e24:decide ((s:Int)>0)=false:=Ag (by omega)
    have es0:x.set i (c/2^s+d%2^s*2^(64-s))=x.set i (c/2^s):=by
     rw[h0,MD,Nat.mod_one,Gz,DW]
    rw[es0]at I2;refine Ao w1 2400 (by kernel_rfl) ?_;refine AU e24 ?_;refine AE e24 ?_;refine AM ?_;refine An ?_;refine Ao w1 2600 (by kernel_rfl) ?_;refine AU wi ?_;exact⟨(i+1,x.set i (c/2^s),_),⟨hi2,I2⟩,by dsimp only;omega,AJ⟩
   ·have e24:decide ((s:Int)>0)=true:=AX (by omega)
    have e24':decide (((i+1:Nat):Int)<((la.length+1:Nat):Int))=true:=AX (by omega);have w64:IntKind.i64.wrap (64-(s:Int))=((64-s:Nat):Int):=by rw[wI (by omega) (by omega)];omega
    have w640:(0:Int)<=IntKind.i64.wrap (64-(s:Int)):=by rw[w64];omega
    have e27:=PB d (64-s) (by omega);have e28:G8 .or .u64 ((c/2^s:Nat):Int) ((d*2^(64-s)%18446744073709551616:Nat):Int)=((c/2^s+d%2^s*2^(64-s):Nat):Int):=by
     rw[VY _ _ (Dd (Gx _ _) hcl) (B3 _ (by decide)),g1]
    have hset:((x.set i (c/2^s)).map AR).set i (AR (c/2^s+d%2^s*2^(64-s)))=(x.set i (c/2^s+d%2^s*2^(64-s))).map AR:=by
     rw[map_set,List.set_set]
    refine Ao w1 2400 (by kernel_rfl) ?_;refine AU e24 ?_;refine AE (As e24 wi e24') ?_;refine AM ?_;refine B7 w1 2500 [0,1,2,3,4,5,6,7,8,9,10,11] [12,13,14] (by kernel_rfl) ?_;refine AE (CO wi w64 e27 e28 kN BV (Ah h2c h2d)) ?_;refine D7 rfl rfl ?_;refine My rfl rfl rfl h2c ?_;refine AE hset ?_;refine Ao w1 2600 (by kernel_rfl) ?_;refine AU wi ?_;exact⟨(i+1,x.set i (c/2^s+d%2^s*2^(64-s)),_),⟨hi2,I2⟩,by dsimp only;omega,AJ⟩
  ·have hi2:i=m+2:=by
    have:=DS hlt2
    omega
   subst hi2;have hr:=jw I (by omega) q2 hlt;have wx:=I.wd;refine B9 ?_;refine AC.weak ⟨[(11,.sl false 1 (x.map AR)),(12,i64 ((m+2:Nat):Int)),(13,.sl false 1 (q.map AR))],[],_⟩ ⟨.drop (.drop .nil),⟨ZF (by omega),.refl _,ZF lqq,trivial⟩,Af _⟩ ?_;have e4:List.take (m+2-0) (List.drop 0 (x.map AR))=(x.take (m+2)).map AR:=by
    rw[NY];simp
   have e5:List.take (m+2) (x.map AR)=(x.take (m+2)).map AR:=by
    rw[NY]
   have ex:(x.map AR).length=la.length+1:=by rw[Ac];omega
   refine AC.seq ?_;refine B7 w1 2700 [0,1,2,3,4] [5,6,7] (by kernel_rfl) ?_;refine BP ?_;refine BZ.same _ (trim_ok q wqq (by omega)) AI ?_;refine AE (BY kN Nat.sub_zero (@FW D) e5) ?_;refine BE.same _ (trim_ok (x.take (m+2)) (wx.take _) (by rw[Bd];omega)) AI ?_;refine BP ?_;refine Ai ?_;exact AL (by rw[q1,hr]) AA.out
theorem fT (a b:Nat)(hb:b≠0)(ha:(Ae a).length<1000000)(hbl:(Ae b).length<1000000):AK C0 168 [wD a,wD b] (.tup [wD (a/b),wD (a%b)]):=by
 rcases BH a b with h|h
 ·exact ju a b h ha hbl
 ·rcases hl:(Ae b).length with _|m
  ·have:=JL b
   rw[hl]at this;simp at this;exact Ad this hb
  ·rcases m with _|m
   ·exact me a b h ha hl hb
   ·exact jv a b m h ha hl
set_option maxHeartbeats 2000000
theorem O3 {x:GI}(h:x.wf)(h0:x.z ≠ -9223372036854775808):x=AW x.z:=by
 obtain⟨z,sm⟩:=x;unfold AW
 congr 1
 cases sm with
 |true=>
  have:=h.1 rfl
  dsimp only at this h0⊢;exact(AX (show Sm z from⟨by omega,by omega⟩)).symm
 |false=>
  have:=h.2 rfl
  exact(Ag this).symm
theorem Dq (z:Int):(AW z).z=z:=rfl
def D1 (x y:GI):GI×GI:=
 if x.sm=true/\y.sm=true/\x.z ≠ -9223372036854775808 then(⟨x.z/y.z,true⟩,⟨x.z%y.z,true⟩)
 else if x.z.tmod y.z<0 then(IX (AW (x.z.tdiv y.z)) ⟨1,true⟩,EC (AW (x.z.tmod y.z)) y)else(AW (x.z.tdiv y.z),AW (x.z.tmod y.z))
theorem j0 (a b:Int)(hb:0<b):(a.tmod b<0->a.tdiv b-1=a/b/\a.tmod b+b=a%b)/\(¬a.tmod b<0->a.tdiv b=a/b/\a.tmod b=a%b):=by
 have e1:=Int.tdiv_eq_ediv (a:=a) (b:=b);have e2:=Int.tmod_add_mul_tdiv a b;have e3:=Int.emod_add_mul_ediv a b;have e4:=Int.emod_nonneg a (show b≠0 by omega);have e5:=Int.emod_lt_of_pos a hb;have hsg:b.sign=1:=Int.sign_eq_one_of_pos hb;rw[hsg]at e1;split at e1
 ·rw[Int.add_zero]at e1
  rw[e1]at e2;constructor
  ·intro h;omega
  ·intro _;exact⟨e1,by omega⟩
 ·rename_i hc
  have hd:¬b ∣ a:=λh=>hc (Or.inr h)
  have hr:a%b≠0:=λh=>hd (Int.dvd_of_emod_eq_zero h)
  have e6:b*(a/b+1)=b*(a/b)+b:=by rw[Int.mul_add,Int.mul_one]
  rw[e1,e6]at e2;constructor
  ·intro _;exact⟨by omega,by omega⟩
  ·intro h;omega
theorem Zw {x y:GI}(hy:0<y.z):(D1 x y).1.z=x.z/y.z/\(D1 x y).2.z=x.z%y.z:=by
 obtain⟨f1,f2⟩:=j0 x.z y.z hy;unfold D1;split
 ·exact⟨rfl,rfl⟩
 ·split
  ·rename_i h
   rw[cQ,Mp];exact f1 h
  ·rename_i h
   exact f2 h
theorem Y2 {x y:GI}(hx:x.wf)(hy:y.wf)(h0:0<y.z):(D1 x y).1.wf/\(D1 x y).2.wf:=by
 unfold D1;split
 ·rename_i h
  have hx1:=hx.1 h.1;have hy1:=hy.1 h.2.1;obtain⟨_,_,h3⟩:=h;have hm:=Int.emod_lt_of_pos x.z h0;have hm2:=Int.emod_nonneg x.z (show y.z≠0 by omega);refine⟨⟨λ_=>?_,λh=>by cases h⟩,⟨λ_=>⟨by dsimp only;omega,by dsimp only;omega⟩,λh=>by cases h⟩⟩;dsimp only;have e3:=Int.emod_add_mul_ediv x.z y.z;constructor
  ·rcases Int.lt_or_le (x.z/y.z) (-9223372036854775808)with h|h
   ·exfalso
    have h8:y.z*(x.z/y.z+1)<=1*(x.z/y.z+1):=Int.mul_le_mul_of_nonpos_right (by omega) (by omega);rw[Int.mul_add,Int.mul_one]at h8;omega
   ·exact h
  ·rcases Int.lt_or_le (x.z/y.z) 9223372036854775808 with h|h
   ·exact h
   ·exfalso
    have h5:(1:Int)*(x.z/y.z)<=y.z*(x.z/y.z):=Int.mul_le_mul_of_nonneg_right (by omega) (by omega);omega
 ·split
  ·exact⟨Zd _ _,Mb _ _⟩
  ·exact⟨Ch _,Ch _⟩
theorem km (a b:Int)(hb:0<b):D2 (decide (a<0)) (a.natAbs/b.natAbs)=a.tdiv b/\D2 (decide (a<0)) (a.natAbs%b.natAbs)=a.tmod b:=by
 obtain⟨n,rfl⟩:∃n:Nat,b=n:=⟨b.natAbs,by omega⟩
 rw[ER]
 by_cases h:a<0
 ·obtain⟨m,rfl⟩:∃m:Nat,a = -(m:Int):=⟨a.natAbs,by omega⟩
  rw[AX h,MC,ER,Int.neg_tdiv,Int.neg_tmod];exact⟨rfl,rfl⟩
 ·obtain⟨m,rfl⟩:∃m:Nat,a=(m:Int):=⟨a.natAbs,by omega⟩
  rw[Ag h,ER];exact⟨rfl,rfl⟩
theorem ik (x y:GI)(hx:x.wf)(hy:y.wf)(h0:0<y.z)(fx:x.few)(fy:y.few)(hn:¬(x.sm=true/\y.sm=true/\x.z ≠ -9223372036854775808)):
  AK C0 251 [x.D,y.D] (.tup [(D1 x y).1.D,(D1 x y).2.D]):=by
 unfold D1;rw[AF hn];refine Ak.walk w1 UZ rfl λF=>?_
 have cx:=JM x hx;have cy:=JM y hy;have cd:=fT x.z.natAbs y.z.natAbs (by omega) fx fy;obtain⟨t1,t2⟩:=km x.z y.z h0;have lq:(Ae (x.z.natAbs/y.z.natAbs)).length<1000000:=Dd (HZ _ _ (Gx _ _)) fx;have lr:(Ae (x.z.natAbs%y.z.natAbs)).length<1000000:=Dd (HZ _ _ (Nat.mod_le _ _)) fx;have c1:=Lc (decide (x.z<0)) (x.z.natAbs/y.z.natAbs) (F3 lq (by decide));have c2:=Lc (decide (x.z<0)) (x.z.natAbs%y.z.natAbs) (F3 lr (by decide));rw[t1]at c1;rw[t2]at c2;have fq:(AW (x.z.tdiv y.z)).few:=by
  show(Ae (x.z.tdiv y.z).natAbs).length<1000000;rw[Int.natAbs_tdiv];exact lq
 have fr:(AW (x.z.tmod y.z)).few:=by
  show(Ae (x.z.tmod y.z).natAbs).length<1000000;rw[Int.natAbs_tmod];exact lr
 have f1:(⟨1,true⟩:GI).few:=by show(Ae 1).length<1000000;rw[MO (by decide) (by decide)];decide
 have cg:=Mu (AW (x.z.tmod y.z)) (Ch _);have cs:=fC (AW (x.z.tdiv y.z)) ⟨1,true⟩ (Ch _) ⟨λ_=>⟨by decide,by decide⟩,λh=>by cases h⟩ fq f1;have ca:=O2 (AW (x.z.tmod y.z)) y (Ch _) hy fr fy;rw[Dq]at cg;have co:AK C0 122 [i64 1] (⟨1,true⟩:GI).D:=CF DY 1000 40 (by kernel_rfl);have hpx:AA x.w:=AI;have hpy:AA y.w:=AI;have hpq:AA (AW (x.z.tdiv y.z)).w:=AI;have hpr:AA (AW (x.z.tmod y.z)).w:=AI;have hps:AA (IX (AW (x.z.tdiv y.z)) ⟨1,true⟩).w:=AI;have hpa:AA (EC (AW (x.z.tmod y.z)) y).w:=AI;have hp1:AA (⟨1,true⟩:GI).w:=AI;clear t1 t2 lq lr fq fr f1;dsimp only[GI.D]at*;refine fR 0 ?_;refine EX ⟨[(2,.optr 0 0 2 0 0),(3,.optr 1 1 2 0 0),(4,.optr 2 2 2 0 0),(5,.optr 3 3 2 0 0)],[⟨3,3,120,2,[C6 0]⟩,⟨2,2,120,2,[C6 0]⟩,⟨1,1,120,2,[.agg [i64 y.s,y.w]]⟩,⟨0,0,120,2,[.agg [i64 x.s,x.w]]⟩],90⟩ ?_ ?_
 ·obtain⟨a,sa⟩:=x
  obtain⟨b,sb⟩:=y;clear cx cy cd c1 c2 cg cs ca co hpq hpr hps hpa hp1;have nx:sa=false->(Ae a.natAbs).map AR≠[]:=λh=>Hd (by
   intro h0;subst h;exact hx.2 rfl ⟨by dsimp only;omega,by dsimp only;omega⟩)
  have ny:sb=false->(Ae b.natAbs).map AR≠[]:=λh=>Hd (by
   intro h0;subst h;exact hy.2 rfl ⟨by dsimp only;omega,by dsimp only;omega⟩)
  unfold GI.s GI.w wD wL at*;dsimp only at*;generalize(Ae a.natAbs).map AR=ka at*;generalize(Ae b.natAbs).map AR=kb at*;cases sa with
  |false=>
   have nx:=nx rfl;dsimp only at*;generalize(if a<0 then(-1:Int)else 1)=sg at*;generalize(match sb with|true=>b|false=>if b<0 then(-1:Int)else 1)=sh at*;generalize(match sb with|true=>CT|false=>D.sl false 1 kb)=wy at*;refine AC.seq ?_;refine Ao w1 100 (by kernel_rfl) ?_;refine AU (As (@ne_eq (List D)) nx ES) ?_;refine AE kT ?_;refine AE kT ?_;refine AE kT ?_;refine AM ?_;refine An ?_;exact And.intro (by trivial) (AJ)
  |true=>
   dsimp only at*;cases sb with
   |false=>
    have ny:=ny rfl;dsimp only at*;generalize(if b<0 then(-1:Int)else 1)=sh at*;refine AC.seq ?_;refine Ao w1 100 (by kernel_rfl) ?_;refine AU (As (@ne_eq (List D)) ny ES) ?_;refine AE (BY kT (@ne_eq (List D)) ny ES) ?_;refine AE (BY kT (@ne_eq (List D)) ny ES) ?_;refine AE (BY kT (@ne_eq (List D)) ny ES) ?_;refine AM ?_;refine An ?_;exact And.intro (by trivial) (AJ)
   |true=>
    have ha:a = -9223372036854775808:=Dc λh=>hn ⟨rfl,rfl,h⟩
    subst ha;dsimp only at*;refine sZ 100 ?_
    repeat'(first|(refine And.intro (by exact CC) ?_;refine At ?_)|((refine By (λhb=>?_) (λhb=>?_))<;>(try simp only[Bj,Bw]at hb)<;>(try simp only[hb])<;>(refine At ?_)))
    refine AM ?_;refine An ?_;exact And.intro (by trivial) (AJ)
 ·refine fR 600 ?_
  refine dI cx ?_;refine fR 700 ?_;refine dI cy ?_;refine fR 800 ?_;refine dI cd ?_;refine fR 900 ?_;refine dI c1 ?_;refine dI c2 ?_;refine AC.seq ?_;refine fR 1000 ?_;refine dI cg ?_
  by_cases h:x.z.tmod y.z<0
  ·have e:decide (max (-1) (min 1 (x.z.tmod y.z))<0)=true:=AX (by omega)
   rw[AG h,e];refine AM ?_;refine B7 w1 1100 [0,1,2,3,4] [5,6,7] (by kernel_rfl) ?_;refine CA ?_;refine BZ.same _ (co) AI ?_;refine CA ?_;refine BZ.same _ (cs) AI ?_;refine CA ?_;refine dI ca ?_;refine AC.seq ?_;refine PX w1 1200 [0,1,2] [3] 2 [0] (2) (by kernel_rfl) (by kernel_rfl) ?_;refine CA ?_;refine CA ?_;refine Ai ?_;exact AL rfl AA.out
  ·have e:decide (max (-1) (min 1 (x.z.tmod y.z))<0)=false:=Ag (by omega)
   rw[AF h,e];refine AM ?_;refine An ?_;refine AC.seq ?_;refine PX w1 1200 [0,1,2] [3] 2 [0] (2) (by kernel_rfl) (by kernel_rfl) ?_;refine CA ?_;refine CA ?_;refine Ai ?_;exact AL rfl AA.out
theorem Xz (x y:GI)(hx:x.wf)(hy:y.wf)(h0:0<y.z)(fx:x.few)(fy:y.few):AK C0 251 [x.D,y.D] (.tup [(D1 x y).1.D,(D1 x y).2.D]):=by
 by_cases h:x.sm=true/\y.sm=true/\x.z ≠ -9223372036854775808
 ·unfold D1
  rw[AG h];obtain⟨a,sa⟩:=x;obtain⟨b,sb⟩:=y;obtain⟨h1,h2,h3⟩:=h;dsimp only at h1 h2 h3 h0;subst h1;subst h2;have ra:=hx.1 rfl;have rb:=hy.1 rfl;dsimp only at ra rb;exact jt a b h0 ⟨by omega,by omega⟩ ⟨by omega,by omega⟩
 ·exact ik x y hx hy h0 fx fy h
theorem fH (x y:GI)(hx:x.wf)(hy:y.wf)(h0:0<y.z)(fx:x.few)(fy:y.few):AK C0 202 [x.D,y.D] (D1 x y).1.D:=by
 refine Ak.walk w1 aL rfl λF=>?_
 have cg:=Mu y hy;have cd:=Xz x y hx hy h0 fx fy;have e1:decide (max (-1) (min 1 y.z)<0)=false:=Ag (by omega);have hpx:AA x.w:=AI;have hpy:AA y.w:=AI;have hpq:AA (D1 x y).1.w:=AI;have hpr:AA (D1 x y).2.w:=AI;dsimp only[GI.D]at*;generalize(D1 x y).1.s=qs at*;generalize(D1 x y).1.w=qw at*;generalize(D1 x y).2.s=rs at*;generalize(D1 x y).2.w=rw at*;refine fR 0 ?_;refine AC.seq ?_;refine fR 100 ?_;refine dI cg ?_;rw[e1];refine AM ?_;refine An ?_;refine fR 300 ?_;refine dI cd ?_;refine fR 400 ?_;refine Ai ?_;exact AL rfl AA.out
theorem Yi (x:GI)(h:x.wf):L5 x=AW (x.z.natAbs:Nat):=by
 have h1:=oD x h;have h2:=qp x;rw[O3 h1 (by omega),h2]
theorem ID {n:Nat}(h:(Ae n).length<1000000):(AW (n:Int)).few:=by
 show(Ae (n:Int).natAbs).length<1000000;rw[ER];exact h
theorem Xy {a b:Nat}(hb:0<b):D1 (AW a) (AW b)=(AW ((a/b:Nat):Int),AW ((a%b:Nat):Int)):=by
 have hb':(0:Int)<(AW (b:Int)).z:=by show(0:Int)<(b:Int);omega
 obtain⟨h1,h2⟩:=Y2 (Ch a) (Ch b) hb';obtain⟨h3,h4⟩:=Zw (x:=AW a) hb';have e3:(D1 (AW a) (AW b)).1.z=((a/b:Nat):Int):=by rw[h3];exact(Int.natCast_ediv a b).symm
 have e4:(D1 (AW a) (AW b)).2.z=((a%b:Nat):Int):=by rw[h4];exact(Int.natCast_emod a b).symm
 have c3:=O3 h1 (by rw[e3];generalize a/b=q;omega);have c4:=O3 h2 (by rw[e4];generalize a%b=q;omega);rw[e3]at c3;rw[e4]at c4;generalize D1 (AW a) (AW b)=p at*;obtain⟨p1,p2⟩:=p;dsimp only at c3 c4;rw[c3,c4]
theorem eX (x y:GI)(hx:x.wf)(hy:y.wf)(fx:x.few)(fy:y.few):AK C0 201 [x.D,y.D] (AW (Nat.gcd x.z.natAbs y.z.natAbs:Nat)).D:=by
 refine Ak.walk w1 aK rfl λF=>?_
 have c1:=dO x hx fx;have c2:=dO y hy fy;rw[Yi x hx]at c1;rw[Yi y hy]at c2;have hpx:AA x.w:=AI;have hpy:AA y.w:=AI;have hpm:∀n:Nat,AA (AW (n:Int)).w:=λn=>AI
 unfold GI.few at fx fy;generalize x.z.natAbs=a at*;generalize y.z.natAbs=b at*;dsimp only[GI.D]at*;refine fR 0 ?_;refine AC.seq ?_;refine B7 w1 100 [0,1,2] [3,4,5] (by kernel_rfl) ?_;refine CA ?_;refine BZ.same _ (c1) AI ?_;refine CA ?_;refine dI c2 ?_;refine AC.seq ?_;refine AC.block ?_;refine AC.loop (α:=Nat×Nat×Nat) (λp=>⟨[(2,.optr 0 0 2 0 0),(3,.optr 1 1 2 0 0),(4,.optr 2 2 2 0 0)],[⟨2,2,120,2,[C6 0]⟩,⟨1,1,120,2,[.agg [i64 (AW (p.2.1:Int)).s,(AW (p.2.1:Int)).w]]⟩,⟨0,0,120,2,[.agg [i64 (AW (p.1:Int)).s,(AW (p.1:Int)).w]]⟩],p.2.2⟩) (λp=>p.2.1)
  (λp=>Nat.gcd p.1 p.2.1=Nat.gcd a b/\(Ae p.1).length<1000000/\(Ae p.2.1).length<1000000) (a,b,_) ⟨rfl,fx,fy⟩ AJ ?_
 rintro⟨u,v,n⟩ F ⟨g1,g2,g3⟩;dsimp only at g1 g2 g3⊢;have cg:=Mu (AW (v:Int)) (Ch _);rw[Dq]at cg;dsimp only[GI.D]at cg;refine AC.seq ?_;refine fR 200 ?_;refine dI cg ?_;rcases Do v with hv|hv
 ·subst hv
  have e2:(max (-1) (min 1 ((0:Nat):Int)) != 0)=false:=by decide
  rw[e2];refine AM ?_;refine B9 ?_;refine fR 500 ?_;refine Ai ?_;refine AL ?_ AA.out;rw[<-g1,Nat.gcd_zero_right]
 ·have e2:(max (-1) (min 1 (v:Int)) != 0)=true:=by
   have:max (-1) (min 1 (v:Int))=1:=by omega
   rw[this];rfl
  have cd:=Xz (AW (u:Int)) (AW (v:Int)) (Ch _) (Ch _) (by show(0:Int)<(v:Int);omega) (ID g2) (ID g3);rw[Xy hv]at cd;dsimp only[GI.D]at cd;rw[e2];refine AM ?_;refine An ?_;refine AC.block ?_;refine fR 300 ?_;refine dI cd ?_;refine PX w1 400 [0,1,2] [3] 2 [0] (0) (by kernel_rfl) (by kernel_rfl) ?_;refine CA ?_;refine CA ?_;have hm:u%v<v:=B3 u hv;refine⟨(v,u%v,_),⟨?_,g3,Dd (HZ _ _ (Nat.mod_le _ _)) g2⟩,hm,AJ⟩;rw[<-g1,Na u v,Nat.gcd_rec v u,Na]
structure GF where
 n:GI
 d:Nat
abbrev GF.D (x:GF):D:=.agg [i64 x.n.s,x.n.w,i64 (AW (x.d:Int)).s,(AW (x.d:Int)).w]
def H5 (r:Rat)(x:GF):Prop:=x.n.wf/\x.n.z=r.num/\x.d=r.den
theorem o9 {a b:Nat}(hb:0<b)(h:(Ae b).length<1000000):(Ae (Nat.gcd a b)).length<1000000:=Dd (HZ _ _ (Nat.gcd_le_right _ hb)) h
def IM (x:GI)(d:Nat):GF:=if d=1 then⟨x,1⟩else⟨(D1 x (AW (Nat.gcd x.z.natAbs d:Nat))).1,d/Nat.gcd x.z.natAbs d⟩
theorem Qe (x:GI)(d:Nat)(hx:x.wf)(hd:0<d):H5 (mkRat x.z d) (IM x d):=by
 have hg:0<Nat.gcd x.z.natAbs d:=Pd _ hd;have e:mkRat x.z d=Rat.normalize x.z d (by omega):=(Rat.normalize_eq_mkRat _).symm;rw[e,Rat.normalize_eq];unfold IM;split
 ·rename_i h
  subst h;refine⟨hx,?_,?_⟩
  ·dsimp only;rw[Nat.gcd_one_right];simp
  ·dsimp only;rw[Nat.gcd_one_right]
 ·have hg':(0:Int)<(AW (Nat.gcd x.z.natAbs d:Nat)).z:=by show(0:Int)<(Nat.gcd x.z.natAbs d:Nat);omega
  exact⟨(Y2 hx (Ch _) hg').1,(Zw hg').1,rfl⟩
theorem Uj:AW ((1:Nat):Int)=⟨1,true⟩:=JU ⟨by decide,by decide⟩
theorem SC {d:Nat}(h:Sm (d:Int)):(AW (d:Int)).s=(d:Int)/\(AW (d:Int)).w=CT:=by rw[JU h];exact⟨rfl,rfl⟩
theorem VV {d:Nat}(h:¬Sm (d:Int)):(AW (d:Int)).s=1/\(AW (d:Int)).w=.sl false 1 ((Ae d).map AR)/\(Ae d).map AR≠[]:=by
 rw[Ui h];refine⟨?_,rfl,Hd ?_⟩
 ·show(if(d:Int)<0 then(-1:Int)else 1)=1
  rw[AF (by omega)]
 ·intro h0
  subst h0;exact h ⟨by decide,by decide⟩
def Kc (x y:GI):GF:=IM (if y.z<0 then AW (-x.z)else x) y.z.natAbs
theorem mL (x y:GI)(hx:x.wf)(h0:y.z≠0):H5 (Rat.divInt x.z y.z) (Kc x y):=by
 unfold Kc
 by_cases h:y.z<0
 ·rw[AG h]
  have:=Qe (AW (-x.z)) y.z.natAbs (Ch _) (by omega)
  rw[Dq]at this;have e:mkRat (-x.z) y.z.natAbs=Rat.divInt x.z y.z:=by
   obtain⟨k,hk⟩:∃k,y.z=Int.negSucc k:=by
    cases hy:y.z with
    |ofNat n=>rw[hy]at h;simp at h;omega
    |negSucc k=>exact⟨k,rfl⟩
   rw[hk];show mkRat (-x.z) (k+1)=_;exact(Rat.normalize_eq_mkRat (by omega)).symm
  rw[e]at this;exact this
 ·rw[AF h]
  have:=Qe x y.z.natAbs hx (by omega)
  have e:mkRat x.z y.z.natAbs=Rat.divInt x.z y.z:=by
   rw[<-Rat.divInt_ofNat];congr 1;omega
  rw[e]at this;exact this
theorem cJ (x y:GI)(hx:x.wf)(hy:y.wf)(h0:y.z≠0)(fx:x.few)(fy:y.few):AK C0 151 [x.D,y.D] (Kc x y).D:=by
 refine Ak.walk w1 ay rfl λF=>?_
 have cg:=Mu y hy;have cn1:=O6 x hx fx;have cn2:=O6 y hy fy;obtain⟨x',hx'⟩:∃x',x'=if y.z<0 then AW (-x.z)else x:=⟨_,rfl⟩
 have wx':x'.wf:=by rw[hx'];split;exact Ch _;exact hx
 have fx':x'.few:=by rw[hx'];split;exact Yr fx;exact fx
 have hd:0<y.z.natAbs:=by omega
 have fd:(Ae y.z.natAbs).length<1000000:=fy;have fdg:=ID fd;have ey:y.z<0->AW (-y.z)=AW (y.z.natAbs:Int):=λh=>by congr 1;omega
 have ey':¬y.z<0->y=AW (y.z.natAbs:Int):=λh=>by
  rw[O3 hy (by omega)];show AW y.z=AW (y.z.natAbs:Int)
  congr 1;omega
 unfold Kc;rw[<-hx'];generalize hdd:y.z.natAbs=d at*;have hpx:AA x.w:=AI;have hpy:AA y.w:=AI;have hpx':AA x'.w:=AI;have hpd:AA (AW (d:Int)).w:=AI;have hg:0<Nat.gcd x'.z.natAbs d:=Pd _ hd;have cc:=eX x' (AW (d:Int)) wx' (Ch _) fx' fdg;rw[Dq,ER]at cc;have fgg:(AW (Nat.gcd x'.z.natAbs d:Nat)).few:=ID (o9 hd fd);have cq1:=fH x' (AW (Nat.gcd x'.z.natAbs d:Nat)) wx' (Ch _) (by show(0:Int)<(Nat.gcd x'.z.natAbs d:Nat);omega) fx' fgg;have cq2:=fH (AW (d:Int)) (AW (Nat.gcd x'.z.natAbs d:Nat)) (Ch _) (Ch _) (by show(0:Int)<(Nat.gcd x'.z.natAbs d:Nat);omega) fdg fgg;rw[Xy hg]at cq2;have hpg:AA (AW ((Nat.gcd x'.z.natAbs d:Nat):Int)).w:=AI;have hpq1:AA (D1 x' (AW (Nat.gcd x'.z.natAbs d:Nat))).1.w:=AI;have hpq2:AA (AW ((d/Nat.gcd x'.z.natAbs d:Nat):Int)).w:=AI;unfold IM GF.D;dsimp only[GI.D]at*;refine fR 0 ?_;refine EX ⟨[(2,.optr 0 0 2 0 0),(3,.optr 1 1 2 0 0),(4,.optr 2 2 4 0 0)],[⟨2,2,122,4,[.agg [i64 0,CT,i64 0,CT]]⟩,⟨1,1,120,2,[.agg [i64 (AW (d:Int)).s,(AW (d:Int)).w]]⟩,⟨0,0,120,2,[.agg [i64 x'.s,x'.w]]⟩],90⟩ ?_ ?_
 ·by_cases h:y.z<0
  ·have e1:decide (max (-1) (min 1 y.z)<0)=true:=AX (by omega)
   rw[AG h]at hx';subst hx';rw[<-ey h];refine fR 100 ?_;refine dI cg ?_;rw[e1];refine AM ?_;refine B7 w1 200 [0,1,2] [3,4,5] (by kernel_rfl) ?_;refine CA ?_;refine BZ.same _ (cn1) AI ?_;refine CA ?_;refine dI cn2 ?_;exact⟨rfl,AJ⟩
  ·have e1:decide (max (-1) (min 1 y.z)<0)=false:=Ag (by omega)
   rw[AF h]at hx';subst hx';have ey:=ey' h;refine fR 100 ?_;refine dI cg ?_;rw[e1];refine AM ?_;refine An ?_;rw[<-ey];exact⟨rfl,AJ⟩
 by_cases h1:d=1
 ·subst h1
  rw[AG rfl,Uj];refine AC.seq ?_;refine sZ 300 ?_
  repeat'(first|(refine And.intro (by exact CC) ?_;refine At ?_)|((refine By (λhb=>?_) (λhb=>?_))<;>(try simp only[Bj,Bw]at hb)<;>(try simp only[hb])<;>(refine At ?_)))
  refine AM ?_;refine fR 400 ?_;refine Ai ?_;exact AL rfl AA.out
 ·rw[AF h1]
  refine EX ⟨[(2,.optr 0 0 2 0 0),(3,.optr 1 1 2 0 0),(4,.optr 2 2 4 0 0)],[⟨2,2,122,4,[.agg [i64 0,CT,i64 0,CT]]⟩,⟨1,1,120,2,[.agg [i64 (AW (d:Int)).s,(AW (d:Int)).w]]⟩,⟨0,0,120,2,[.agg [i64 x'.s,x'.w]]⟩],98⟩ ?_ ?_
  ·by_cases hs:Sm (d:Int)
   ·obtain⟨a1,a2⟩:=SC hs
    rw[a1,a2];have e2:((d:Int)==1)=false:=Br.2 (by omega);refine sZ 300 ?_
    repeat'(first|(refine And.intro (by exact CC) ?_;refine At ?_)|((refine By (λhb=>?_) (λhb=>?_))<;>(try simp only[Bj,Bw]at hb)<;>(try simp only[hb])<;>(refine At ?_)))
    try simp only[e2]
    refine AM ?_;refine An ?_;exact⟨rfl,⟨G7 _,⟨.refl _,.refl _,.refl _,trivial⟩,Af _⟩⟩
   ·obtain⟨a1,a2,a3⟩:=VV hs
    rw[a1,a2];generalize(Ae d).map AR=l at*;refine AC.seq ?_;refine Ao w1 300 (by kernel_rfl) ?_;refine AU (As (@ne_eq (List D)) a3 ES) ?_;refine AE kT ?_;refine AM ?_;refine An ?_;exact⟨rfl,⟨G7 _,⟨.refl _,.refl _,.refl _,trivial⟩,Af _⟩⟩
  ·refine fR 500 ?_
   refine dI cc ?_;refine AC.seq ?_;refine B7 w1 600 [0,1,2,3,4] [5,6,7] (by kernel_rfl) ?_;refine CA ?_;refine BZ.same _ (cq1) AI ?_;refine CA ?_;refine dI cq2 ?_;refine Ai ?_;exact AL rfl AA.out
def rk (r:Rat)(k:Nat):Prop:=(Ae r.num.natAbs).length<=k/\(Ae r.den).length<=k
theorem rk.mono {r:Rat}{k l:Nat}(h:rk r k)(hl:k<=l):rk r l:=⟨BX h.1 hl,BX h.2 hl⟩
theorem RA {n:Int}{d k:Nat}(hd:d≠0)(h1:(Ae n.natAbs).length<=k)(h2:(Ae d).length<=k):rk (Rat.normalize n d hd) k:=by
 rw[Rat.normalize_eq];exact⟨BX (HZ _ _ (Int.natAbs_ediv_le_natAbs _ _)) h1,BX (HZ _ _ (Gx _ _)) h2⟩
theorem KC (a b:Int):(Ae (a*b).natAbs).length<=(Ae a.natAbs).length+(Ae b.natAbs).length:=by
 rw[NW];exact LT _ _
theorem Wv (a b:Int):(Ae (a+b).natAbs).length<=max (Ae a.natAbs).length (Ae b.natAbs).length+1:=
 BX (HZ _ _ (Int.natAbs_add_le a b)) (XB _ _)
theorem bW {a b:Rat}{i j:Nat}(ha:rk a i)(hb:rk b j):rk (a+b) (i+j+1):=by
 rw[Rat.add_def];have h1:=KC a.num b.den;have h2:=KC b.num a.den;have h3:=Wv (a.num*b.den) (b.num*a.den);have h4:=LT a.den b.den;rw[ER]at h1 h2;obtain⟨a1,a2⟩:=ha;obtain⟨b1,b2⟩:=hb;exact RA _ (by omega) (by omega)
theorem vZ {a b:Rat}{i j:Nat}(ha:rk a i)(hb:rk b j):rk (a*b) (i+j):=by
 rw[Rat.mul_def];have h1:=KC a.num b.num;have h4:=LT a.den b.den;obtain⟨a1,a2⟩:=ha;obtain⟨b1,b2⟩:=hb;exact RA _ (by omega) (by omega)
structure FR (r:Rat)(x:GF)(k:Nat):Prop where
 is:H5 r x
 rk:rk r k
theorem FR.fn {r:Rat}{x:GF}{k:Nat}(h:FR r x k)(hk:k<1000000):x.n.few:=by
 show(Ae x.n.z.natAbs).length<1000000;rw[h.is.2.1];have:=h.rk.1;omega
theorem FR.ln {r:Rat}{x:GF}{k:Nat}(h:FR r x k):(Ae x.n.z.natAbs).length<=k:=by rw[h.is.2.1];exact h.rk.1
theorem FR.ld {r:Rat}{x:GF}{k:Nat}(h:FR r x k):(Ae x.d).length<=k:=by rw[h.is.2.2];exact h.rk.2
theorem FR.dpos {r:Rat}{x:GF}{k:Nat}(h:FR r x k):0<x.d:=by rw[h.is.2.2];exact r.den_pos
theorem PP (x:GI)(d:Nat)(hx:x.wf)(fx:(Ae x.z.natAbs).length<400000)(fd:(Ae d).length<400000):AK C0 152 [x.D,(AW (d:Int)).D] (AW (x.z*d)).D:=by
 have:=de x (AW (d:Int)) hx (Ch _) fx (by rw[Dq,ER];exact fd)
 rwa [Dq]at this
theorem VW (c d:Nat)(fc:(Ae c).length<400000)(fd:(Ae d).length<400000):AK C0 152 [(AW (c:Int)).D,(AW (d:Int)).D] (AW ((c*d:Nat):Int)).D:=by
 have:=PP (AW (c:Int)) d (Ch _) (by rw[Dq,ER];exact fc) fd
 rw[Dq,<-F6]at this;exact this
theorem X8 (x:GI)(d:Nat)(hx:x.wf)(hd:0<d)(fx:x.few)(fd:(Ae d).length<1000000):AK C0 151 [x.D,(AW (d:Int)).D] (IM x d).D:=by
 have:=cJ x (AW (d:Int)) hx (Ch _) (by rw[Dq];omega) fx (ID fd)
 unfold Kc at this;rw[Dq,AF (by omega),ER]at this;exact this
theorem S9 (x:GF)(hd:0<x.d):AK C0 124 [x.D] (Aq (decide (x.d=1))):=by
 refine Ak.walk w1 ai rfl λF=>?_
 obtain⟨y,d⟩:=x;dsimp only[GF.D]at hd⊢;have hpy:AA y.w:=AI;generalize y.s=ys at*;generalize y.w=yw at*
 by_cases hs:Sm (d:Int)
 ·obtain⟨a1,a2⟩:=SC hs
  rw[a1,a2];have e2:((d:Int)==1)=decide (d=1):=by
   rw[Fk,EE,decide_eq_true_iff];omega
  refine fR 0 ?_;refine sZ 100 ?_
  repeat'(first|(refine And.intro (by exact CC) ?_;refine At ?_)|((refine By (λhb=>?_) (λhb=>?_))<;>(try simp only[Bj,Bw]at hb)<;>(try simp only[hb])<;>(refine At ?_)))
  try simp only[e2]
  refine Ai ?_;exact AL rfl AA.out
 ·obtain⟨a1,a2,a3⟩:=VV hs
  rw[a1,a2];have e2:decide (d=1)=false:=Ag λh=>hs (by rw[h];exact⟨by decide,by decide⟩)
  rw[e2];generalize(Ae d).map AR=l at*;refine fR 0 ?_;refine AC.seq ?_;refine Ao w1 100 (by kernel_rfl) ?_;refine AU (As (@ne_eq (List D)) a3 ES) ?_;refine AE kT ?_;refine Ai ?_;exact AL rfl AA.out
def Jg (x y:GF):GF:=if x.d=1/\y.d=1 then⟨EC x.n y.n,1⟩else IM (EC (AW (x.n.z*y.d)) (AW (y.n.z*x.d))) (x.d*y.d)
theorem oE {a b:Rat}{x y:GF}(hx:H5 a x)(hy:H5 b y):H5 (a+b) (Jg x y):=by
 obtain⟨x1,x2,x3⟩:=hx;obtain⟨y1,y2,y3⟩:=hy;rw[Rat.add_def,Rat.normalize_eq_mkRat,<-x2,<-x3,<-y2,<-y3];unfold Jg;split
 ·rename_i h
  rw[h.1,h.2];refine⟨Mb _ _,?_,?_⟩
  ·dsimp only
   rw[Mp];show _=(mkRat (x.n.z*1+y.n.z*1) 1).num;rw[Int.mul_one,Int.mul_one,Rat.mkRat_one,Rat.num_intCast]
  ·dsimp only
   show _=(mkRat (x.n.z*1+y.n.z*1) 1).den;rw[Rat.mkRat_one,Rat.den_intCast]
 ·have:=Qe (EC (AW (x.n.z*y.d)) (AW (y.n.z*x.d))) (x.d*y.d) (Mb _ _) (HW (by rw[x3];exact a.den_pos) (by rw[y3];exact b.den_pos))
  rw[Mp,Dq,Dq]at this;exact this
theorem Zo (x:GI):AK C0 121 [x.D] (⟨x,1⟩:GF).D:=by
 refine Ak.walk w1 UU rfl λF=>?_
 have hpx:AA x.w:=AI;unfold GF.D;rw[Uj];dsimp only[GI.D]at*;refine fR 0 ?_;refine AC.seq ?_;refine B7 w1 100 [0,1] [2,3] (by kernel_rfl) ?_;refine CA ?_;refine BZ.same _ (O7 1) AI ?_;refine CA ?_;refine Ai ?_;exact AL rfl AA.out
theorem RQ {a b:Rat}{x y:GF}{i j:Nat}(hx:FR a x i)(hy:FR b y j)(hk:i+j<300000):AK C0 113 [x.D,y.D] (Jg x y).D:=by
 refine Ak.walk w1 ab rfl λF=>?_
 have v1:=S9 x hx.dpos;have v2:=S9 y hy.dpos;have l1:=hx.ln;have l2:=hy.ln;have l3:=hx.ld;have l4:=hy.ld;have dp:=HW hx.dpos hy.dpos;have m1:=PP x.n y.d hx.is.1 (by omega) (by omega);have m2:=PP y.n x.d hy.is.1 (by omega) (by omega);have m3:=VW x.d y.d (by omega) (by omega);have z1:=KC x.n.z y.d;have z2:=KC y.n.z x.d;rw[ER]at z1 z2;have z3:=Wv (x.n.z*y.d) (y.n.z*x.d);have z4:=LT x.d y.d;have s1:=O2 (AW (x.n.z*y.d)) (AW (y.n.z*x.d)) (Ch _) (Ch _) (by show(Ae (x.n.z*y.d).natAbs).length<1000000;omega) (by show(Ae (y.n.z*x.d).natAbs).length<1000000;omega);have s0:=O2 x.n y.n hx.is.1 hy.is.1 (hx.fn (by omega)) (hy.fn (by omega));have mk:=X8 (EC (AW (x.n.z*y.d)) (AW (y.n.z*x.d))) (x.d*y.d) (Mb _ _) dp (by
  show(Ae (EC (AW (x.n.z*y.d)) (AW (y.n.z*x.d))).z.natAbs).length<1000000;rw[Mp,Dq,Dq];omega) (by omega)
 have wg:=Zo (EC x.n y.n);have hp1:AA x.n.w:=AI;have hp2:AA y.n.w:=AI;have hp3:AA (AW (x.d:Int)).w:=AI;have hp4:AA (AW (y.d:Int)).w:=AI;have hp5:AA (EC x.n y.n).w:=AI;have hp6:AA (EC (AW (x.n.z*y.d)) (AW (y.n.z*x.d))).w:=AI;have hp7:AA (AW (x.n.z*y.d)).w:=AI;have hp8:AA (AW (y.n.z*x.d)).w:=AI;have hp9:AA (AW ((x.d*y.d:Nat):Int)).w:=AI;have hq1:AA (IM (EC (AW (x.n.z*y.d)) (AW (y.n.z*x.d))) (x.d*y.d)).n.w:=AI;have hq2:AA (AW ((IM (EC (AW (x.n.z*y.d)) (AW (y.n.z*x.d))) (x.d*y.d)).d:Int)).w:=AI;have hq3:AA (AW ((1:Nat):Int)).w:=AI;unfold Jg;clear z1 z2 z3 z4 l1 l2 l3 l4 dp hk hx hy;dsimp only[GI.D,GF.D]at*
 by_cases e1:x.d=1
 ·have fb:decide (x.d=1)=true:=AX e1
  rw[fb]at v1
  by_cases e2:y.d=1
  ·have fd:decide (y.d=1)=true:=AX e2
   rw[fd]at v2;rw[AG ⟨e1,e2⟩];refine fR 0 ?_;refine AC.seq ?_;refine fR 100 ?_;refine dI v1 ?_;dsimp only[NA];refine CA ?_;dsimp only[NA];refine CA ?_;refine dI v2 ?_;refine AM ?_;refine fR 200 ?_;refine dI s0 ?_;refine dI wg ?_;refine Ai ?_;exact AL rfl AA.out
  ·have fd:decide (y.d=1)=false:=Ag e2
   rw[fd]at v2;rw[AF λh=>e2 h.2];refine fR 0 ?_;refine AC.seq ?_;refine fR 100 ?_;refine dI v1 ?_;dsimp only[NA];refine CA ?_;dsimp only[NA];refine CA ?_;refine dI v2 ?_;refine AM ?_;refine An ?_;refine AC.seq ?_;refine B7 w1 300 [0,1,2,3,4,5,6,7,8,9,10,11,12,13,14] [15,16,17] (by kernel_rfl) ?_;refine CA ?_;refine BZ.same _ (m1) AI ?_;refine CA ?_;refine BZ.same _ (m2) AI ?_;refine CA ?_;refine BZ.same _ (s1) AI ?_;refine CA ?_;refine dI m3 ?_;refine dI mk ?_;refine Ai ?_;exact AL rfl AA.out
 ·have fb:decide (x.d=1)=false:=Ag e1
  rw[fb]at v1;rw[AF λh=>e1 h.1];refine fR 0 ?_;refine AC.seq ?_;refine fR 100 ?_;refine dI v1 ?_;dsimp only[Rn];refine CA ?_;dsimp only[Rn];refine CA ?_;refine AM ?_;refine An ?_;refine AC.seq ?_;refine B7 w1 300 [0,1,2,3,4,5,6,7,8,9,10,11,12,13,14] [15,16,17] (by kernel_rfl) ?_;refine CA ?_;refine BZ.same _ (m1) AI ?_;refine CA ?_;refine BZ.same _ (m2) AI ?_;refine CA ?_;refine BZ.same _ (s1) AI ?_;refine CA ?_;refine dI m3 ?_;refine dI mk ?_;refine Ai ?_;exact AL rfl AA.out
theorem Qn {a b:Rat}{x y:GF}{i j:Nat}(hx:FR a x i)(hy:FR b y j):FR (a+b) (Jg x y) (i+j+1):=⟨oE hx.is hy.is,bW hx.rk hy.rk⟩
def IU (x y:GF):GF:=IM (AW (x.n.z*y.n.z)) (x.d*y.d)
theorem oL {a b:Rat}{x y:GF}(hx:H5 a x)(hy:H5 b y):H5 (a*b) (IU x y):=by
 obtain⟨x1,x2,x3⟩:=hx;obtain⟨y1,y2,y3⟩:=hy;rw[Rat.mul_def,Rat.normalize_eq_mkRat,<-x2,<-x3,<-y2,<-y3]
 have:=Qe (AW (x.n.z*y.n.z)) (x.d*y.d) (Ch _) (HW (by rw[x3];exact a.den_pos) (by rw[y3];exact b.den_pos))
 rw[Dq]at this;exact this
theorem UF {a b:Rat}{x y:GF}{i j:Nat}(hx:FR a x i)(hy:FR b y j):FR (a*b) (IU x y) (i+j):=⟨oL hx.is hy.is,vZ hx.rk hy.rk⟩
theorem UT {a b:Rat}{x y:GF}{i j:Nat}(hx:FR a x i)(hy:FR b y j)(hk:i+j<300000):AK C0 112 [x.D,y.D] (IU x y).D:=by
 refine Ak.walk w1 aa rfl λF=>?_
 have l1:=hx.ln;have l2:=hy.ln;have l3:=hx.ld;have l4:=hy.ld;have dp:=HW hx.dpos hy.dpos;have z1:=KC x.n.z y.n.z;have z4:=LT x.d y.d;have m1:=de x.n y.n hx.is.1 hy.is.1 (by omega) (by omega);have m3:=VW x.d y.d (by omega) (by omega);have mk:=X8 (AW (x.n.z*y.n.z)) (x.d*y.d) (Ch _) dp (by show(Ae (x.n.z*y.n.z).natAbs).length<1000000;omega) (by omega);have p1:AA x.n.w:=AI;have p2:AA y.n.w:=AI;have p3:AA (AW (x.d:Int)).w:=AI;have p4:AA (AW (y.d:Int)).w:=AI;have p5:AA (AW (x.n.z*y.n.z)).w:=AI;have p6:AA (AW ((x.d*y.d:Nat):Int)).w:=AI;have p7:AA (IM (AW (x.n.z*y.n.z)) (x.d*y.d)).n.w:=AI;have p8:AA (AW ((IM (AW (x.n.z*y.n.z)) (x.d*y.d)).d:Int)).w:=AI;unfold IU;clear l1 l2 l3 l4 dp z1 z4 hx hy;dsimp only[GI.D,GF.D]at*;refine fR 0 ?_;refine AC.seq ?_;refine B7 w1 100 [0,1,2,3,4,5,6,7,8] [9,10,11] (by kernel_rfl) ?_;refine CA ?_;refine BZ.same _ (m1) AI ?_;refine CA ?_;refine dI m3 ?_;refine dI mk ?_;refine Ai ?_;exact AL rfl AA.out
def Jh (x:GF):GF:=Kc (AW (x.d:Int)) x.n
theorem ou {a:Rat}{x:GF}(hx:H5 a x)(h0:a≠0):H5 a⁻¹ (Jh x):=by
 obtain⟨x1,x2,x3⟩:=hx;have hn:x.n.z≠0:=by
  rw[x2];intro h;exact h0 (Rat.num_eq_zero.1 h)
 rw[Rat.inv_def,<-x2,<-x3];exact mL (AW (x.d:Int)) x.n (Ch _) hn
theorem vY {a:Rat}{k:Nat}(h:rk a k)(h0:a≠0):rk a⁻¹ k:=by
 rw[Rat.inv_def];obtain⟨h1,h2⟩:=h;have hn:a.num≠0:=λh=>h0 (Rat.num_eq_zero.1 h)
 rcases Int.lt_or_gt_of_ne hn with h|h
 ·obtain⟨m,hm⟩:∃m,a.num=Int.negSucc m:=by
   cases hy:a.num with
   |ofNat n=>rw[hy]at h;simp at h;omega
   |negSucc k=>exact⟨k,rfl⟩
  rw[hm]at h1⊢;exact RA (n:=-(a.den:Int)) (d:=m+1) (by omega) (by rw[MC,ER];exact h2) h1
 ·obtain⟨m,hm⟩:∃m:Nat,a.num=(m:Int):=⟨a.num.natAbs,by omega⟩
  rw[hm]at h1 h⊢;rw[Rat.divInt_ofNat,<-Rat.normalize_eq_mkRat (by omega)];exact RA _ (by rw[ER];exact h2) (by rw[ER]at h1;exact h1)
theorem ZL {a:Rat}{x:GF}{k:Nat}(h:FR a x k)(h0:a≠0):FR a⁻¹ (Jh x) k:=⟨ou h.is h0,vY h.rk h0⟩
theorem ro {a:Rat}{x:GF}{k:Nat}(h:FR a x k)(h0:a≠0)(hk:k<1000000):AK C0 181 [x.D] (Jh x).D:=by
 refine Ak.walk w1 aD rfl λF=>?_
 have l3:=h.ld;have hn:x.n.z≠0:=by
  rw[h.is.2.1];intro h;exact h0 (Rat.num_eq_zero.1 h)
 have mk:=cJ (AW (x.d:Int)) x.n (Ch _) h.is.1 hn (ID (by omega)) (h.fn hk);have p1:AA x.n.w:=AI;have p3:AA (AW (x.d:Int)).w:=AI;have p7:AA (Kc (AW (x.d:Int)) x.n).n.w:=AI;have p8:AA (AW ((Kc (AW (x.d:Int)) x.n).d:Int)).w:=AI;unfold Jh;dsimp only[GI.D,GF.D]at*;refine fR 0 ?_;refine fR 100 ?_;refine dI mk ?_;refine Ai ?_;exact AL rfl AA.out
def R4 (x y:GF):GF:=IU x (Jh y)
theorem nz {a b:Rat}{x y:GF}{i j:Nat}(hx:FR a x i)(hy:FR b y j)(h0:b≠0):FR (a/b) (R4 x y) (i+j):=by
 rw[Rat.div_def];exact UF hx (ZL hy h0)
theorem rm {a b:Rat}{x y:GF}{i j:Nat}(hx:FR a x i)(hy:FR b y j)(h0:b≠0)(hk:i+j<300000):AK C0 139 [x.D,y.D] (R4 x y).D:=by
 refine Ak.walk w1 aq rfl λF=>?_
 have c1:=ro hy h0 (by omega);have c2:=UT hx (ZL hy h0) hk;have p1:AA x.n.w:=AI;have p2:AA y.n.w:=AI;have p3:AA (AW (x.d:Int)).w:=AI;have p4:AA (AW (y.d:Int)).w:=AI;have p5:AA (Jh y).n.w:=AI;have p6:AA (AW ((Jh y).d:Int)).w:=AI;have p7:AA (IU x (Jh y)).n.w:=AI;have p8:AA (AW ((IU x (Jh y)).d:Int)).w:=AI;unfold R4;dsimp only[GI.D,GF.D]at*;refine fR 0 ?_;refine AC.seq ?_;refine B7 w1 100 [0,1,2] [3,4] (by kernel_rfl) ?_;refine CA ?_;refine BZ.same _ (c1) AI ?_;refine CA ?_;refine dI c2 ?_;refine Ai ?_;exact AL rfl AA.out
def Ly (a b:Rat):Int:=if a<b then -1 else if b<a then 1 else 0
theorem qf (a b:Rat):Dz (a.num*b.den) (b.num*a.den)=Ly a b:=by
 unfold Dz Ly;simp only[Rat.lt_iff]
theorem rl {a b:Rat}{x y:GF}{i j:Nat}(hx:FR a x i)(hy:FR b y j)(hk:i+j<300000):AK C0 240 [x.D,y.D] (i64 (Ly a b)):=by
 refine Ak.walk w1 ba rfl λF=>?_
 have l1:=hx.ln;have l2:=hy.ln;have l3:=hx.ld;have l4:=hy.ld;have m1:=PP x.n y.d hx.is.1 (by omega) (by omega);have m2:=PP y.n x.d hy.is.1 (by omega) (by omega);have z1:=KC x.n.z y.d;have z2:=KC y.n.z x.d;rw[ER]at z1 z2;have cm:=vo (AW (x.n.z*y.d)) (AW (y.n.z*x.d)) (Ch _) (Ch _) (by show(Ae (x.n.z*y.d).natAbs).length<1000000;omega) (by show(Ae (y.n.z*x.d).natAbs).length<1000000;omega);have e:Dz (AW (x.n.z*y.d)).z (AW (y.n.z*x.d)).z=Ly a b:=by
  rw[Dq,Dq,<-qf,hx.is.2.1,hx.is.2.2,hy.is.2.1,hy.is.2.2]
 rw[e]at cm;have p1:AA x.n.w:=AI;have p2:AA y.n.w:=AI;have p3:AA (AW (x.d:Int)).w:=AI;have p4:AA (AW (y.d:Int)).w:=AI;have p5:AA (AW (x.n.z*y.d)).w:=AI;have p6:AA (AW (y.n.z*x.d)).w:=AI;clear l1 l2 l3 l4 z1 z2 e hx hy;dsimp only[GI.D,GF.D]at*;refine fR 0 ?_;refine AC.seq ?_;refine B7 w1 100 [0,1,2,3,4,5,6,7,8] [9,10,11] (by kernel_rfl) ?_;refine CA ?_;refine BZ.same _ (m1) AI ?_;refine CA ?_;refine dI m2 ?_;refine dI cm ?_;refine Ai ?_;exact AL rfl AA.out
def Gv (a:Rat):Int:=max (-1) (min 1 a.num)
theorem Yx {a:Rat}{x:GF}(hx:H5 a x):AK C0 183 [x.D] (i64 (Gv a)):=by
 refine Ak.walk w1 aF rfl λF=>?_
 have cg:=Mu x.n hx.1;rw[hx.2.1]at cg;have p1:AA x.n.w:=AI;have p3:AA (AW (x.d:Int)).w:=AI;unfold Gv;dsimp only[GI.D,GF.D]at*;refine fR 0 ?_;refine fR 100 ?_;refine dI cg ?_;refine Ai ?_;exact AL rfl AA.out
abbrev sb (l:List UInt8):ByteArray:=⟨l.toArray⟩
theorem Cg (l:List UInt8):(sb l).size=l.length:=by simp[ByteArray.size]
theorem Eu (l:List UInt8)(i j:Nat):(sb l).extract i j=sb ((l.take j).drop i):=by
 apply ByteArray.ext;rw[ByteArray.data_extract];simp[List.drop_take]
theorem ZV (l:List UInt8):(sb l).toList=l:=by
 rw[ByteArray.toList_eq]
theorem Ex (l m:List UInt8):BK (sb l) (sb m)=decide (l=m):=by
 unfold BK;rw[ZV,ZV,Fk,EE,decide_eq_true_iff]
def DO (l:List UInt8):Bool:=match l with
 | []=>false
 |c::_=>c==45
def Bp (l:List UInt8):List UInt8:=if DO l then l.drop 1 else l
def BL (l:List UInt8):Nat:=(l.takeWhile (· != 47)).length
theorem LK (l:List UInt8):BL l<=l.length:=by
 unfold BL;exact(List.takeWhile_sublist _).length_le
theorem gp (l:List UInt8):Lib.indexByte l 47=if BL l<l.length then(BL l:Int)else -1:=by
 induction l with
 |nil=>rfl
 |cons c l ih=>
  unfold Lib.indexByte
  by_cases h:c=47
  ·subst h
   simp[BL]
  ·have e1:BL (c::l)=BL l+1:=by
    unfold BL;rw[PZ,AG (by simpa using h),Bo]
   have hb:(c==47)=false:=by simpa using h
   rw[hb,ih,e1,Bo]
   by_cases h2:BL l<l.length
   ·have h3:BL l+1<l.length+1:=by omega
    have h4:(((BL l:Nat):Int) == -1)=false:=Br.2 (by omega);simp only[h2,h3,h4,if_true,E9,if_false];omega
   ·have h3:¬BL l+1<l.length+1:=by omega
    simp only[h2,h3,E9,if_false];rfl
theorem Wq (l:List UInt8)(hl:l.length<=1000000000):AK C0 247 [str (sb l),str (sb [45])] (Aq (DO l)):=by
 refine Ak.walk w1 be rfl λF=>?_
 have hsz:=Cg l;have hs1:=Cg [45];refine sR 0 ?_;refine AC.seq ?_;cases l with
 |nil=>
  have e1:decide (((sb []).size:Int)>=((sb [45]).size:Int))=false:=rfl;refine Ao w1 100 (by kernel_rfl) ?_;refine AU e1 ?_;refine AE e1 ?_;refine AE e1 ?_;refine Ai ?_;exact AL rfl AA.out
 |cons c l=>
  have e1:decide (((sb (c::l)).size:Int)>=((sb [45]).size:Int))=true:=AX (by rw[hsz,hs1];simp only[Bo,HN];omega);have e2:(sb (c::l)).extract 0 ((((sb [45]).size:Nat):Int)).toNat=sb [c]:=by rw[Eu];rfl
  have e3:BK (sb [c]) (sb [45])=DO (c::l):=by
   rw[Ex,DO,Fk,decide_eq_true_iff,EE];simp
  have h0:(0:Int)<=((sb [45]).size:Int):=by omega
  have h1:((sb [45]).size:Int)<=((sb (c::l)).size:Int):=by rw[hsz,hs1];simp only[Bo,HN];omega
  refine Ao w1 100 (by kernel_rfl) ?_;refine AU e1 ?_;refine AE (As e1 e2 e3) ?_;refine AE (As e1 e2 e3) ?_;refine Ai ?_;exact AL rfl AA.out
theorem iB (l:List UInt8)(hl:l.length<=1000000000):AK C0 196 [str (sb l),str (sb [45])] (Aq (DO l)):=by
 refine Ak.walk w1 aI rfl λF=>?_
 have c1:=Wq l hl;generalize sb l=s at*;generalize DO l=b at*;refine fR 0 ?_;refine fR 100 ?_;refine dI c1 ?_;refine Ai ?_;exact AL rfl AA.out
theorem iW (l:List UInt8)(hl:l.length<=1000000000):AK C0 223 [str (sb l),str (sb [45])] (str (sb (Bp l))):=by
 refine Ak.walk w1 aU rfl λF=>?_
 have c1:=Wq l hl;have hsz:=Cg l;unfold Bp;refine sR 0 ?_;refine AC.seq ?_;refine sR 100 ?_;refine cI c1 ?_;rcases hb:DO l with _|_
 ·rw[AF (by simp)]
  refine AM ?_;refine An ?_;refine sR 300 ?_;refine Ai ?_;exact AL rfl AA.out
 ·rw[AG rfl]
  have h1:(0:Int)<=((sb [45]).size:Int):=by omega
  have h2:((sb [45]).size:Int)<=((sb l).size:Int):=by
   rw[hsz];show(1:Int)<=_;cases l with
   |nil=>cases hb
   |cons c l=>simp only[Bo];omega
  have e2:(sb l).extract (((sb [45]).size:Nat):Int).toNat (sb l).size=sb (l.drop 1):=by
   rw[Eu,hsz,B8 (Af _)];rfl
  refine AM ?_;refine sZ 200 ?_;refine AU e2 ?_;refine Ai ?_;exact AL rfl AA.out
theorem Sq (l:List UInt8)(hl:l.length<=1000000000):AK C0 165 [str (sb l),str (sb [45])] (str (sb (Bp l))):=by
 refine Ak.walk w1 bB rfl λF=>?_
 have c1:=iW l hl;generalize sb l=s at*;generalize sb (Bp l)=t at*;refine fR 0 ?_;refine fR 100 ?_;refine dI c1 ?_;refine Ai ?_;exact AL rfl AA.out
theorem iv (l:List UInt8):AK C0 275 [str (sb l),.prim (.int .u8 47)] (i64 (if BL l<l.length then(BL l:Int)else -1)):=by
 refine Ak.walk w1 bj rfl λF=>?_
 have e1:firstIdx (sb l) (((47:Int)).toNat.toUInt8)=(if BL l<l.length then(BL l:Int)else -1):=by
  rw[Lib.firstIdx_eq];exact gp l
 generalize(if BL l<l.length then(BL l:Int)else -1)=r at*;refine fR 0 ?_;refine AC.seq ?_;refine Ao w1 100 (by kernel_rfl) ?_;refine AU e1 ?_;refine Ai ?_;exact AL rfl AA.out
theorem my (l:List UInt8)(hl:l.length<=1000000000):AK C0 246 [str (sb l),str (sb [47])] (i64 (if BL l<l.length then(BL l:Int)else -1)):=by
 refine Ak.walk w1 bc rfl λF=>?_
 have c1:=iv l;have eS:=Ex [47] l;have hr:[47]=l->(if BL l<l.length then(BL l:Int)else -1)=0:=λh=>by subst h;rfl
 generalize(if BL l<l.length then(BL l:Int)else -1)=r at*;have e0:(((sb [47]).size:Int)==0)=false:=rfl;have e1:(((sb [47]).size:Int)==1)=true:=rfl;have hx:(((sb [47]).data.toList.getD ((0:Int)).toNat 0).toNat:Int)=47:=rfl;refine sR 0 ?_;refine sR 100 ?_;refine AC.seq ?_;refine AC.block ?_
 by_cases h:[47]=l
 ·rw[AX h]at eS
  have hr:=hr h;subst hr;refine sZ 200 ?_;refine AU e0 ?_;refine AE (As e0 kF eS) ?_;refine AE (As e0 kF eS) ?_;refine AM ?_;refine sR 300 ?_;refine Ai ?_;exact AL rfl AA.out
 ·rw[Ag h]at eS
  refine sZ 200 ?_;refine AU e0 ?_;refine AE (As e0 kF eS) ?_;refine AE (As e0 kF eS) ?_;refine AM ?_;refine sZ 400 ?_;refine AU e1 ?_;refine AM ?_;refine sZ 500 ?_;refine AU hx ?_;refine cI c1 ?_;refine Ai ?_;exact AL rfl AA.out
theorem yc (l:List UInt8)(hl:l.length<=1000000000):AK C0 195 [str (sb l),str (sb [47])] (.tup [str (sb (l.take (BL l))),str (sb (l.drop (BL l+1))),Aq (decide (BL l<l.length))]):=by
 refine Ak.walk w1 aH rfl λF=>?_
 have c1:=my l hl;have hsz:=Cg l;have hle:=LK l;refine sR 0 ?_
 by_cases h:BL l<l.length
 ·rw[AG h]at c1
  have e1:decide (((BL l:Nat):Int)>=0)=true:=AX (by omega);have e2:(sb l).extract 0 (((BL l:Nat):Int)).toNat=sb (l.take (BL l)):=by rw[Eu];rfl
  have w3:IntKind.i64.wrap (((BL l:Nat):Int)+((sb [47]).size:Int))=((BL l+1:Nat):Int):=by
   show IntKind.i64.wrap (((BL l:Nat):Int)+1)=_;rw[wI (by omega) (by omega)];omega
  have e3:(sb l).extract (((BL l+1:Nat):Int)).toNat (sb l).size=sb (l.drop (BL l+1)):=by
   rw[Eu,hsz,B8 (Af _)];rfl
  rw[AX h];refine AC.seq ?_;refine sR 100 ?_;refine cI c1 ?_;refine sZ 200 ?_;refine AU e1 ?_;refine AM ?_;refine AC.seq ?_;refine B7 w1 300 [0,1,2,3,4,5,6,7,8,9] [10,11] (by kernel_rfl) ?_;refine AE (As w3 e2 e3) ?_;refine Ai ?_;exact AL rfl AA.out
 ·rw[AF h]at c1
  have hk:BL l=l.length:=by omega
  have e1:decide (((-1:Int))>=0)=false:=rfl;rw[Ag h,hk,B8 (Af _),HS (by omega)];refine AC.seq ?_;refine sR 100 ?_;refine cI c1 ?_;refine sZ 200 ?_;refine AU e1 ?_;refine AM ?_;refine An ?_;refine sR 400 ?_;refine Ai ?_;exact AL rfl AA.out
theorem Zv (l:List UInt8)(hl:l.length<=1000000000):AK C0 149 [str (sb l),str (sb [47])] (.tup [str (sb (l.take (BL l))),str (sb (l.drop (BL l+1))),Aq (decide (BL l<l.length))]):=by
 refine Ak.walk w1 aw rfl λF=>?_
 have c1:=yc l hl;generalize sb l=s at*;generalize sb (l.take (BL l))=t at*;generalize sb (l.drop (BL l+1))=u at*;generalize decide (BL l<l.length)=b at*;refine fR 0 ?_;refine fR 100 ?_;refine dI c1 ?_;refine Ai ?_;exact AL rfl AA.out
theorem pk (a b:Nat)(ha:a<=9223372036854775807)(hb:b<=9223372036854775807):AK C0 217 [i64 a,i64 b] (i64 (Nat.gcd a b:Nat)):=by
 refine Ak.walk w1 tL rfl λF=>?_
 refine fR 0 ?_;refine AC.seq ?_;refine AC.block ?_;refine AC.loop (α:=Nat×Nat×Nat) (λp=>⟨[(0,i64 p.1),(1,i64 p.2.1)],[],p.2.2⟩) (λp=>p.2.1) (λp=>Nat.gcd p.1 p.2.1=Nat.gcd a b/\p.1<=9223372036854775807/\p.2.1<=9223372036854775807) (a,b,_) ⟨rfl,ha,hb⟩ AJ ?_;rintro⟨x,y,n⟩ F ⟨h1,h2,h3⟩;dsimp only at h1 h2 h3⊢;refine AC.seq ?_;refine fR 100 ?_;refine AM ?_
 (refine By (λhy=>?_) (λhy=>?_))<;>(try simp only[Bj,Bw]at hy)<;>(try simp only[hy])
 ·have hy':(y:Int)>0:=by simpa using hy
  refine An ?_;refine AC.block ?_;refine B7 w1 200 [0,1,2,3,4] [5] (by kernel_rfl) ?_;refine CA ?_
  have:(x:Int).tmod y=((x%y:Nat):Int):=rfl
  rw[this];refine⟨(y,x%y,_),⟨?_,h3,?_⟩,?_,AJ⟩
  ·rw[<-h1,Na x y,Nat.gcd_rec y x,Na]
  ·have:=B3 x (show y>0 by omega);dsimp only;omega
  ·exact B3 x (show y>0 by omega)
 ·have hy':y=0:=by simp at hy;omega
  subst hy';refine B9 ?_;refine fR 300 ?_;refine Ai ?_;refine AL ?_ AA.out;rw[<-h1,Nat.gcd_zero_right]
def L6 (least:Nat)(l:List UInt8):List UInt8:=List.replicate (least-l.length) 48++l
def Es (least m:Nat)(s:List UInt8):List UInt8:=L6 least (if m=0 then s else Lib.decDigits m++s)
theorem WS (least m:Nat)(s:List UInt8)(h:0<m\/s.length<least):Es least (m/10) (UInt8.ofNat (48+m%10)::s)=Es least m s:=by
 unfold Es
 by_cases h0:m=0
 ·subst h0
  have hl:s.length<least:=h.resolve_left (by omega);rw[AG (by omega),AG rfl];unfold L6;obtain⟨k,hk⟩:∃k,least-s.length=k+1:=⟨least-s.length-1,by omega⟩
  rw[hk,show least-(UInt8.ofNat (48+0%10)::s).length=k from by simp;omega,List.replicate_succ'];simp
 ·rw[AF h0]
  by_cases h1:m<10
  ·rw[AG (by omega)]
   have:Lib.decDigits m=[UInt8.ofNat (48+m)]:=by unfold Lib.decDigits;rw[dif_pos h1]
   rw[this,show m%10=m from by omega];rfl
  ·rw[AF (by omega)]
   have:Lib.decDigits m=Lib.decDigits (m/10)++[UInt8.ofNat (48+m%10)]:=by rw[Lib.decDigits];rw[dif_neg h1]
   rw[this,De];rfl
theorem m8 (k:Nat)(hk:k<10):(⟨#[48,49,50,51,52,53,54,55,56,57]⟩:ByteArray).extract k (k+1)=⟨([UInt8.ofNat (48+k)]:List UInt8).toArray⟩:=by
 match k,hk with
 | 0,_=>rfl
 | 1,_=>rfl
 | 2,_=>rfl
 | 3,_=>rfl
 | 4,_=>rfl
 | 5,_=>rfl
 | 6,_=>rfl
 | 7,_=>rfl
 | 8,_=>rfl
 | 9,_=>rfl
theorem P8 (a least:Nat)(ha:a+least<=9223372036854775807):AK C0 218 [i64 a,i64 least] (str ⟨(Es least a []).toArray⟩):=by
 refine Ak.walk w1 tM rfl λF=>?_
 refine fR 0 ?_;refine fR 100 ?_;refine AC.seq ?_;refine AC.block ?_;refine AC.loop (α:=Nat×List UInt8×Nat) (λp=>⟨[(0,i64 p.1),(1,i64 least),(5,str ⟨p.2.1.toArray⟩)],[],p.2.2⟩) (λp=>p.1+(least-p.2.1.length))
  (λp=>Es least p.1 p.2.1=Es least a []/\p.1+p.2.1.length<=a+least) (a,[],_) ⟨rfl,by simp⟩ AJ ?_
 rintro⟨m,s,n⟩ F ⟨h1,h2⟩;dsimp only at h1 h2⊢;have hsz:=Oa s;refine AC.seq ?_;refine EX ⟨[(0,i64 m),(1,i64 least),(5,str ⟨s.toArray⟩),(13,Aq (decide ((m:Int)>0)||decide ((s.length:Int)<least)))],[],n+30⟩ (Ao w1 200 (by kernel_rfl) ?_) ?_
 ·repeat'(first|(refine And.intro (by exact CC) ?_;refine At ?_)|((refine By (λhb=>?_) (λhb=>?_))<;>(try simp only[Bj,Bw]at hb)<;>(try simp only[hb])<;>(refine At ?_)))
  all_goals exact AJ
 refine AM ?_
 (refine By (λhc=>?_) (λhc=>?_))<;>(try simp only[Bj,Bw]at hc)<;>(try simp only[hc])
 ·have hc:0<m\/s.length<least:=by
   simp at hc;omega
  refine An ?_;refine AC.block ?_;refine AC.seq ?_;have hm:(m:Int).tmod 10=((m%10:Nat):Int):=rfl;have e2:IntKind.i64.wrap (((m%10:Nat):Int)+1)=((m%10+1:Nat):Int):=wI (by omega) (by omega);have hd:=m8 (m%10) (by omega);have hs1:(⟨([UInt8.ofNat (48+m%10)]:List UInt8).toArray⟩:ByteArray).size=1:=rfl;have hlen:s.length+1<=9223372036854775807:=by omega
  have hs10:(⟨#[48,49,50,51,52,53,54,55,56,57]⟩:ByteArray).size=10:=rfl;refine Ao w1 300 (by kernel_rfl) ?_;refine Jx (BY hm e2 kN hd) ?_;refine fI 400 ?_;have hm4:(m:Int).tdiv 10=((m/10:Nat):Int):=rfl;have hm5:m/10<=9223372036854775807:=by omega
  rw[hm4,wN hm5,Ix,ED,EZ];refine⟨(m/10,UInt8.ofNat (48+m%10)::s,_),⟨(WS least m s hc).trans h1,?_⟩,?_,AJ⟩
  ·simp only[Bo];omega
  ·simp only[Bo];omega
 ·have hc:m=0/\least<=s.length:=by
   simp at hc;omega
  obtain⟨rfl,hl⟩:=hc;refine B9 ?_;refine fR 500 ?_;refine Ai ?_;refine AL ?_ AA.out;rw[<-h1];unfold Es L6;rw[AG rfl,Nat.sub_eq_zero_of_le hl];rfl
theorem Y1 (a:Nat):Es 1 a []=Lib.decDigits a:=by
 unfold Es L6
 by_cases h:a=0
 ·subst h
  have:Lib.decDigits 0=[48]:=by unfold Lib.decDigits;rw[dif_pos (by decide)];rfl
  rw[AG rfl,this];rfl
 ·rw[AF h,C5]
  have:(Lib.decDigits a).length≠0:=by
   unfold Lib.decDigits;split<;>simp
  rw[show 1-(Lib.decDigits a).length=0 from by omega];rfl
def Dy (K g sz:Nat):List D->D
 | []=>CT
 |_::l=>.osl K g sz 0 (l.length+1)
def Dt (K g T sz:Nat):List D->Hp
 | []=>[]
 |x::l=>[⟨K,g,T,sz,x::l⟩]
theorem Io (K g sz:Nat):Dy K g sz []=CT:=rfl
theorem Hb (K g sz:Nat)(x:D)(l:List D):Dy K g sz (x::l)=.osl K g sz 0 (l.length+1):=rfl
theorem Ip (K g T sz:Nat):Dt K g T sz []=[]:=rfl
theorem Hc (K g T sz:Nat)(x:D)(l:List D):Dt K g T sz (x::l)=[⟨K,g,T,sz,x::l⟩]:=rfl
theorem OE (K g sz:Nat)(x y:D)(l:List D):Dy K g sz (x::l++[y])=.osl K g sz 0 (l.length+1+1):=by simp[Dy]
theorem RY (K g T sz:Nat)(l:List D):Fz (Dt K g T sz l) [] (Dy K g sz l) (.sl false sz l):=by
 cases l with
 |nil=>exact .nil sz
 |cons x l=>
  refine .osl (e:=⟨K,g,T,sz,x::l⟩) (by simp[Dt,Hp.get]) rfl rfl rfl (by simp) (by simp) (λj d d' h1 h2=>?_) λj d d' q c c' h1 h2 h3 h4=>?_
  ·rw[BV]at h1;rw[h1]at h2;cases h2;rfl
  ·rw[BV]at h1;rw[h1]at h2;cases h2;rw[h3]at h4;cases h4;exact Fz.refl _
def spot (a b c d:Nat):D:=.agg [i64 (a/Nat.gcd a b:Nat),CT,i64 (b/Nat.gcd a b:Nat),CT,i64 (c/Nat.gcd c d:Nat),CT,i64 (d/Nat.gcd c d:Nat),CT]
instance  (a b c d:Nat):AT (spot a b c d):=by unfold spot;exact AI
instance  {α:Type}(f:α->List D)(l:List α)[h:∀x,Be (f x)]:Be (l.flatMap f):=⟨λe he=>by
 obtain⟨x,_,hx⟩:=List.mem_flatMap.1 he;exact(h x).out e hx⟩
theorem GJ {H Hf:Hp}{a a' b b':D}(h1:Fz H Hf a a')(h2:Fz H Hf b b'):Fz H Hf (.tup [a,b]) (.tup [a',b']):=.tup rfl λi d d' hd hd'=>by
 match i with
 | 0=>simp at hd hd';subst hd;subst hd';exact h1
 | 1=>simp at hd hd';subst hd;subst hd';exact h2
 |n+2=>simp at hd
set_option allowUnsafeReducibility true in
attribute [local irreducible] BK
inductive Kd where
 |line|zig|grid|quin
def Kd.most:Kd->Int
 | .line | .zig=>64
 | .grid=>8
 | .quin=>5
end Go.Ide
