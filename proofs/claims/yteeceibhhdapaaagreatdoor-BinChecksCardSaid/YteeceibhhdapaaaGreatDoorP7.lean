/- The layer of own lemmas and contracts, part 7. -/
import Derived.Test.YteeceibhhdapaaaGreatDoorP5
import Derived.Test.YteeceibhhdapaaaGreatDoorP3
import Derived.Test.YteeceibhhdapaaaGreatDoorP6
import Derived.Lib.AppendIntMem
import Derived.Lib.SmallJoins
import Derived.Shelf.Spec.BitsCarry
import Derived.Laws.StandIn
import Derived.Lib.Bytealg
set_option linter.unusedVariables false
set_option linter.unusedSimpArgs false
namespace Go.Ide
open Go Go.Ide Go.Proofs Go.RowKit
set_option maxRecDepth 100000
def G0 (w:World):Prop:=Lib.TabIs Tryz.prog w "internal/strconv.uint64pow10" .u64 Lib.pow10Tab
theorem iD:Tryz.prog.globalNamed "internal/strconv.uint64pow10" = some 5:=by kernel_rfl
theorem gj {w w':World}(h:G0 w)(b:Below (5+1) w w'):G0 w':=by
 unfold G0 Lib.TabIs World.var? at h⊢;rw[iD]at h⊢;simp only[Option.bind_some]at h⊢;rw[b.block _ (by decide)];exact h
noncomputable def C0:A0:={P:=Tryz.prog,G:=G0,nG:=5+1,hG:=λ_ _=>gj}
theorem aC {ρ:Lk}{O:Nat->Prop}{w:World}{a b c:Value}{vs:Array Value}(hn:vs.size=3)(h:∀(i:Nat) (x:D),[D.prim a,.prim b,.prim c][i]?=some x->AU ρ O w x (vs.getD i undef)):vs = #[a,b,c]:=by
 match vs,hn with
 |⟨[u,v,x]⟩,_=>
  have h0:=h 0 _ rfl;have h1:=h 1 _ rfl;have h2:=h 2 _ rfl;simp at h0 h1 h2;cases h0;cases h1;cases h2;rfl
theorem dG (x y c:Nat)(hc:c<=1):JW C0 241 [.prim (.int .u64 x),.prim (.int .u64 y),.prim (.int .u64 c)]
  (.tup [.prim (.int .u64 (((x+y+c)%18446744073709551616:Nat):Int)),.prim (.int .u64 (((x+y+c)/18446744073709551616:Nat):Int))]):=λρ O w vs hn h=>by
 have:=aC hn h
 subst this;refine⟨.tuple #[.int .u64 (((x+y+c)%18446744073709551616:Nat):Int),.int .u64 (((x+y+c)/18446744073709551616:Nat):Int)],?_,.tup rfl λi d hd=>?_⟩
 ·show(callFunc 241 _).run Tryz.prog w=_
  rw[run_callFunc_extern Tryz.func241 (by kernel_rfl) (by kernel_rfl) (by kernel_rfl) (e:=add64Entry) (by kernel_rfl),run_add64 x y c (by omega) (by omega) (by omega) (by omega)];simp only[Result.andThen]
  congr 5<;>omega
 ·match i with
  | 0=>simp at hd;subst hd;exact .prim _
  | 1=>simp at hd;subst hd;exact .prim _
  |n+2=>simp at hd
theorem sN {ρ:Lk}{O:Nat->Prop}{w:World}{a b:Value}{vs:Array Value}(hn:vs.size=2)(h:∀(i:Nat) (x:D),[D.prim a,.prim b][i]?=some x->AU ρ O w x (vs.getD i undef)):vs = #[a,b]:=by
 match vs,hn with
 |⟨[u,v]⟩,_=>
  have h0:=h 0 _ rfl;have h1:=h 1 _ rfl;simp at h0 h1;cases h0;cases h1;rfl
theorem bI (s:ByteArray)(c:Int):JW C0 297 [.prim (.string s),.prim (.int .u8 c)] (.prim (.int .i64 (firstIdx s c.toNat.toUInt8))):=λρ O w vs hn h=>by
 have:=sN hn h
 subst this;refine⟨_,?_,.prim _⟩;show(callFunc 297 _).run Tryz.prog w=_;rw[run_callFunc_indexByte Tryz.func297 (by kernel_rfl) (by kernel_rfl) (by kernel_rfl) (by kernel_rfl),run_indexByte_string];rfl
theorem fW (x y b:Nat)(hb:b<=1):JW C0 243 [.prim (.int .u64 x),.prim (.int .u64 y),.prim (.int .u64 b)]
  (.tup [.prim (.int .u64 (((x+18446744073709551616-y-b)%18446744073709551616:Nat):Int)),.prim (.int .u64 ((if x<y+b then 1 else 0:Nat):Int))]):=λρ O w vs hn h=>by
 have:=aC hn h
 subst this;refine⟨.tuple #[.int .u64 (((x+18446744073709551616-y-b)%18446744073709551616:Nat):Int),.int .u64 ((if x<y+b then 1 else 0:Nat):Int)],?_,.tup rfl λi d hd=>?_⟩
 ·show(callFunc 243 _).run Tryz.prog w=_
  rw[run_callFunc_extern Tryz.func243 (by kernel_rfl) (by kernel_rfl) (by kernel_rfl) (e:=sub64Entry) (by kernel_rfl),run_sub64 x y b hb];rfl
 ·match i with
  | 0=>simp at hd;subst hd;exact .prim _
  | 1=>simp at hd;subst hd;exact .prim _
  |n+2=>simp at hd
theorem PE {O:Nat->Prop}{w:World}{v:Value}{vs:Array Value}(hn:vs.size=1)(h:∀(i:Nat) (x:D),[D.prim v][i]?=some x->AU nol O w x (vs.getD i undef)):vs = #[v]:=by
 match vs,hn with
 |⟨[u]⟩,_=>
  have h0:=h 0 _ rfl;simp at h0;cases h0;rfl
theorem jR (n:Int)(h0 : -9223372036854775808<=n)(h1:n<=9223372036854775807):AK C0 208 [i64 n] (str ⟨(Lib.itoa n).toArray⟩):=by
 refine⟨⟨_,_,Tryz.func208,rfl,by kernel_rfl⟩,λY w vs hG hnG hX hvs hr=>?_⟩
 have:=PE hvs hr
 subst this;refine(Tryz.strconv_Itoa n h0 h1 w hG).mono ?_;rintro e w' ⟨rfl,k,os,rfl⟩;exact⟨_,_,rfl,Lib.below_grow _ _ (Af _) _ _,rfl,.prim _⟩
theorem jE (s:ByteArray)(n:Int)(hl:s.size<=18)(h:Lib.atoi s.data.toList=some n):AK C0 191 [str s] (.tup [i64 n,.prim .nilIface]):=by
 refine⟨⟨_,_,Tryz.func191,rfl,by kernel_rfl⟩,λY w vs hG hnG hX hvs hr=>?_⟩
 have:=PE hvs hr
 subst this;refine(Tryz.strconv_Atoi s n hl h w).mono ?_;rintro e w' ⟨rfl,t,rfl⟩;exact⟨_,_,rfl,Joins.below_bytesWorld _ _ _ _ (Af _),rfl,.tup rfl λi d hd=>by
  match i with
  | 0=>simp at hd;subst hd;exact .prim _
  | 1=>simp at hd;subst hd;exact .prim _
  |n+2=>simp at hd⟩
def Jx (f:Nat)(ds:List D):Option D:=match Nat.beq f 241 with
 |true=>match ds with
  | [.prim (.int .u64 (.ofNat a)),.prim (.int .u64 (.ofNat b)),.prim (.int .u64 (.ofNat c))]=>match Nat.ble c 1 with
   |true=>some (.tup [.prim (.int .u64 (((a+b+c)%18446744073709551616:Nat):Int)),.prim (.int .u64 (((a+b+c)/18446744073709551616:Nat):Int))])
   |false=>none
  |_=>none
 |false=>match Nat.beq f 243 with
  |true=>match ds with
   | [.prim (.int .u64 (.ofNat a)),.prim (.int .u64 (.ofNat b)),.prim (.int .u64 (.ofNat c))]=>match Nat.ble c 1 with
    |true=>some (.tup [.prim (.int .u64 (((a+18446744073709551616-b-c)%18446744073709551616:Nat):Int)),.prim (.int .u64 ((if a<b+c then 1 else 0:Nat):Int))])
    |false=>none
   |_=>none
  |false=>match Nat.beq f 297 with
   |true=>match ds with
    | [.prim (.string s),.prim (.int .u8 c)]=>some (.prim (.int .i64 (firstIdx s c.toNat.toUInt8)))
    |_=>none
   |false=>none
theorem PV (f:Nat)(ds:List D)(d:D)(h:Jx f ds=some d):JW C0 f ds d:=by
 unfold Jx at h;split at h
 ·rename_i hf
  obtain rfl:=Bu hf;split at h<;>try(cases h;done)
  split at h<;>try(cases h;done)
  rename_i hc;cases h;exact dG _ _ _ (Bb hc)
 ·split at h
  ·rename_i hf
   obtain rfl:=Bu hf;split at h<;>try(cases h;done)
   split at h<;>try(cases h;done)
   rename_i hc;cases h;exact fW _ _ _ (Bb hc)
  ·split at h
   ·rename_i hf
    obtain rfl:=Bu hf;split at h<;>try(cases h;done)
    cases h;exact bI _ _
   ·cases h
noncomputable def X1:EV:=⟨ON.get,LF.get,Ma.get,λ_=>false,λ_ _=>none,λ_ _=>none,Jx⟩
theorem DE:Ep C0 X1:=⟨ax,QZ,JE,λ_ _ _ h=>by simp[X1]at h,by kernel_rfl,λ_ _ _ h=>by simp[X1]at h,PV⟩
theorem w1:DA C0 X1:=DE.w
theorem wI {z:Int}(h1 : -9223372036854775808<=z)(h2:z<=9223372036854775807):IntKind.i64.wrap z=z:=by
 have e1:(2:Int)^IntKind.i64.bits=18446744073709551616:=rfl;have e2:(2:Int)^(IntKind.i64.bits-1)=9223372036854775808:=rfl;unfold IntKind.wrap;simp only[e1,e2];have e3:IntKind.i64.signed=true:=rfl;rw[e3];simp only[Hq,Gl];split<;>omega
theorem wN {n:Nat}(h:n<=9223372036854775807):IntKind.i64.wrap (n:Int)=n:=wI (by omega) (by omega)
set_option maxRecDepth 20000
theorem NY (n:Int):AK C0 152 [i64 n] (Cm n):=by
 refine Ai.walk w1 Xj rfl λF=>?_
 refine fR 0 ?_;refine fR 100 ?_;refine Ab ?_;exact AN rfl (AA.out (d:=Cm n))
theorem LG:∀(k u:Nat),u<10^(k+1)->(Lib.decDigits u).length<=k+1
 | 0,u,h=>by
  unfold Lib.decDigits;rw[dif_pos (by simpa using h)];simp
 |k+1,u,h=>by
  unfold Lib.decDigits;split
  ·simp
  ·rw[B1]
   have:=LG k (u/10) (by
    rw[B9]at h;omega)
   simp only[Bj,HD];omega
theorem IG (a b:List UInt8):(⟨a.toArray⟩:ByteArray)++⟨b.toArray⟩=⟨(a++b).toArray⟩:=by
 apply ByteArray.ext;simp[ByteArray.data_append]
theorem NE (l:List UInt8):(⟨l.toArray⟩:ByteArray).size=l.length:=by simp[ByteArray.size]
def Sm (z:Int):Prop:=-9223372036854775808<z/\z<9223372036854775808
theorem wS {z:Int}(h:Sm z):IntKind.i64.wrap z=z:=wI (by have:=h.1;omega) (by have:=h.2;omega)
theorem aB {z:Int}(h:Sm z):(z != -9223372036854775808)=true:=by
 have:=h.1
 simp only[bne_iff_ne,ne_eq];omega
theorem wU {z:Int}(h1:0<=z)(h2:z<18446744073709551616):IntKind.u64.wrap z=z:=by
 have e1:(2:Int)^IntKind.u64.bits=18446744073709551616:=rfl;unfold IntKind.wrap;simp only[e1];have e3:IntKind.u64.signed=false:=rfl;rw[e3];simp only[J6,HF,if_false];omega
theorem kp (z:Int)(h:Sm z):AK C0 198 [i64 z] (u64 (z.natAbs:Nat)):=by
 refine Ai.walk w1 Yp rfl λF=>?_
 obtain⟨h1,h2⟩:=h;refine fR 0 ?_;refine AC.seq ?_;refine fR 100 ?_;refine AI ?_
 (refine Bn (λh4=>?_) (λh4=>?_))<;>(try simp only[Bc,Bk]at h4)<;>(try simp only[h4])
 ·have hz:z<0:=by simpa using h4
  have e1:IntKind.i64.wrap (0-z)=(z.natAbs:Nat):=by rw[wI (by omega) (by omega)];omega
  have e2:IntKind.u64.wrap ((z.natAbs:Nat):Int)=(z.natAbs:Nat):=wU (by omega) (by omega);refine sZ 200 ?_;refine JH (Ah e1 e2) ?_;refine Ab ?_;exact AN rfl AA.out
 ·have hz:¬z<0:=by simpa using h4
  have e2:IntKind.u64.wrap z=(z.natAbs:Nat):=by rw[wU (by omega) (by omega)];omega
  refine Aj ?_;refine sZ 300 ?_;refine JH e2 ?_;refine Ab ?_;exact AN rfl AA.out
theorem oy (z:Int)(h:Sm z):AK C0 193 [Cm z] (Cm (-z)):=by
 refine Ai.walk w1 SU rfl λF=>?_
 refine fR 0 ?_;refine AC.seq ?_;refine sZ 100 ?_
 repeat'(first|(refine And.intro (by exact B0) ?_;refine Ap ?_)|((refine Bn (λhb=>?_) (λhb=>?_))<;>(try simp only[Bc,Bk]at hb)<;>(try simp only[hb])<;>(refine Ap ?_)))
 rw[aB h];refine AI ?_;have e1:IntKind.i64.wrap (0-z) = -z:=by
  have:=h.1;have:=h.2
  rw[wI (by omega) (by omega)];omega
 refine sZ 200 ?_;refine JH e1 ?_;refine Ab ?_;exact AN rfl AA.out
theorem M2 (x y:Nat)(hx:x<18446744073709551616)(hy:y<18446744073709551616):AK C0 197 [u64 x,u64 y] (.tup [u64 (x*y/18446744073709551616:Nat),u64 (x*y%18446744073709551616:Nat)]):=by
 refine⟨⟨_,_,Tryz.func197,rfl,by kernel_rfl⟩,λY w vs hG hnG hX hvs hr=>?_⟩;obtain⟨v1,v2,rfl⟩:∃a b,vs = #[a,b]:=by
  match vs,hvs with
  |⟨[a,b]⟩,_=>exact⟨a,b,rfl⟩
 have h0:=hr 0 _ rfl;have h1:=hr 1 _ rfl;simp at h0 h1;cases h0;cases h1;refine(Tryz.bits_Mul64 x y hx hy w).mono ?_;rintro e w' ⟨rfl,rfl⟩;exact⟨_,_,rfl,.refl _ _,rfl,.tup rfl λi d hd=>by
  match i with
  | 0=>simp at hd;subst hd;exact .prim _
  | 1=>simp at hd;subst hd;exact .prim _
  |n+2=>simp at hd⟩
theorem jy {a b:Int}(hb:0<b):(a.tmod b<0->a.tdiv b-1=a/b/\a.tmod b+b=a%b)/\(¬a.tmod b<0->a.tdiv b=a/b/\a.tmod b=a%b):=by
 have h1:=Int.mul_tdiv_add_tmod a b;have h2:=Int.tmod_lt_of_pos a hb;have h3:=Int.lt_tmod_of_pos a hb;constructor
 ·intro h
  have:=(Int.ediv_emod_unique (a:=a) (r:=a.tmod b+b) (q:=a.tdiv b-1) hb).2 ⟨by rw[Int.mul_sub,Int.mul_one];omega,by omega,by omega⟩
  exact⟨this.1.symm,this.2.symm⟩
 ·intro h
  have:=(Int.ediv_emod_unique (a:=a) (r:=a.tmod b) (q:=a.tdiv b) hb).2 ⟨by omega,by omega,by omega⟩
  exact⟨this.1.symm,this.2.symm⟩
theorem XB {a b:Int}(ha:Sm a):Sm (a.tdiv b):=by
 have h:(a.tdiv b).natAbs<=a.natAbs:=by rw[Int.natAbs_tdiv];exact GH _ _
 have:=ha.1;have:=ha.2
 exact⟨by omega,by omega⟩
theorem eF (a b:Int)(hb0:0<b)(ha:Sm a)(hb:Sm b):AK C0 240 [Cm a,Cm b] (.tup [Cm (a/b),Cm (a%b)]):=by
 refine Ai.walk w1 SV rfl λF=>?_
 obtain⟨t1,t2⟩:=jy (a:=a) hb0;have h2:=Int.tmod_lt_of_pos a hb0;have h3:=Int.lt_tmod_of_pos a hb0;have q1:=wS (XB (b:=b) ha);have q2:IntKind.i64.wrap (a.tmod b)=a.tmod b:=wI (by have:=hb.2;omega) (by have:=hb.2;omega);have q0:=XB (b:=b) ha;refine fR 0 ?_;refine AC.seq ?_;refine sZ 100 ?_
 repeat'(first|(refine And.intro (by exact B0) ?_;refine Ap ?_)|((refine Bn (λhb=>?_) (λhb=>?_))<;>(try simp only[Bc,Bk]at hb)<;>(try simp only[hb])<;>(refine Ap ?_)))
 rw[aB ha];refine AI ?_;refine AC.seq ?_;refine Bx w1 200 [0,1,2,3,4,5,6,7,8,9,10] [11] (by kernel_rfl) ?_;refine And.intro (by(refine Ap ?_);(try simp only[q1,q2]);all_goals exact B0) ?_;refine Ap ?_
 try simp only[q1,q2]
 refine AC.seq ?_;refine fR 300 ?_;refine AI ?_
 (refine Bn (λh40=>?_) (λh40=>?_))<;>(try simp only[Bc,Bk]at h40)<;>(try simp only[h40])
 ·obtain⟨e1,e2⟩:=t1 (by simpa using h40)
  have q3:IntKind.i64.wrap (a.tdiv b-1)=a/b:=by rw[wI (by have:=q0.1;omega) (by have:=q0.2;omega)];exact e1
  have q4:IntKind.i64.wrap (a.tmod b+b)=a%b:=by rw[wI (by have:=hb.2;omega) (by have:=hb.2;omega)];exact e2
  refine Bx w1 400 [0,1,2,3,4,5,6] [7] (by kernel_rfl) ?_;refine And.intro (by(refine Ap ?_);(try simp only[q3,q4]);all_goals exact B0) ?_;refine Ap ?_
  try simp only[q3,q4]
  refine fR 500 ?_;refine Ab ?_;exact AN rfl AA.out
 ·obtain⟨e1,e2⟩:=t2 (by simpa using h40)
  refine Aj ?_;refine AC.seq ?_;rw[e1,e2];refine fI 500 ?_;refine Ab ?_;exact AN rfl AA.out
theorem iq (z:Int):AK C0 148 [Cm z] (LE z 1):=by
 refine Ai.walk w1 SQ rfl λF=>?_
 refine fR 0 ?_;refine AC.seq ?_;refine Bx w1 100 [0,1] [2,3] (by kernel_rfl) ?_;refine Bz ?_;refine BQ.same _ (NY 1) AH ?_;refine Bz ?_;refine Ab ?_;exact AN rfl AA.out
theorem tP (z:Int):AK C0 105 [i64 z] (LE z 1):=by
 refine Ai.walk w1 XQ rfl λF=>?_
 refine fR 0 ?_;refine fR 100 ?_;refine dI (NY z) ?_;refine dI (iq z) ?_;refine Ab ?_;exact AN rfl AA.out
def Dd (a b:Int):Int:=if a<b then -1 else if b<a then 1 else 0
theorem jM (a b:Int):AK C0 272 [Cm a,Cm b] (i64 (Dd a b)):=by
 refine Ai.walk w1 SW rfl λF=>?_
 unfold Dd;refine fR 0 ?_;refine AC.seq ?_;refine sZ 100 ?_
 repeat'(first|(refine And.intro (by exact B0) ?_;refine Ap ?_)|((refine Bn (λhb=>?_) (λhb=>?_))<;>(try simp only[Bc,Bk]at hb)<;>(try simp only[hb])<;>(refine Ap ?_)))
 refine AI ?_;refine AC.seq ?_;refine AC.block ?_;refine fR 200 ?_;refine AI ?_
 (refine Bn (λh13=>?_) (λh13=>?_))<;>(try simp only[Bc,Bk]at h13)<;>(try simp only[h13])
 ·have h1:a<b:=by simpa using h13
  rw[AF h1];refine fR 300 ?_;refine Ab ?_;exact AN rfl AA.out
 ·have h1:¬a<b:=by simpa using h13
  rw[AE h1];refine fR 400 ?_;refine AI ?_
  (refine Bn (λh19=>?_) (λh19=>?_))<;>(try simp only[Bc,Bk]at h19)<;>(try simp only[h19])
  ·have h2:b<a:=by simpa using h19
   rw[AF h2];refine fR 500 ?_;refine Ab ?_;exact AN rfl AA.out
  ·have h2:¬b<a:=by simpa using h19
   rw[AE h2];refine Aj ?_;refine fR 600 ?_;refine Ab ?_;exact AN rfl AA.out
theorem Xv {n k:Nat}(h:Nat.blt n k=true):n<k:=by rw[Nat.blt_eq]at h;exact h
def um:Int->Bool
 | .ofNat n=>Nat.blt n 9223372036854775808
 | .negSucc n=>Nat.blt n 9223372036854775807
theorem qR {z:Int}(h:um z=true):Sm z:=by
 cases z with
 |ofNat n=>have:=Xv h;exact⟨by rw[Int.ofNat_eq_natCast];omega,by rw[Int.ofNat_eq_natCast];omega⟩
 |negSucc n=>have:=Xv h;exact⟨by omega,by omega⟩
abbrev BB:Nat:=18446744073709551616
def Aa (n:Nat):List Nat:=if _h:n=0 then[]else(n%BB)::Aa (n/BB)
termination_by n
decreasing_by exact HE (Di _h) (by decide)
def AS:List Nat->Nat
 | []=>0
 |a::l=>a+BB*AS l
def Wd (l:List Nat):Prop:=∀a∈l,a<BB
theorem FH:Aa 0=[]:=by unfold Aa;rfl
theorem Fc {n:Nat}(h:n≠0):Aa n=(n%BB)::Aa (n/BB):=by rw[Aa,dif_neg h]
theorem Em (n:Nat):Wd (Aa n):=by
 induction n using Nat.strongRecOn with
 |ind n ih=>
  by_cases h:n=0
  ·subst h;rw[FH];intro a ha;cases ha
  ·rw[Fc h]
   intro a ha;rcases BA.1 ha with rfl|ha
   ·exact Bs _ (by decide)
   ·exact ih _ (HE (Di h) (by decide)) a ha
theorem EX (n:Nat):AS (Aa n)=n:=by
 induction n using Nat.strongRecOn with
 |ind n ih=>
  by_cases h:n=0
  ·subst h;rw[FH];rfl
  ·rw[Fc h,AS,ih _ (HE (Di h) (by decide))]
   exact ET n BB
theorem JN (l m:List Nat):AS (l++m)=AS l+BB^l.length*AS m:=by
 induction l with
 |nil=>simp[AS]
 |cons a l ih=>
  simp only[EP,AS,ih,Bj,B9,BH];rw[BN (BB^l.length) BB,Bo,ED]
theorem Wd.tail {a:Nat}{l:List Nat}(h:Wd (a::l)):Wd l:=λb hb=>h b (Ck _ hb)
theorem Wd.head {a:Nat}{l:List Nat}(h:Wd (a::l)):a<BB:=h a Cc
theorem Wd.append {l m:List Nat}(h:Wd l)(k:Wd m):Wd (l++m):=λa ha=>(List.mem_append.1 ha).elim (h a) (k a)
theorem Wd.take {l:List Nat}(h:Wd l)(n:Nat):Wd (l.take n):=λa ha=>h a (Hx ha)
theorem Gw:∀ {l:List Nat},Wd l->AS l<BB^l.length
 | [],_=>by simp[AS]
 |a::l,h=>by
  have h1:=Gw h.tail;have h2:=h.head;rw[AS,Bj,B9]
  calc a+BB*AS l<BB+BB*AS l:=by omega
   _=BB*(AS l+1):=by rw[BH,Du,J7]
   _<=BB*BB^l.length:=CP _ h1
   _=_:=BN _ _
theorem VX:∀ {l:List Nat},Wd l->(∀a∈l.getLast?,a≠0)->Aa (AS l)=l
 | [],_,_=>FH
 | [a],h,hl=>by
  have ha:a≠0:=hl a (by simp);have hb:=h.head;rw[show AS [a]=a from by simp[AS],Fc ha,DO hb,Gh hb,FH]
 |a::b::l,h,hl=>by
  have ih:=VX h.tail (λx hx=>hl x (by simpa using hx));have hb:=h.head;have hv:AS (b::l)≠0:=by
   intro h0;rw[h0,FH]at ih;cases ih
  have e1:AS (a::b::l)%BB=a:=by rw[AS,Qn,DO hb]
  have e2:AS (a::b::l)/BB=AS (b::l):=by
   rw[AS,Qi _ _ (by decide),Gh hb,BT]
  have hne:AS (a::b::l)≠0:=by
   intro h0;rw[h0]at e2;exact hv (by rw[<-e2];rfl)
  rw[Fc hne,e1,e2,ih]
theorem Oe:∀(k:Nat),AS (List.replicate k 0)=0
 | 0=>rfl
 |k+1=>by rw[List.replicate_succ,AS,Oe k,EE]
theorem Um {l:List Nat}(h:Wd l)(n:Nat)(hz:∀j,n<=j->∀a,l[j]?=some a->a=0)(hn:n<=l.length)(hl:∀m,n=m+1->∀a,l[m]?=some a->a≠0):l.take n=Aa (AS l):=by
 have hd:l.drop n=List.replicate (l.length-n) 0:=by
  refine N7 λi=>?_
  rw[Gk,List.getElem?_replicate];split
  ·rename_i hi
   rw[BD (by omega)]
   congr 1
   exact hz _ (Nat.le_add_right _ _) _ (BD (by omega))
  ·exact DQ (by omega)
 have hv:AS l=AS (l.take n):=by
  conv=>lhs;rw[<-Ef n l]
  rw[JN,hd,Oe,EE,DJ]
 rw[hv];refine(VX (h.take n) λa ha=>?_).symm
 match n,hl,hn with
 | 0,_,_=>simp at ha
 |m+1,hl,hn=>
  refine hl m rfl a ?_;rw[List.getLast?_eq_getElem?,Bg,Ei hn,EQ,AF (by omega)]at ha;simpa using ha
abbrev AQ (n:Nat):D:=u64 (n:Int)
def wL (l:List Nat):D:=.sl false 1 (l.map AQ)
def wD (n:Nat):D:=wL (Aa n)
theorem Je (l:List Nat):Bw (wL l):=.sl λe he d hd=>by
 obtain⟨a,_,rfl⟩:=List.mem_map.1 he;simp only[D.cells,BA,DF,or_false]at hd;subst hd;exact .prim _
instance  (l:List Nat):AA (wL l):=⟨Je l⟩
instance  (n:Nat):AA (wD n):=⟨Je _⟩
theorem DB {l:List Nat}{i a:Nat}(h:l[i]?=some a):(l.map AQ)[i]?=some (AQ a):=by rw[BK,h];rfl
theorem trim_ok (l:List Nat)(h:Wd l)(hlen:l.length<4000000000):AK C0 242 [wL l] (wD (AS l)):=by
 refine Ai.walk w1 YI rfl λF=>?_
 unfold wL;refine sR 0 ?_;refine sR 100 ?_;refine AC.seq ?_;refine AC.block ?_;have hml:((l.map AQ).length:Int)=(l.length:Int):=by rw[An]
 rw[hml];refine AC.loop (α:=Nat×Nat) (λp=>⟨[(0,.sl false 1 (l.map AQ)),(3,i64 p.1)],[],p.2⟩) (λp=>p.1)
  (λp=>p.1<=l.length/\∀j,p.1<=j->∀a,l[j]?=some a->a=0) (l.length,_) ⟨Af _,λj hj a ha=>by rw[DQ hj]at ha;cases ha⟩ AL ?_
 rintro⟨n,m⟩ F ⟨h1,h2⟩;dsimp only at h1 h2⊢;refine AC.seq ?_;refine AC.seq ?_;rcases n with _|n
 ·have z0:decide (((0:Nat):Int)>0)=false:=rfl
  refine Ak w1 200 (by kernel_rfl) ?_;refine AD z0 ?_;refine AI ?_;refine By ?_;have ht:=Um h 0 h2 (BZ _) (by simp);refine sR 400 ?_;refine Ab ?_;refine AN (d0:=wL (l.take 0)) ?_ AA.out;rw[ht];rfl
 ·obtain⟨a,ha⟩:∃a,l[n]?=some a:=⟨l[n],BD (by omega)⟩
  have hx:=DB ha;have z1:decide (((n+1:Nat):Int)>0)=true:=AZ (by omega);have w2:IntKind.i64.wrap (((n+1:Nat):Int)-1)=(n:Int):=by rw[wI (by omega) (by omega)];omega
  refine Ak w1 200 (by kernel_rfl) ?_;refine AD (Ah z1 w2) ?_;refine Bi z1 hx ?_;refine AD (Ah z1 w2) ?_;refine AI ?_
  (refine Bn (λh15=>?_) (λh15=>?_))<;>(try simp only[Bc,Bk]at h15)<;>(try simp only[h15])
  ·have ha0:a=0:=by
    have:(a:Int)=0:=by simpa using h15
    omega
   subst ha0;refine Aj ?_;refine AC.block ?_;refine Ak w1 300 (by kernel_rfl) ?_;refine AT w2 ?_;refine⟨(n,_),⟨by dsimp only;omega,λj hj b hb=>?_⟩,by dsimp only;omega,AL⟩;rcases Nat.eq_or_lt_of_le hj with rfl|hlt
   ·exact FX (hb.symm.trans ha)
   ·exact h2 j hlt b hb
  ·have ha0:a≠0:=by
    intro h0;subst h0;simp at h15
   refine By ?_;have ht:=Um h (n+1) h2 h1 (λm hm b hb=>by
    obtain rfl:n=m:=by omega
    rw[ha]at hb;cases hb;exact ha0)
   refine sR 400 ?_;refine Ab ?_;have e4:List.take ((((n+1:Nat):Int)).toNat-0) (List.drop 0 (l.map AQ))=(l.take (n+1)).map AQ:=by
    rw[List.map_take];simp
   rw[e4];refine AN (d0:=wL (l.take (n+1))) ?_ AA.out;rw[ht];rfl
theorem Gq (b:Nat):∀a,b<=a->(Aa b).length<=(Aa a).length:=by
 induction b using Nat.strongRecOn with
 |ind b ih=>
  intro a h
  by_cases hb:b=0
  ·subst hb;rw[FH];exact BZ _
  ·rw[Fc hb,Fc (n:=a) (by omega),Bj,Bj]
   exact Nat.succ_le_succ (ih _ (HE (Di hb) (by decide)) _ (Nat.div_le_div_right h))
theorem T4 {a b:Nat}(h:(Aa a).length<(Aa b).length):a<b:=by
 rcases BL a b with h1|h1
 ·exact h1
 ·have:=Gq b a h1;omega
theorem Jf {l:List Nat}{k a:Nat}(h:l[k]?=some a):AS l=AS (l.take k)+BB^k*(a+BB*AS (l.drop (k+1))):=by
 have hk:k<l.length:=(List.getElem?_eq_some_iff.1 h).1
 conv=>lhs;rw[<-Ef k l]
 rw[JN,Bg,Ei (by omega)]
 have:l.drop k=a::l.drop (k+1):=by
  rw[D9 hk]
  congr 1
  exact(List.getElem?_eq_some_iff.1 h).2
 rw[this,AS]
theorem Uh {l m:List Nat}{k a b:Nat}(hl:Wd l)(ha:l[k]?=some a)(hb:m[k]?=some b)(hd:l.drop (k+1)=m.drop (k+1))(hab:a<b):AS l<AS m:=by
 have hk:k<l.length:=(List.getElem?_eq_some_iff.1 ha).1;rw[Jf ha,Jf hb,hd];have h1:=Gw (hl.take k);rw[Bg,Ei (by omega)]at h1;generalize AS (m.drop (k+1))=r;have h2:BB^k*(a+BB*r)+BB^k<=BB^k*(b+BB*r):=by
  rw[<-Nat.mul_succ];exact CP _ (by omega)
 omega
theorem PM (a b:Nat)(ha:(Aa a).length<4000000000)(hb:(Aa b).length<4000000000):AK C0 203 [wD a,wD b] (i64 (Dd a b)):=by
 refine Ai.walk w1 Yu rfl λF=>?_
 have hwa:=Em a;have hwb:=Em b;have va:=EX a;have vb:=EX b;have hlt:=@T4 a b;have hgt:=@T4 b a;unfold wD wL Dd;generalize Aa a=la at*;generalize Aa b=lb at*;have ea:(((la.map AQ).length:Nat):Int)=(la.length:Int):=by rw[An]
 have eb:(((lb.map AQ).length:Nat):Int)=(lb.length:Int):=by rw[An]
 refine sR 0 ?_;refine AC.seq ?_;refine sZ 100 ?_;refine AT (Ah ea eb) ?_;refine AI ?_
 (refine Bn (λh10=>?_) (λh10=>?_))<;>(try simp only[Bc,Bk]at h10)<;>(try simp only[h10])
 ·have hne:la.length≠lb.length:=by
   have:(la.length:Int)≠lb.length:=by simpa using h10
   omega
  refine AC.seq ?_;refine sZ 200 ?_;refine AT (Ah ea eb) ?_;refine AI ?_
  (refine Bn (λh15=>?_) (λh15=>?_))<;>(try simp only[Bc,Bk]at h15)<;>(try simp only[h15])
  ·have h1:la.length<lb.length:=by
    have:(la.length:Int)<lb.length:=by simpa using h15
    omega
   rw[AF (by have:=hlt h1;omega)];refine sR 300 ?_;refine Ab ?_;exact AN rfl AA.out
  ·have h1:lb.length<la.length:=by
    have:¬(la.length:Int)<lb.length:=by simpa using h15
    omega
   have h2:=hgt h1;rw[AE (by omega),AF (by omega)];refine Aj ?_;refine sR 400 ?_;refine Ab ?_;exact AN rfl AA.out
 ·have hl:la.length=lb.length:=by
   have:(la.length:Int)=lb.length:=by simpa using h10
   omega
  clear hlt hgt;refine Aj ?_;refine AC.seq ?_;refine sZ 500 ?_;refine AT ea ?_;refine AC.block ?_;have w0:IntKind.i64.wrap ((la.length:Int)-1)=(la.length:Int)-1:=wI (by omega) (by omega);rw[w0];refine AC.loop (α:=Nat×Nat) (λp=>⟨[(0,.sl false 1 (la.map AQ)),(1,.sl false 1 (lb.map AQ)),(5,i64 ((p.1:Int)-1))],[],p.2⟩) (λp=>p.1)
   (λp=>p.1<=la.length/\la.drop p.1=lb.drop p.1) (la.length,_) ⟨Af _,by rw[JB,hl,JB]⟩ AL ?_
  rintro⟨k,m⟩ F ⟨h1,h2⟩;dsimp only at h1 h2⊢;refine AC.seq ?_;refine sR 600 ?_;refine AI ?_
  (refine Bn (λh20=>?_) (λh20=>?_))<;>(try simp only[Bc,Bk]at h20)<;>(try simp only[h20])
  ·obtain⟨j,rfl⟩:∃j,k=j+1:=⟨k-1,by
    have:(k:Int)-1>=0:=by simpa using h20
    omega⟩
   have wj:((j+1:Nat):Int)-1=(j:Int):=by omega
   obtain⟨x,hx⟩:∃x,la[j]?=some x:=⟨la[j],BD (by omega)⟩
   obtain⟨y,hy⟩:∃y,lb[j]?=some y:=⟨lb[j],BD (by omega)⟩
   have hx':=DB hx;have hy':=DB hy;rw[wj];refine Aj ?_;refine AC.seq ?_;refine AC.block ?_;refine AC.seq ?_;refine Bx w1 800 [0,1,2,3,4,5,6,7] [8] (by kernel_rfl) ?_;refine AD kN ?_;refine Bi kT hx' ?_;refine AD kN ?_;refine Bi kT hy' ?_;refine AD kN ?_;refine AD kN ?_;refine AI ?_
   (refine Bn (λh31=>?_) (λh31=>?_))<;>(try simp only[Bc,Bk]at h31)<;>(try simp only[h31])
   ·have hne:x≠y:=by
     intro h0;subst h0;simp at h31
    refine AC.seq ?_;refine AC.seq ?_;refine Bx w1 900 [0,1,2,3,4,5,6,7] [8] (by kernel_rfl) ?_;refine AD kN ?_;refine Bi kT hx' ?_;refine AD kN ?_;refine Bi kT hy' ?_;refine AD kN ?_;refine AD kN ?_;refine AI ?_
    (refine Bn (λh40=>?_) (λh40=>?_))<;>(try simp only[Bc,Bk]at h40)<;>(try simp only[h40])
    ·have hxy:x<y:=by
      have:(x:Int)<y:=by simpa using h40
      omega
     have:=Uh hwa hx hy h2 hxy
     rw[AF (by omega)];refine sR 1000 ?_;refine Ab ?_;exact AN rfl AA.out
    ·have hxy:y<x:=by
      have:¬(x:Int)<y:=by simpa using h40
      omega
     have:=Uh hwb hy hx h2.symm hxy
     rw[AE (by omega),AF (by omega)];refine Aj ?_;refine sR 1100 ?_;refine Ab ?_;exact AN rfl AA.out
   ·have hxy:x=y:=by
     have:(x:Int)=y:=by simpa using h31
     omega
    subst hxy;have w5:IntKind.i64.wrap ((j:Int)-1)=(j:Int)-1:=wI (by omega) (by omega);refine Aj ?_;refine Ak w1 700 (by kernel_rfl) ?_;refine AT w5 ?_;have hj:=(List.getElem?_eq_some_iff.1 hx)
    have hj':=(List.getElem?_eq_some_iff.1 hy)
    refine⟨(j,_),⟨by dsimp only;omega,?_⟩,by dsimp only;omega,AL⟩;dsimp only;rw[D9 hj.1,D9 hj'.1,hj.2,hj'.2,h2]
  ·have hk:k=0:=by
    have:¬((k:Int)-1>=0):=by simpa using h20
    omega
   subst hk;have hab:a=b:=by
    rw[<-va,<-vb]
    have:la=lb:=by simpa using h2
    rw[this]
   subst hab;rw[AE (by omega),AE (by omega)];refine By ?_;refine sR 1200 ?_;refine Ab ?_;exact AN rfl AA.out
theorem Vp {a b c:Nat}(hc:c<=1):Jx 241 [AQ a,AQ b,AQ c]=some (.tup [AQ ((a+b+c)%BB),AQ ((a+b+c)/BB)]):=by
 show(match Nat.ble c 1 with
  |true=>some (D.tup [.prim (.int .u64 (((a+b+c)%18446744073709551616:Nat):Int)),.prim (.int .u64 (((a+b+c)/18446744073709551616:Nat):Int))])
  |false=>none)=_
 have h1:Nat.ble c 1=true:=by rw[Nat.ble_eq];exact hc
 rw[h1]
theorem El {l:List Nat}{i a:Nat}(h:l[i]?=some a):l.take (i+1)=l.take i++[a]:=by rw[D7,h];rfl
theorem PG {l:List Nat}{i a:Nat}(h:i<l.length):(l.set i a).take (i+1)=l.take i++[a]:=by
 rw[El (l:=l.set i a) (i:=i) (a:=a) (by simp[h]),List.take_set_of_le (Af _)]
theorem F6 {l:List Nat}{i a:Nat}(hi:l.length=i):AS (l++[a])=AS l+BB^i*a:=by rw[JN,hi];simp[AS]
theorem map_set {l:List Nat}{i a:Nat}:(l.map AQ).set i (AQ a)=(l.set i a).map AQ:=List.map_set.symm
theorem Wd.set {l:List Nat}(h:Wd l){i a:Nat}(ha:a<BB):Wd (l.set i a):=λb hb=>by
 rcases List.mem_or_eq_of_mem_set hb with h1|rfl
 ·exact h b h1
 ·exact ha
theorem LT (n:Nat):Wd (List.replicate n 0):=λa ha=>by rw[N8 ha];decide
theorem Sz {env:Ao}{t K g n N:Nat}{z:List Nat}{T:Nat}(hl:z.length=N)(he:env.get t=.osl K g 1 0 N:=by exact rfl):Wk ⟨env,[⟨K,g,T,1,z.map AQ⟩],n⟩ ⟨[(t,.sl false 1 (z.map AQ))],[],n⟩:=by
 subst hl;refine⟨.drop .nil,⟨?_,trivial⟩,Af _⟩;dsimp only;rw[he]
 have:=Pp K g T 1 (z.map AQ)
 rwa [An]at this
theorem jD (la lb:List Nat)(ha:Wd la)(hb:Wd lb)(hla:la.length<4000000)(hlb:lb.length<4000000):AK C0 202 [wL la,wL lb] (wD (AS la+AS lb)):=by
 refine Ai.walk w1 Yt rfl λF=>?_
 unfold wL;have ea:(((la.map AQ).length:Nat):Int)=(la.length:Int):=by rw[An]
 have eb:(((lb.map AQ).length:Nat):Int)=(lb.length:Int):=by rw[An]
 obtain⟨x,y,hsw,hle,hx,hy,hlx,hv⟩:∃x y:List Nat,(la.length<lb.length/\x=lb/\y=la\/¬la.length<lb.length/\x=la/\y=lb)/\y.length<=x.length/\Wd x/\Wd y/\x.length<4000000/\AS la+AS lb=AS x+AS y:=by
  by_cases h:la.length<lb.length
  ·exact⟨lb,la,.inl ⟨h,rfl,rfl⟩,by omega,hb,ha,hlb,by omega⟩
  ·exact⟨la,lb,.inr ⟨h,rfl,rfl⟩,by omega,ha,hb,hla,rfl⟩
 rw[hv];refine sR 0 ?_;refine EB ⟨[(0,.sl false 1 (x.map AQ)),(1,.sl false 1 (y.map AQ)),(4,CK)],[],20⟩ ?_ ?_
 ·refine sZ 100 ?_
  refine AT (Ah ea eb) ?_;refine AI ?_;rcases hsw with⟨h,rfl,rfl⟩|⟨h,rfl,rfl⟩
  ·have e1:decide ((y.length:Int)<(x.length:Int))=true:=AZ (by omega)
   rw[e1];refine rI 200 ?_;exact And.intro (by trivial) (AL)
  ·have e1:decide ((x.length:Int)<(y.length:Int))=false:=Ad (by omega)
   rw[e1];refine Aj ?_;exact And.intro (by trivial) (AL)
 clear hsw ea eb;have ex:(((x.map AQ).length:Nat):Int)=(x.length:Int):=by rw[An]
 have ey:(((y.map AQ).length:Nat):Int)=(y.length:Int):=by rw[An]
 have w3:IntKind.i64.wrap ((x.length:Int)+1)=((x.length+1:Nat):Int):=by rw[wI (by omega) (by omega)];omega
 have r3:List.replicate (x.length+1) (ofV (.int .u64 0))=(List.replicate (x.length+1) 0).map AQ:=by rw[I8];rfl
 refine sZ 300 ?_;refine AT (Ar ex w3 kN) ?_;refine sR 400 ?_;refine AC.seq ?_;refine sZ 500 ?_;refine AT ex ?_;refine AC.block ?_;refine AC.loop (α:=Nat×Nat×List Nat×Nat) (λp=>⟨[(0,.sl false 1 (x.map AQ)),(1,.sl false 1 (y.map AQ)),(4,CK),(5,.osl 303 23 1 0 (x.length+1)),(6,AQ p.2.1),(21,i64 x.length),(22,i64 p.1)],[⟨303,23,225,1,p.2.2.1.map AQ⟩],p.2.2.2⟩) (λp=>x.length-p.1)
  (λp=>p.1<=x.length/\p.2.1<=1/\p.2.2.1.length=x.length+1/\Wd p.2.2.1/\AS (p.2.2.1.take p.1)+BB^p.1*p.2.1=AS (x.take p.1)+AS (y.take p.1)) (0,0,List.replicate (x.length+1) 0,_)
  ⟨BZ _,BZ _,by simp,LT _,by simp[AS]⟩ (by rw[<-r3];exact AL) ?_
 rintro⟨i,c,o,m⟩ F ⟨h1,h2,h3,h4,h5⟩;dsimp only at h1 h2 h3 h4 h5⊢;refine sR 600 ?_;refine AC.seq ?_;refine AI ?_
 (refine Bn (λh23=>?_) (λh23=>?_))<;>(try simp only[Bc,Bk]at h23)<;>(try simp only[h23])
 ·have hi:i<x.length:=by simpa using h23
  obtain⟨a,hxa⟩:∃a,x[i]?=some a:=⟨x[i],BD hi⟩
  have ha:=DB hxa;obtain⟨v,hvl,hvv⟩:∃v,v<BB/\(i<y.length/\y[i]?=some v\/y.length<=i/\v=0):=by
   by_cases h:i<y.length
   ·exact⟨y[i],hy _ (List.getElem_mem h),.inl ⟨h,BD h⟩⟩
   ·exact⟨0,by decide,.inr ⟨by omega,rfl⟩⟩
  have hal:a<BB:=hx a (A8 hxa);have hyv:AS (y.take (i+1))=AS (y.take i)+BB^i*v:=by
   rcases hvv with⟨h,hh⟩|⟨h,rfl⟩
   ·rw[El hh,F6 (i:=i) (by rw[Bg];omega)]
   ·rw[B5 (by omega),B5 h];simp
  have hoi:i<o.length:=by omega
  obtain⟨oi,hoa⟩:∃a,o[i]?=some a:=⟨o[i],BD hoi⟩
  have hob:=DB hoa;have hadd:=Vp (a:=a) (b:=v) h2;have wi:IntKind.i64.wrap ((i:Int)+1)=((i+1:Nat):Int):=wI (by omega) (by omega);refine Aj ?_;refine AC.seq ?_;refine AC.block ?_;refine sR 700 ?_;refine sR 800 ?_;refine EB ⟨[(0,.sl false 1 (x.map AQ)),(1,.sl false 1 (y.map AQ)),(4,CK),(5,.osl 303 23 1 0 (x.length+1)),(6,AQ c),(7,i64 i),(8,AQ v),(21,i64 x.length),(22,i64 i)],[⟨303,23,225,1,o.map AQ⟩],m+30⟩ ?_ ?_
  ·refine sZ 900 ?_
   refine AT ey ?_;refine AI ?_;rcases hvv with⟨h,hh⟩|⟨h,rfl⟩
   ·have hy':=DB hh
    have e1:decide ((i:Int)<(y.length:Int))=true:=AZ (by omega);rw[e1];refine rI 1000 ?_;refine AD kN ?_;refine Bi kT hy' ?_;refine BJ ?_;exact And.intro (by trivial) (AL)
   ·have e1:decide ((i:Int)<(y.length:Int))=false:=Ad (by omega)
    rw[e1];refine Aj ?_;exact And.intro (by trivial) (AL)
  refine rI 1100 ?_;refine AD kN ?_;refine Bi kT ha ?_;refine AD kN ?_
  first|(refine Dm rfl rfl ?_;refine PU rfl rfl (hadd) ?_)|(refine EH rfl rfl ?_;refine NG rfl rfl (hadd) ?_)
  refine AD (Ar kN BT hob) ?_;have hs:(a+v+c)%BB<BB:=Bs _ (by decide);have hc':(a+v+c)/BB<=1:=by
   have:a+v+c<2*BB:=by omega
   exact MY (Eg (by rw[BN];exact this))
  rw[map_set];refine Ak w1 1200 (by kernel_rfl) ?_;refine AT wi ?_;refine⟨(i+1,(a+v+c)/BB,o.set i ((a+v+c)%BB),_),⟨hi,hc',by dsimp only;rw[DZ];exact h3,h4.set hs,?_⟩,by dsimp only;omega,AL⟩;dsimp only;rw[PG hoi,F6 (i:=i) (by rw[Bg];omega),El hxa,F6 (i:=i) (by rw[Bg];omega),hyv];have hm:=ET (a+v+c) BB;rw[B9,Bo,ED,<-BH,hm,BH,BH];omega
 ·have hi:i=x.length:=by
   have:¬i<x.length:=by simpa using h23
   omega
  subst hi;obtain⟨oi,hoa⟩:∃a,o[x.length]?=some a:=⟨o[x.length],BD (by omega)⟩
  have hob:=DB hoa;refine By ?_;refine sZ 1300 ?_;refine AD (Ba ex kN BT hob) ?_;rw[map_set];have ho:o.set x.length c=o.take x.length++[c]:=by
   have:=PG (l:=o) (i:=x.length) (a:=c) (by omega)
   rwa [B5 (by rw[DZ];omega)]at this
  have hov:AS (o.set x.length c)=AS x+AS y:=by
   rw[ho,F6 (i:=x.length) (by rw[Bg];omega),h5,B5 (Af _),B5 hle]
  have how:Wd (o.set x.length c):=h4.set (DH h2 (by decide));have hol:(o.set x.length c).length=x.length+1:=by rw[DZ];exact h3
  generalize o.set x.length c=z at*;refine AC.weak ⟨[(5,.sl false 1 (z.map AQ))],[],_⟩ (Sz hol) ?_;refine sR 1400 ?_;refine A7.same _ (trim_ok z how (by omega)) AH ?_;refine BJ ?_;refine Ab ?_;exact AN (by rw[hov]) AA.out
theorem Rv {a b c:Nat}(hc:c<=1):Jx 243 [AQ a,AQ b,AQ c]=some (.tup [AQ ((a+BB-b-c)%BB),AQ (if a<b+c then 1 else 0)]):=by
 show(match Nat.ble c 1 with
  |true=>some (D.tup [.prim (.int .u64 (((a+18446744073709551616-b-c)%18446744073709551616:Nat):Int)),.prim (.int .u64 ((if a<b+c then 1 else 0:Nat):Int))])
  |false=>none)=_
 have h1:Nat.ble c 1=true:=by rw[Nat.ble_eq];exact hc
 rw[h1]
theorem Rg {a v c:Nat}(ha:a<BB)(hv:v<BB)(hc:c<=1):(a+BB-v-c)%BB+v+c=a+BB*(if a<v+c then 1 else 0):=by
 by_cases h:a<v+c
 ·rw[AF h,DO (by omega)];omega
 ·rw[AE h]
  have:a+BB-v-c=(a-v-c)+BB:=by omega
  rw[this,Nat.add_mod_right,DO (by omega)];omega
theorem jw (x y:List Nat)(hx:Wd x)(hy:Wd y)(hlx:x.length<4000000)(hle:y.length<=x.length)(hv:AS y<=AS x):AK C0 204 [wL x,wL y] (wD (AS x-AS y)):=by
 refine Ai.walk w1 Yv rfl λF=>?_
 unfold wL;have ex:(((x.map AQ).length:Nat):Int)=(x.length:Int):=by rw[An]
 have ey:(((y.map AQ).length:Nat):Int)=(y.length:Int):=by rw[An]
 have r3:List.replicate x.length (ofV (.int .u64 0))=(List.replicate x.length 0).map AQ:=by rw[I8];rfl
 refine sR 0 ?_;refine sZ 100 ?_;refine AT (Ah ex kN) ?_;refine sR 200 ?_;refine AC.seq ?_;refine sZ 300 ?_;refine AT ex ?_;refine AC.block ?_;refine AC.loop (α:=Nat×Nat×List Nat×Nat) (λp=>⟨[(0,.sl false 1 (x.map AQ)),(1,.sl false 1 (y.map AQ)),(4,CK),(5,.osl 102 3 1 0 x.length),(6,AQ p.2.1),(13,i64 x.length),(14,i64 p.1)],[⟨102,3,225,1,p.2.2.1.map AQ⟩],p.2.2.2⟩) (λp=>x.length-p.1)
  (λp=>p.1<=x.length/\p.2.1<=1/\p.2.2.1.length=x.length/\Wd p.2.2.1/\AS (p.2.2.1.take p.1)+AS (y.take p.1)=AS (x.take p.1)+BB^p.1*p.2.1) (0,0,List.replicate x.length 0,_)
  ⟨BZ _,BZ _,by simp,LT _,by simp[AS]⟩ (by rw[<-r3];exact AL) ?_
 rintro⟨i,c,o,m⟩ F ⟨h1,h2,h3,h4,h5⟩;dsimp only at h1 h2 h3 h4 h5⊢;refine sR 400 ?_;refine AC.seq ?_;refine AI ?_
 (refine Bn (λh23=>?_) (λh23=>?_))<;>(try simp only[Bc,Bk]at h23)<;>(try simp only[h23])
 ·have hi:i<x.length:=by simpa using h23
  obtain⟨a,hxa⟩:∃a,x[i]?=some a:=⟨x[i],BD hi⟩
  have ha:=DB hxa;obtain⟨v,hvl,hvv⟩:∃v,v<BB/\(i<y.length/\y[i]?=some v\/y.length<=i/\v=0):=by
   by_cases h:i<y.length
   ·exact⟨y[i],hy _ (List.getElem_mem h),.inl ⟨h,BD h⟩⟩
   ·exact⟨0,by decide,.inr ⟨by omega,rfl⟩⟩
  have hal:a<BB:=hx a (A8 hxa);have hyv:AS (y.take (i+1))=AS (y.take i)+BB^i*v:=by
   rcases hvv with⟨h,hh⟩|⟨h,rfl⟩
   ·rw[El hh,F6 (i:=i) (by rw[Bg];omega)]
   ·rw[B5 (by omega),B5 h];simp
  have hoi:i<o.length:=by omega
  obtain⟨oi,hoa⟩:∃a,o[i]?=some a:=⟨o[i],BD hoi⟩
  have hob:=DB hoa;have hsub:=Rv (a:=a) (b:=v) h2;have hdig:=Rg hal hvl h2;have hc':(if a<v+c then 1 else 0)<=1:=by split<;>decide
  have hs:(a+BB-v-c)%BB<BB:=Bs _ (by decide);generalize(if a<v+c then 1 else 0)=c' at*;generalize(a+BB-v-c)%BB=d at*;have wi:IntKind.i64.wrap ((i:Int)+1)=((i+1:Nat):Int):=wI (by omega) (by omega);refine Aj ?_;refine AC.seq ?_;refine AC.block ?_;refine sR 500 ?_;refine sR 600 ?_;refine EB ⟨[(0,.sl false 1 (x.map AQ)),(1,.sl false 1 (y.map AQ)),(4,CK),(5,.osl 102 3 1 0 x.length),(6,AQ c),(7,i64 i),(8,AQ v),(13,i64 x.length),(14,i64 i)],[⟨102,3,225,1,o.map AQ⟩],m+30⟩ ?_ ?_
  ·refine sZ 700 ?_
   refine AT ey ?_;refine AI ?_;rcases hvv with⟨h,hh⟩|⟨h,rfl⟩
   ·have hy':=DB hh
    have e1:decide ((i:Int)<(y.length:Int))=true:=AZ (by omega);rw[e1];refine rI 800 ?_;refine AD kN ?_;refine Bi kT hy' ?_;refine BJ ?_;exact And.intro (by trivial) (AL)
   ·have e1:decide ((i:Int)<(y.length:Int))=false:=Ad (by omega)
    rw[e1];refine Aj ?_;exact And.intro (by trivial) (AL)
  refine rI 900 ?_;refine AD kN ?_;refine Bi kT ha ?_;refine AD kN ?_
  first|(refine Dm rfl rfl ?_;refine PU rfl rfl (hsub) ?_)|(refine EH rfl rfl ?_;refine NG rfl rfl (hsub) ?_)
  refine AD (Ar kN BT hob) ?_;rw[map_set];refine Ak w1 1000 (by kernel_rfl) ?_;refine AT wi ?_;refine⟨(i+1,c',o.set i d,_),⟨hi,hc',by dsimp only;rw[DZ];exact h3,h4.set hs,?_⟩,by dsimp only;omega,AL⟩;dsimp only;rw[PG hoi,F6 (i:=i) (by rw[Bg];omega),El hxa,F6 (i:=i) (by rw[Bg];omega),hyv];have h6:BB^i*d+BB^i*v+BB^i*c=BB^i*a+BB^(i+1)*c':=by
   rw[B9,Bo,<-BH,<-BH,<-BH,hdig]
  omega
 ·have hi:i=x.length:=by
   have:¬i<x.length:=by simpa using h23
   omega
  subst hi;rw[B5 (Nat.le_of_eq h3),B5 (Af _),B5 hle]at h5;have hlt:=Gw h4;rw[h3]at hlt;have hc0:c=0:=by
   rcases DY c with h|h
   ·exact h
   ·have:c=1:=by omega
    subst this;rw[Du]at h5;omega
  subst hc0;have hov:AS o=AS x-AS y:=by
   rw[EE]at h5;omega
  refine By ?_;refine AC.weak ⟨[(5,.sl false 1 (o.map AQ))],[],_⟩ (Sz h3) ?_;refine sR 1100 ?_;refine A7.same _ (trim_ok o h4 (by omega)) AH ?_;refine BJ ?_;refine Ab ?_;exact AN (by rw[hov]) AA.out
theorem Id:∀ {l:List Nat} {k o d:Nat},l[k]?=some o->AS (l.set k d)+BB^k*o=AS l+BB^k*d
 |a::l,0,o,d,h=>by
  simp only[Qd,BG]at h;subst h;simp only[List.set_cons_zero,AS,K8,IV];omega
 |a::l,k+1,o,d,h=>by
  simp only[JA]at h;have ih:=Id (d:=d) h;simp only[List.set_cons_succ,AS];have h1:BB^(k+1)*o=BB*(BB^k*o):=by rw[B9,BN (BB^k) BB,Bo]
  have h2:BB^(k+1)*d=BB*(BB^k*d):=by rw[B9,BN (BB^k) BB,Bo]
  have h3:BB*AS (l.set k d)+BB*(BB^k*o)=BB*AS l+BB*(BB^k*d):=by rw[<-BH,<-BH,ih]
  omega
theorem eM {x y o c:Nat}(hx:x<BB)(hy:y<BB)(ho:o<BB)(hc:c<BB):
  ∃hi lo c1 lo1 hi1 c2 lo2 c',hi=x*y/BB/\lo=x*y%BB/\lo1=(lo+o+0)%BB/\c1=(lo+o+0)/BB/\hi1=hi+c1/\hi1<BB/\lo2=(lo1+c+0)%BB/\c2=(lo1+c+0)/BB/\c'=hi1+c2/\c'<BB/\lo2<BB /\
   lo2+BB*c'=x*y+o+c:=by
 refine⟨_,_,_,_,_,_,_,_,rfl,rfl,rfl,rfl,rfl,?_,rfl,rfl,rfl,?_,Bs _ (by decide),?_⟩
 all_goals
  unfold BB at*;have e1:=ET (x*y) 18446744073709551616;have e2:=ET (x*y%18446744073709551616+o+0) 18446744073709551616;have e3:=ET ((x*y%18446744073709551616+o+0)%18446744073709551616+c+0) 18446744073709551616;have hxy:x*y<=(18446744073709551616-1)*(18446744073709551616-1):=Hz (by omega) (by omega);have hk:(18446744073709551616-1)*(18446744073709551616-1)=340282366920938463426481119284349108225:=by decide
  rw[hk]at hxy;have l1:=Bs (x*y) (show 18446744073709551616>0 by decide);have l2:=Bs (x*y%18446744073709551616+o+0) (show 18446744073709551616>0 by decide);have l3:=Bs ((x*y%18446744073709551616+o+0)%18446744073709551616+c+0) (show 18446744073709551616>0 by decide);generalize x*y=p at*;generalize hA:p/18446744073709551616=A at*;generalize hB:p%18446744073709551616=B at*;generalize hC:(B+o+0)/18446744073709551616=C at*;generalize hD:(B+o+0)%18446744073709551616=D at*;generalize hE:(D+c+0)/18446744073709551616=E at*;generalize hF:(D+c+0)%18446744073709551616=F at*;omega
theorem Ts {n:Nat}(h:n<BB):IntKind.u64.wrap (n:Int)=(n:Int):=wU (by omega) (by unfold BB at h;omega)
theorem jY (a b:List Nat)(ha:Wd a)(hb:Wd b)(hla:a.length<1000000)(hlb:b.length<1000000):AK C0 201 [wL a,wL b] (wD (AS a*AS b)):=by
 refine Ai.walk w1 Ys rfl λF=>?_
 unfold wL;have ea:(((a.map AQ).length:Nat):Int)=(a.length:Int):=by rw[An]
 have eb:(((b.map AQ).length:Nat):Int)=(b.length:Int):=by rw[An]
 have wl:IntKind.i64.wrap ((a.length:Int)+(b.length:Int))=((a.length+b.length:Nat):Int):=by rw[wI (by omega) (by omega)];omega
 have r3:List.replicate (a.length+b.length) (ofV (.int .u64 0))=(List.replicate (a.length+b.length) 0).map AQ:=by rw[I8];rfl
 refine sR 0 ?_;refine sZ 100 ?_;refine AT (Ba ea eb wl kN) ?_;refine AC.seq ?_;refine sZ 200 ?_;refine AT ea ?_;refine AC.block ?_;refine AC.loop (α:=Nat×List Nat×Nat) (λp=>⟨[(0,.sl false 1 (a.map AQ)),(1,.sl false 1 (b.map AQ)),(4,CK),(5,.osl 105 6 1 0 (a.length+b.length)),(20,.sl false 1 (a.map AQ)),(21,i64 a.length),(22,i64 p.1)],[⟨105,6,225,1,p.2.1.map AQ⟩],p.2.2⟩) (λp=>a.length-p.1)
  (λp=>p.1<=a.length/\p.2.1.length=a.length+b.length/\Wd p.2.1/\AS p.2.1=AS (a.take p.1)*AS b/\∀k,p.1+b.length<=k->∀d,p.2.1[k]?=some d->d=0) (0,List.replicate (a.length+b.length) 0,_)
  ⟨BZ _,by simp,LT _,by simp[AS,Oe],λk _ d hd=>N8 (A8 hd)⟩ (by rw[<-r3];exact AL) ?_
 rintro⟨i,o,m⟩ F ⟨h1,h2,h3,h4,h5⟩;dsimp only at h1 h2 h3 h4 h5⊢;refine sR 300 ?_;refine AC.seq ?_;refine AI ?_
 (refine Bn (λh23=>?_) (λh23=>?_))<;>(try simp only[Bc,Bk]at h23)<;>(try simp only[h23])
 ·have hi:i<a.length:=by simpa using h23
  obtain⟨x,hx⟩:∃x,a[i]?=some x:=⟨a[i],BD hi⟩
  have hx':=DB hx;have hxl:x<BB:=ha x (A8 hx);have wi:IntKind.i64.wrap ((i:Int)+1)=((i+1:Nat):Int):=wI (by omega) (by omega);have hax:AS (a.take (i+1))=AS (a.take i)+BB^i*x:=by rw[El hx,F6 (i:=i) (by rw[Bg];omega)]
  refine Aj ?_;refine AC.seq ?_;refine AC.block ?_;refine sR 400 ?_;refine Bi kT hx' ?_;refine BJ ?_;refine sR 500 ?_;refine AC.seq ?_;refine sZ 600 ?_;refine AT eb ?_;refine AC.block ?_;refine AC.loop (α:=Nat×Nat×List Nat×Nat) (λp=>⟨[(0,.sl false 1 (a.map AQ)),(1,.sl false 1 (b.map AQ)),(4,CK),(5,.osl 105 6 1 0 (a.length+b.length)),(6,i64 i),(7,AQ x),(8,AQ p.2.1),(20,.sl false 1 (a.map AQ)),(21,i64 a.length),(22,i64 i),(27,.sl false 1 (b.map AQ)),(28,i64 b.length),(29,i64 p.1)],[⟨105,6,225,1,p.2.2.1.map AQ⟩],p.2.2.2⟩) (λp=>b.length-p.1)
   (λp=>p.1<=b.length/\p.2.1<BB/\p.2.2.1.length=a.length+b.length/\Wd p.2.2.1/\AS p.2.2.1+BB^(i+p.1)*p.2.1=AS (a.take i)*AS b+BB^i*x*AS (b.take p.1)/\∀k,i+b.length<=k->∀d,p.2.2.1[k]?=some d->d=0) (0,0,o,_)
   ⟨BZ _,show 0<BB by decide,h2,h3,by simp[AS,h4],h5⟩ AL ?_
  rintro⟨j,c,q,m2⟩ F ⟨g1,g2,g3,g4,g5,g6⟩;dsimp only at g1 g2 g3 g4 g5 g6⊢;clear h2 h3 h4 h5 r3 wl;refine sR 700 ?_;refine AC.seq ?_;refine AI ?_
  (refine Bn (λh30=>?_) (λh30=>?_))<;>(try simp only[Bc,Bk]at h30)<;>(try simp only[h30])
  ·have hj:j<b.length:=by simpa using h30
   obtain⟨y,hy⟩:∃y,b[j]?=some y:=⟨b[j],BD hj⟩
   have hy':=DB hy;have hyl:y<BB:=hb y (A8 hy);obtain⟨z,hz⟩:∃z,q[i+j]?=some z:=⟨q[i+j],BD (by omega)⟩
   have hz':=DB hz;have hzl:z<BB:=g4 z (A8 hz);have wj:IntKind.i64.wrap ((j:Int)+1)=((j+1:Nat):Int):=wI (by omega) (by omega);have wij:IntKind.i64.wrap ((i:Int)+(j:Int))=((i+j:Nat):Int):=by rw[wI (by omega) (by omega)];omega
   have hbx:AS (b.take (j+1))=AS (b.take j)+BB^j*y:=by rw[El hy,F6 (i:=j) (by rw[Bg];omega)]
   have cm:=M2 x y hxl hyl;obtain⟨hi',lo,c1,lo1,hi1,c2,lo2,c',e1,e2,e3,e4,e5,e6,e7,e8,e9,e10,e11,e12⟩:=eM hxl hyl hzl g2;rw[show x*y/18446744073709551616=hi' from e1.symm,show x*y%18446744073709551616=lo from e2.symm]at cm;have e3':(lo+z+0)%18446744073709551616=lo1:=e3.symm;have e4':(lo+z+0)/18446744073709551616=c1:=e4.symm;have e7':(lo1+c+0)%18446744073709551616=lo2:=e7.symm;have e8':(lo1+c+0)/18446744073709551616=c2:=e8.symm;have w6:IntKind.u64.wrap ((hi':Int)+(c1:Int))=(hi1:Int):=by rw[<-Int.natCast_add,<-e5];exact Ts e6
   have w7:IntKind.u64.wrap ((hi1:Int)+(c2:Int))=(c':Int):=by rw[<-Int.natCast_add,<-e9];exact Ts e10
   refine Aj ?_;refine AC.seq ?_;refine AC.block ?_;refine sR 800 ?_;refine Bi kT hy' ?_;refine BJ ?_;refine sR 900 ?_;refine A7.same _ cm AH ?_;refine BJ ?_;refine sR 1000 ?_;refine sZ 1100 ?_;refine AD (EU wij kN BT hz' e3' e4') ?_;refine sZ 1200 ?_;refine AT w6 ?_;refine sZ 1300 ?_;refine AT (Ah e7' e8') ?_;refine Ak w1 1400 (by kernel_rfl) ?_;refine AD (CH wij w7 kN BT hz') ?_;rw[show(D.prim (Value.int IntKind.u64 (lo2:Int)))=AQ lo2 from rfl,map_set];refine Ak w1 1500 (by kernel_rfl) ?_;refine AT wj ?_;refine⟨(j+1,c',q.set (i+j) lo2,_),⟨hj,e10,by dsimp only;rw[DZ];exact g3,g4.set e11,?_,λk hk d hd=>?_⟩,by dsimp only;omega,AL⟩
   ·dsimp only
    have hs:=Id (d:=lo2) hz;rw[hbx,BH,<-ED (AS (a.take i)*AS b),<-g5];have h6:BB^(i+j)*lo2+BB^(i+(j+1))*c'=BB^i*x*(BB^j*y)+BB^(i+j)*z+BB^(i+j)*c:=by
     have:BB^i*x*(BB^j*y)=BB^(i+j)*(x*y):=by
      rw[FT,Bo,Bo,Ho x]
     rw[this,<-ED i j 1,B9,Bo,<-BH,<-BH,<-BH,e12]
    omega
   ·dsimp only at hk hd
    rw[Hw (by omega)]at hd;exact g6 k hk d hd
  ·have hj:j=b.length:=by
    have:¬j<b.length:=by simpa using h30
    omega
   subst hj;obtain⟨z,hz⟩:∃z,q[i+b.length]?=some z:=⟨q[i+b.length],BD (by omega)⟩
   have hz0:z=0:=g6 _ (Af _) _ hz;subst hz0;have hz':=DB hz;have wij:IntKind.i64.wrap ((i:Int)+(b.length:Int))=((i+b.length:Nat):Int):=by rw[wI (by omega) (by omega)];omega
   have wij0:IntKind.i64.wrap ((i:Int)+(((b.map AQ).length:Nat):Int))=((i+b.length:Nat):Int):=by rw[eb];exact wij
   refine By ?_;refine Ak w1 1600 (by kernel_rfl) ?_;refine AD (CH eb wij kN BT hz') ?_;rw[map_set];refine Ak w1 1700 (by kernel_rfl) ?_;refine AT wi ?_;refine⟨(i+1,q.set (i+b.length) c,_),⟨hi,by dsimp only;rw[DZ];exact g3,g4.set g2,?_,λk hk d hd=>?_⟩,by dsimp only;omega,AL⟩
   ·dsimp only
    have hs:=Id (d:=c) hz;rw[B5 (Af _)]at g5;rw[hax,Bl];omega
   ·dsimp only at hk hd
    rw[Hw (by omega)]at hd;exact g6 k (by omega) d hd
 ·have hi:i=a.length:=by
   have:¬i<a.length:=by simpa using h23
   omega
  subst hi;rw[B5 (Af _)]at h4;refine By ?_;refine AC.weak ⟨[(5,.sl false 1 (o.map AQ))],[],_⟩ (Sz h2) ?_;refine sR 1800 ?_;refine A7.same _ (trim_ok o h3 (by omega)) AH ?_;refine BJ ?_;refine Ab ?_;exact AN (by rw[h4]) AA.out
structure GI where
 z:Int
 sm:Bool
def GI.wf (x:GI):Prop:=(x.sm=true→-9223372036854775808<=x.z/\x.z<9223372036854775808)/\(x.sm=false->¬Sm x.z)
def GI.s (x:GI):Int:=match x.sm with
 |true=>x.z
 |false=>if x.z<0 then -1 else 1
def GI.w (x:GI):D:=match x.sm with
 |true=>CK
 |false=>wD x.z.natAbs
abbrev GI.D (x:GI):D:=.agg [i64 x.s,x.w]
theorem pN (x:GI):Bw x.w:=by
 unfold GI.w;split
 ·exact .prim _
 ·exact Je _
instance  (x:GI):AA x.w:=⟨pN x⟩
instance  (z:Int):Decidable (Sm z):=inferInstanceAs (Decidable (_/\_))
def AV (z:Int):GI:=⟨z,decide (Sm z)⟩
theorem CR (z:Int):(AV z).wf:=by
 refine⟨λh=>?_,λh=>?_⟩
 ·have h:Sm z:=Cs h
  exact⟨Int.le_of_lt h.1,h.2⟩
 ·exact C7 h
theorem Ii {z:Int}(h:Sm z):AV z=⟨z,true⟩:=by unfold AV;rw[AZ h]
theorem Sc {z:Int}(h:¬Sm z):AV z=⟨z,false⟩:=by unfold AV;rw[Ad h]
theorem LM {n:Nat}(h0:n≠0)(h:n<BB):Aa n=[n]:=by
 rw[Fc h0,DO h,Gh h,FH]
theorem Gs {n:Nat}(h:n≠0):(Aa n).map AQ≠[]:=by rw[Fc h];simp
theorem ZO (x:GI)(h:x.wf):(x.s<0)=(x.z<0):=by
 obtain⟨z,sm⟩:=x;cases sm with
 |true=>rfl
 |false=>
  unfold GI.s;dsimp only;split<;>simp<;>omega
theorem rz {H Hf:Hp}(n:Nat)(h0:n≠0)(h:n<BB):Fz H Hf (.sl true 1 [AQ n]) (wD n):=by
 unfold wD wL;rw[LM h0 h];exact .nn true 1 _
theorem Y3 {H Hf:Hp}{a b c d:D}(h:Fz H Hf a c)(k:Fz H Hf b d):Fz H Hf (.tup [a,b]) (.tup [c,d]):=.tup rfl λi x y hx hy=>by
 match i with
 | 0=>simp at hx hy;subst hx;subst hy;exact h
 | 1=>simp at hx hy;subst hx;subst hy;exact k
 |i+2=>simp at hx
instance  (a b:Nat):AA (.tup [wD a,wD b]):=AH
theorem iP:AK C0 198 [i64 (-9223372036854775808)] (AQ 9223372036854775808):=B6 DE 1000 40 (by kernel_rfl)
theorem NO {z:Int}(h1 : -9223372036854775808<=z)(h2:z<9223372036854775808):AK C0 198 [i64 z] (AQ z.natAbs):=by
 by_cases h:z = -9223372036854775808
 ·subst h;exact iP
 ·exact kp z ⟨by omega,h2⟩
theorem Ic (x:GI)(h:x.wf):AK C0 199 [x.D] (.tup [Aq (decide (x.z<0)),wD x.z.natAbs]):=by
 refine Ai.walk w1 Yq rfl λF=>?_
 obtain⟨z,sm⟩:=x;obtain⟨h1,h2⟩:=h;unfold GI.D GI.s GI.w;cases sm with
 |true=>
  obtain⟨h3,h4⟩:=h1 rfl;dsimp only at h3 h4⊢;have cs:=NO h3 h4;refine sR 0 ?_;refine AC.seq ?_;refine AC.block ?_;refine sR 100 ?_;refine AI ?_;refine sR 300 ?_;refine AI ?_
  (refine Bn (λh13=>?_) (λh13=>?_))<;>(try simp only[Bc,Bk]at h13)<;>(try simp only[h13])
  ·have hz:z=0:=by simpa using h13
   subst hz;refine sR 400 ?_;refine Ab ?_;refine⟨_,Y3 (.refl _) (c:=Aq (decide ((0:Int)<0))) (d:=wD (Int.natAbs 0)) ?_,AA.out,rfl⟩;show Fz _ _ CK (wD 0);unfold wD wL;rw[FH];exact .nil 1
  ·have hz:z≠0:=by simpa using h13
   refine Aj ?_;refine AC.seq ?_;refine Bx w1 500 [0,1,2,3,4,5,6,7] [8] (by kernel_rfl) ?_;refine AD kN ?_;refine BQ.same _ cs AH ?_;refine BJ ?_;refine Ab ?_;refine⟨_,Y3 (.refl _) (c:=Aq (decide (z<0))) (rz z.natAbs (by omega) (by unfold BB;omega)),AA.out,rfl⟩
 |false=>
  have hb:=h2 rfl;have hs:=ZO ⟨z,false⟩ ⟨h1,h2⟩;unfold GI.s at hs;dsimp only at hb hs⊢;have hne:=Gs (n:=z.natAbs) (by intro h0;apply hb;exact⟨by omega,by omega⟩);have hp:Bw (.sl false 1 ((Aa z.natAbs).map AQ)):=Je _;unfold wD wL;generalize(Aa z.natAbs).map AQ=l at*;generalize(if z<0 then(-1:Int)else 1)=sg at*;refine sR 0 ?_;refine AC.seq ?_;refine AC.block ?_;refine sZ 100 ?_;refine AT (Ar (@ne_eq (List D)) hne D8) ?_;refine AI ?_;refine AC.seq ?_;refine Bx w1 200 [0,1,2,3,4,5] [6] (by kernel_rfl) ?_;refine BJ ?_;refine Ab ?_;refine AN ?_ (.tup λd hd=>?_)
  ·simp only[hs]
  ·simp only[BA,DF,or_false]at hd
   rcases hd with rfl|rfl
   ·exact .prim _
   ·exact hp
def Df (neg:Bool)(n:Nat):Int:=match neg with
 |true=>-(n:Int)
 |false=>n
theorem Kb (neg:Bool)(n:Nat)(hlen:(Aa n).length<4000000):AK C0 200 [Aq neg,wD n] (AV (Df neg n)).D:=by
 refine Ai.walk w1 Yr rfl λF=>?_
 by_cases h0:n=0
 ·subst h0
  have e:AV (Df neg 0)=⟨0,true⟩:=by cases neg<;>exact Ii ⟨by decide,by decide⟩
  rw[e];unfold wD wL GI.D GI.s GI.w;rw[FH];dsimp only[List.map];refine sR 0 ?_;refine AC.seq ?_;refine AC.block ?_;refine sR 100 ?_;refine AI ?_;refine sR 200 ?_;refine Ab ?_;exact AN rfl AA.out
 ·by_cases h1:n<BB
  ·have hl:=LM h0 h1
   have b1:(((1:Nat):Int)==0)=false:=rfl;have b2:(((1:Nat):Int)==1)=true:=rfl;have hx:[AQ n][(0:Int).toNat]?=some (AQ n):=rfl
   by_cases h2:n<=9223372036854775807
   ·have b3:decide ((n:Int)<=9223372036854775807)=true:=AZ (by omega)
    have hsm:Sm (Df neg n):=by unfold Df;split<;>exact⟨by omega,by omega⟩
    rw[Ii hsm];unfold wD wL GI.D GI.s GI.w;rw[hl];dsimp only[List.map];have w1':IntKind.i64.wrap (n:Int)=(n:Int):=wN h2;have w2':IntKind.i64.wrap (0-(n:Int)) = -(n:Int):=by rw[wI (by omega) (by omega)];omega
    cases neg with
    |true=>
     unfold Df;dsimp only;refine sR 0 ?_;refine AC.seq ?_;refine AC.block ?_;refine sZ 100 ?_;refine AT b1 ?_;refine AI ?_;refine sZ 300 ?_;refine AD (Ah b2 b3) ?_;refine AD (Ah b2 b3) ?_;refine Bi b2 hx ?_;refine AD (Ah b2 b3) ?_;refine AD (Ah b2 b3) ?_;refine AI ?_;refine sZ 400 ?_;refine AD b2 ?_;refine Bi b2 hx ?_;refine AD (Ah w1' w2') ?_;refine Ab ?_;exact AN rfl AA.out
    |false=>
     unfold Df;dsimp only;refine sR 0 ?_;refine AC.seq ?_;refine AC.block ?_;refine sZ 100 ?_;refine AT b1 ?_;refine AI ?_;refine sZ 300 ?_;refine AD (Ah b2 b3) ?_;refine AD (Ah b2 b3) ?_;refine Bi b2 hx ?_;refine AD (Ah b2 b3) ?_;refine AD (Ah b2 b3) ?_;refine AI ?_;refine sZ 500 ?_;refine AD (Ah b2 b3) ?_;refine AD (Ah b2 b3) ?_;refine Bi b2 hx ?_;refine AD (Ah b2 b3) ?_;refine AD (Ah b2 b3) ?_;refine AI ?_;refine sZ 600 ?_;refine AD b2 ?_;refine Bi b2 hx ?_;refine AD (Ah w1' w2') ?_;refine Ab ?_;exact AN rfl AA.out
   ·have b3:decide ((n:Int)<=9223372036854775807)=false:=Ad (by omega)
    have hsm:¬Sm (Df neg n):=by
     intro hs;have h3:=hs.1;have h4:=hs.2
     revert h3 h4
     unfold Df;split<;>intro h3 h4<;>omega
    rw[Sc hsm];have ha:(Df neg n).natAbs=n:=by unfold Df;split<;>omega
    unfold GI.D GI.s GI.w;dsimp only;rw[ha];unfold wD wL;rw[hl];dsimp only[List.map];cases neg with
    |true=>
     have hs:(if Df true n<0 then(-1:Int)else 1) = -1:=AF (by show -(n:Int)<0;omega);rw[hs];refine sR 0 ?_;refine AC.seq ?_;refine AC.block ?_;refine sZ 100 ?_;refine AT b1 ?_;refine AI ?_;refine sZ 300 ?_;refine AD (Ah b2 b3) ?_;refine AD (Ah b2 b3) ?_;refine Bi b2 hx ?_;refine AD (Ah b2 b3) ?_;refine AD (Ah b2 b3) ?_;refine AI ?_;refine sZ 500 ?_;refine AD (Ah b2 b3) ?_;refine AD (Ah b2 b3) ?_;refine Bi b2 hx ?_;refine AD (Ah b2 b3) ?_;refine AD (Ah b2 b3) ?_;refine AI ?_;refine sR 700 ?_;refine AI ?_;refine sR 800 ?_;refine Ab ?_;exact AN rfl AA.out
    |false=>
     have hs:(if Df false n<0 then(-1:Int)else 1)=1:=AE (by show ¬(n:Int)<0;omega);rw[hs];refine sR 0 ?_;refine AC.seq ?_;refine AC.block ?_;refine sZ 100 ?_;refine AT b1 ?_;refine AI ?_;refine sZ 300 ?_;refine AD (Ah b2 b3) ?_;refine AD (Ah b2 b3) ?_;refine Bi b2 hx ?_;refine AD (Ah b2 b3) ?_;refine AD (Ah b2 b3) ?_;refine AI ?_;refine sZ 500 ?_;refine AD (Ah b2 b3) ?_;refine AD (Ah b2 b3) ?_;refine Bi b2 hx ?_;refine AD (Ah b2 b3) ?_;refine AD (Ah b2 b3) ?_;refine AI ?_;refine sR 700 ?_;refine AI ?_;refine Aj ?_;refine sR 900 ?_;refine Ab ?_;exact AN rfl AA.out
  ·have hl2:2<=(Aa n).length:=by
    rw[Fc h0,Fc (n:=n/BB) (by
     intro h
     have:=EC n BB
     have:=Bs n (show BB>0 by decide)
     rw[h]at*;omega)]
    simp
   have hsm:¬Sm (Df neg n):=by
    intro hs;have h3:=hs.1;have h4:=hs.2;have h5:BB<=n:=by omega
    unfold BB at h5
    revert h3 h4
    unfold Df;split<;>intro h3 h4<;>omega
   rw[Sc hsm];have ha:(Df neg n).natAbs=n:=by unfold Df;split<;>omega
   have hp:AA (.sl false 1 ((Aa n).map AQ)):=⟨Je _⟩
   unfold GI.D GI.s GI.w;dsimp only;rw[ha];unfold wD wL;have hel:((((Aa n).map AQ).length:Nat):Int)=((Aa n).length:Int):=by rw[An]
   generalize(Aa n).map AQ=l at*;generalize hL:(Aa n).length=L at*;have b1:((L:Int)==0)=false:=Bv.2 (by omega);have b2:((L:Int)==1)=false:=Bv.2 (by omega);cases neg with
   |true=>
    have hs:(if Df true n<0 then(-1:Int)else 1) = -1:=AF (by show -(n:Int)<0;omega);rw[hs];refine sR 0 ?_;refine AC.seq ?_;refine AC.block ?_;refine sZ 100 ?_;refine AT (Ah hel b1) ?_;refine AI ?_;refine sZ 300 ?_;refine AT (Ah hel b2) ?_;refine AD (Ah hel b2) ?_;refine AD (Ah hel b2) ?_;refine AI ?_;refine sZ 500 ?_;refine AT (Ah hel b2) ?_;refine AD (Ah hel b2) ?_;refine AI ?_;refine sR 700 ?_;refine AI ?_;refine sR 800 ?_;refine Ab ?_;exact AN rfl AA.out
   |false=>
    have hs:(if Df false n<0 then(-1:Int)else 1)=1:=AE (by show ¬(n:Int)<0;omega);rw[hs];refine sR 0 ?_;refine AC.seq ?_;refine AC.block ?_;refine sZ 100 ?_;refine AT (Ah hel b1) ?_;refine AI ?_;refine sZ 300 ?_;refine AT (Ah hel b2) ?_;refine AD (Ah hel b2) ?_;refine AD (Ah hel b2) ?_;refine AI ?_;refine sZ 500 ?_;refine AT (Ah hel b2) ?_;refine AD (Ah hel b2) ?_;refine AI ?_;refine sR 700 ?_;refine AI ?_;refine Aj ?_;refine sR 900 ?_;refine Ab ?_;exact AN rfl AA.out
theorem Lw (x:GI)(h:x.wf):AK C0 194 [x.D] (i64 (max (-1) (min 1 x.z))):=by
 refine Ai.walk w1 Ym rfl λF=>?_
 have e:max (-1) (min 1 x.s)=max (-1) (min 1 x.z):=by
  obtain⟨z,sm⟩:=x;cases sm with
  |true=>rfl
  |false=>
   have hb:=h.2 rfl;unfold GI.s;dsimp only at hb⊢;unfold Sm at hb;split<;>omega
 refine fR 0 ?_;refine fR 100 ?_;rw[e];refine Ab ?_;exact AN rfl AA.out
theorem iO (z:Int):Df (!decide (z<0)) z.natAbs = -z:=by
 by_cases h:z<0
 ·rw[AZ h];show((z.natAbs:Nat):Int) = -z;omega
 ·rw[Ad h];show -((z.natAbs:Nat):Int) = -z;omega
def GI.few (x:GI):Prop:=(Aa x.z.natAbs).length<1000000
theorem NX (x:GI)(h:x.wf)(hf:x.few):AK C0 193 [x.D] (AV (-x.z)).D:=by
 by_cases hs:x.sm=true/\x.z ≠ -9223372036854775808
 ·obtain⟨z,sm⟩:=x
  obtain⟨rfl,hz⟩:=hs;have h1:=h.1 rfl;dsimp only at h1 hz⊢;have hsm:Sm z:=⟨by omega,h1.2⟩
  have:=oy z hsm
  rw[Ii ⟨by have:=hsm.2;omega,by have:=hsm.1;omega⟩];exact this
 ·refine Ai.walk w1 SU rfl λF=>?_
  have cp:=Ic x h;have cm:=Kb (!decide (x.z<0)) x.z.natAbs (FS hf (by decide));rw[iO]at cm;have hpr:AA (AV (-x.z)).w:=AH;dsimp only[GI.D]at cp cm⊢;generalize(AV (-x.z)).s=rs at*;generalize(AV (-x.z)).w=rw at*;obtain⟨z,sm⟩:=x;unfold GI.s GI.w at*;cases sm with
  |true=>
   have hz:z = -9223372036854775808:=DG λh0=>hs ⟨rfl,h0⟩
   subst hz;dsimp only at cp cm⊢;refine fR 0 ?_;refine AC.seq ?_;refine sZ 100 ?_
   repeat'(first|(refine And.intro (by exact B0) ?_;refine Ap ?_)|((refine Bn (λhb=>?_) (λhb=>?_))<;>(try simp only[Bc,Bk]at hb)<;>(try simp only[hb])<;>(refine Ap ?_)))
   refine AI ?_;refine Aj ?_;refine fR 300 ?_;refine dI cp ?_;refine fR 400 ?_;refine dI cm ?_;refine Ab ?_;exact AN rfl AA.out
  |false=>
   have hne:=Gs (n:=z.natAbs) (by
    intro h0
    have:=h.2 rfl
    apply this;exact⟨by dsimp only;omega,by dsimp only;omega⟩)
   dsimp only at cp cm⊢;unfold wD wL at*;have hp:AA (.sl false 1 ((Aa z.natAbs).map AQ)):=⟨Je _⟩
   generalize(Aa z.natAbs).map AQ=l at*;generalize(if z<0 then(-1:Int)else 1)=sg at*;generalize decide (z<0)=nb at*;refine fR 0 ?_;refine AC.seq ?_;refine AC.seq ?_;refine Ak w1 100 (by kernel_rfl) ?_;refine AT (Ar (@ne_eq (List D)) hne D8) ?_;refine AD kT ?_;refine AD kT ?_;refine AI ?_;refine Aj ?_;refine fR 300 ?_;refine dI cp ?_;refine fR 400 ?_;refine dI cm ?_;refine Ab ?_;exact AN rfl AA.out
theorem tG (a b:Nat)(ha:(Aa a).length<1000000)(hb:(Aa b).length<1000000):AK C0 202 [wD a,wD b] (wD (a+b)):=by
 have:=jD (Aa a) (Aa b) (Em a) (Em b) (FS ha (by decide)) (FS hb (by decide))
 rwa [EX,EX]at this
theorem aS (a b:Nat)(h:b<=a)(ha:(Aa a).length<1000000):AK C0 204 [wD a,wD b] (wD (a-b)):=by
 have:=jw (Aa a) (Aa b) (Em a) (Em b) (FS ha (by decide)) (Gq b a h) (by rw[EX,EX];exact h)
 rwa [EX,EX]at this
theorem s5 (a b:Nat)(ha:(Aa a).length<1000000)(hb:(Aa b).length<1000000):AK C0 201 [wD a,wD b] (wD (a*b)):=by
 have:=jY (Aa a) (Aa b) (Em a) (Em b) ha hb
 rwa [EX,EX]at this
theorem GP {n k:Nat}(h:n<BB^k):(Aa n).length<=k:=by
 induction k generalizing n with
 |zero=>
  have:n=0:=by simpa using h
  subst this;rw[FH];exact Af _
 |succ k ih=>
  by_cases h0:n=0
  ·subst h0;rw[FH];exact BZ _
  ·rw[Fc h0,Bj]
   exact Nat.succ_le_succ (ih (Eg (by rw[BN,<-B9];exact h)))
theorem Ib (n:Nat):n<BB^(Aa n).length:=by
 have:=Gw (Em n)
 rwa [EX]at this
theorem VV (a b:Nat):(Aa (a+b)).length<=max (Aa a).length (Aa b).length+1:=by
 refine GP ?_;have h1:=Ib a;have h2:=Ib b;have m1:BB^(Aa a).length<=BB^max (Aa a).length (Aa b).length:=Ew (by decide) (Nat.le_max_left _ _);have m2:BB^(Aa b).length<=BB^max (Aa a).length (Aa b).length:=Ew (by decide) (Nat.le_max_right _ _);rw[B9];generalize BB^max (Aa a).length (Aa b).length=q at*;unfold BB;omega
theorem VW (a b:Nat):(Aa (a-b)).length<=(Aa a).length:=Gq _ _ (Nat.sub_le _ _)
def Ds (x y:GI):GI:=if x.sm=true/\y.sm=true/\x.z+y.z = -9223372036854775808 then⟨x.z+y.z,true⟩else AV (x.z+y.z)
theorem Lh (x y:GI):(Ds x y).z=x.z+y.z:=by unfold Ds;split<;>rfl
theorem LW (x y:GI):(Ds x y).wf:=by
 unfold Ds;split
 ·rename_i h
  refine⟨λ_=>?_,λh=>by cases h⟩;dsimp only;rw[h.2.2];decide
 ·exact CR _
theorem dH (x y:GI)(hx:x.sm=true)(hy:y.sm=true)(h1 : -9223372036854775808<=x.z+y.z)(h2:x.z+y.z<9223372036854775808):AK C0 154 [x.D,y.D] (Ds x y).D:=by
 obtain⟨a,sa⟩:=x;obtain⟨b,sb⟩:=y;dsimp only at hx hy h1 h2;subst hx;subst hy;have e:(Ds ⟨a,true⟩ ⟨b,true⟩).D=Cm (a+b):=by
  unfold Ds;dsimp only;split
  ·rfl
  ·rename_i h
   have h3:¬a+b = -9223372036854775808:=λh0=>h ⟨rfl,rfl,h0⟩
   rw[Ii ⟨by omega,h2⟩];rfl
 rw[e];show AK C0 _ [Cm a,Cm b] _;refine Ai.walk w1 SS rfl λF=>?_
 refine fR 0 ?_;refine AC.seq ?_;refine sZ 100 ?_
 repeat'(first|(refine And.intro (by exact B0) ?_;refine Ap ?_)|((refine Bn (λhb=>?_) (λhb=>?_))<;>(try simp only[Bc,Bk]at hb)<;>(try simp only[hb])<;>(refine Ap ?_)))
 refine AI ?_;have e1:IntKind.i64.wrap (a+b)=a+b:=wI (by omega) (by omega);have e2:(decide (a+b>a)==decide (b>0))=true:=by
  rw[Dt,Cn];omega
 refine sZ 200 ?_;refine JH e1 ?_;refine fR 300 ?_;rw[e2];refine AI ?_;refine fR 400 ?_;refine Ab ?_;exact AN rfl AA.out
theorem jC (x y:GI)(hx:x.wf)(hy:y.wf)(fx:x.few)(fy:y.few)(hn:¬(x.sm=true/\y.sm=true∧-9223372036854775808<=x.z+y.z/\x.z+y.z<9223372036854775808)):AK C0 154 [x.D,y.D] (AV (x.z+y.z)).D:=by
 refine Ai.walk w1 SS rfl λF=>?_
 have cx:=Ic x hx;have cy:=Ic y hy;have hpr:AA (AV (x.z+y.z)).w:=AH;have hpx:AA x.w:=AH;have hpy:AA y.w:=AH;have la:=VV x.z.natAbs y.z.natAbs;have ls:=VW x.z.natAbs y.z.natAbs;have ls':=VW y.z.natAbs x.z.natAbs;unfold GI.few at fx fy;dsimp only[GI.D]at*;refine fR 0 ?_;refine EB ⟨[(2,.optr 0 0 2 0 0),(3,.optr 1 1 2 0 0),(4,.optr 2 2 2 0 0)],[⟨2,2,139,2,[Cm 0]⟩,⟨1,1,139,2,[.agg [i64 y.s,y.w]]⟩,⟨0,0,139,2,[.agg [i64 x.s,x.w]]⟩],60⟩ ?_ ?_
 ·obtain⟨a,sa⟩:=x
  obtain⟨b,sb⟩:=y;clear cx cy la ls ls' hpr;have nx:sa=false->(Aa a.natAbs).map AQ≠[]:=λh=>Gs (by
   intro h0;subst h;exact hx.2 rfl ⟨by dsimp only;omega,by dsimp only;omega⟩)
  have ny:sb=false->(Aa b.natAbs).map AQ≠[]:=λh=>Gs (by
   intro h0;subst h;exact hy.2 rfl ⟨by dsimp only;omega,by dsimp only;omega⟩)
  unfold GI.s GI.w wD wL at*;dsimp only at*;generalize(Aa a.natAbs).map AQ=ka at*;generalize(Aa b.natAbs).map AQ=kb at*;cases sa with
  |false=>
   have nx:=nx rfl;dsimp only at*;generalize(if a<0 then(-1:Int)else 1)=sg at*;generalize(match sb with|true=>b|false=>if b<0 then(-1:Int)else 1)=sh at*;generalize(match sb with|true=>CK|false=>D.sl false 1 kb)=wy at*;refine AC.seq ?_;refine Ak w1 100 (by kernel_rfl) ?_;refine AT (Ar (@ne_eq (List D)) nx D8) ?_;refine AD kT ?_;refine AD kT ?_;refine AI ?_;refine Aj ?_;exact And.intro (by trivial) (AL)
  |true=>
   dsimp only at*;cases sb with
   |false=>
    have ny:=ny rfl;dsimp only at*;generalize(if b<0 then(-1:Int)else 1)=sh at*;refine AC.seq ?_;refine Ak w1 100 (by kernel_rfl) ?_;refine AT (Ar (@ne_eq (List D)) ny D8) ?_;refine AD (Ba kT (@ne_eq (List D)) ny D8) ?_;refine AD (Ba kT (@ne_eq (List D)) ny D8) ?_;refine AI ?_;refine Aj ?_;exact And.intro (by trivial) (AL)
   |true=>
    have ra:=hx.1 rfl;have rb:=hy.1 rfl;dsimp only at*;have e2:(decide (IntKind.i64.wrap (a+b)>a)==decide (b>0))=false:=by
     have hov:¬(-9223372036854775808<=a+b/\a+b<9223372036854775808):=λh=>hn ⟨rfl,rfl,h.1,h.2⟩
     have ew:IntKind.i64.wrap (a+b)=a+b-18446744073709551616/\9223372036854775808<=a+b\/IntKind.i64.wrap (a+b)=a+b+18446744073709551616/\a+b < -9223372036854775808:=by
      have e1:(2:Int)^IntKind.i64.bits=18446744073709551616:=rfl;have e2:(2:Int)^(IntKind.i64.bits-1)=9223372036854775808:=rfl;have e3:IntKind.i64.signed=true:=rfl;unfold IntKind.wrap;simp only[e1,e2,e3,Hq,Gl];split<;>omega
     rw[Bv,ne_eq,Cn];omega
    refine sZ 100 ?_
    repeat'(first|(refine And.intro (by exact B0) ?_;refine Ap ?_)|((refine Bn (λhb=>?_) (λhb=>?_))<;>(try simp only[Bc,Bk]at hb)<;>(try simp only[hb])<;>(refine Ap ?_)))
    refine AI ?_;refine fR 200 ?_;refine fR 300 ?_;rw[e2];refine AI ?_;refine Aj ?_;exact And.intro (by trivial) (AL)
 ·refine fR 500 ?_
  refine dI cx ?_;refine fR 600 ?_;refine dI cy ?_;refine AC.seq ?_;refine AC.block ?_;refine fR 700 ?_
  by_cases hs:(decide (x.z<0))=(decide (y.z<0))
  ·have e1:(decide (x.z<0)==decide (y.z<0))=true:=Dt.2 hs
   rw[e1];have ca:=tG x.z.natAbs y.z.natAbs fx fy;have cm:=Kb (decide (x.z<0)) (x.z.natAbs+y.z.natAbs) (by omega);have ez:Df (decide (x.z<0)) (x.z.natAbs+y.z.natAbs)=x.z+y.z:=by
    rw[Cn]at hs
    by_cases h:x.z<0
    ·rw[AZ h];have:=hs.1 h;show -(((x.z.natAbs+y.z.natAbs:Nat)):Int)=_;omega
    ·rw[Ad h];have:¬y.z<0:=λh0=>h (hs.2 h0);show(((x.z.natAbs+y.z.natAbs:Nat)):Int)=_;omega
   rw[ez]at cm;dsimp only[GI.D]at cm;refine AI ?_;refine fR 800 ?_;refine dI ca ?_;refine dI cm ?_;refine Ab ?_;exact AN rfl AA.out
  ·have e1:(decide (x.z<0)==decide (y.z<0))=false:=Bv.2 hs
   rw[e1];have cc:=PM x.z.natAbs y.z.natAbs (by omega) (by omega);refine AI ?_;refine fR 900 ?_;refine dI cc ?_
   by_cases hc:y.z.natAbs<=x.z.natAbs
   ·have e2:decide (Dd (x.z.natAbs:Nat) (y.z.natAbs:Nat)>=0)=true:=AZ (by unfold Dd;split<;>(try split)<;>omega)
    rw[e2];have ca:=aS x.z.natAbs y.z.natAbs hc fx;have cm:=Kb (decide (x.z<0)) (x.z.natAbs-y.z.natAbs) (by omega);have ez:Df (decide (x.z<0)) (x.z.natAbs-y.z.natAbs)=x.z+y.z:=by
     rw[Cn]at hs
     by_cases h:x.z<0
     ·rw[AZ h];have:¬y.z<0:=λh0=>hs ⟨λ_=>h0,λ_=>h⟩;show -(((x.z.natAbs-y.z.natAbs:Nat)):Int)=_;omega
     ·rw[Ad h];have:y.z<0:=DG λh0=>hs ⟨λh1=>Ae h1 h,λh1=>Ae h1 h0⟩;show(((x.z.natAbs-y.z.natAbs:Nat)):Int)=_;omega
    rw[ez]at cm;dsimp only[GI.D]at cm;refine AI ?_;refine fR 1000 ?_;refine dI ca ?_;refine dI cm ?_;refine Ab ?_;exact AN rfl AA.out
   ·have e2:decide (Dd (x.z.natAbs:Nat) (y.z.natAbs:Nat)>=0)=false:=Ad (by unfold Dd;split<;>(try split)<;>omega)
    rw[e2];have ca:=aS y.z.natAbs x.z.natAbs (by omega) fy;have cm:=Kb (decide (y.z<0)) (y.z.natAbs-x.z.natAbs) (by omega);have ez:Df (decide (y.z<0)) (y.z.natAbs-x.z.natAbs)=x.z+y.z:=by
     rw[Cn]at hs
     by_cases h:y.z<0
     ·rw[AZ h];have:¬x.z<0:=λh0=>hs ⟨λ_=>h,λ_=>h0⟩;show -(((y.z.natAbs-x.z.natAbs:Nat)):Int)=_;omega
     ·rw[Ad h];have:x.z<0:=DG λh0=>hs ⟨λh1=>Ae h1 h0,λh1=>Ae h1 h⟩;show(((y.z.natAbs-x.z.natAbs:Nat)):Int)=_;omega
    rw[ez]at cm;dsimp only[GI.D]at cm;refine AI ?_;refine Aj ?_;refine fR 1100 ?_;refine dI ca ?_;refine dI cm ?_;refine Ab ?_;exact AN rfl AA.out
theorem NV (x y:GI)(hx:x.wf)(hy:y.wf)(fx:x.few)(fy:y.few):AK C0 154 [x.D,y.D] (Ds x y).D:=by
 by_cases h:x.sm=true/\y.sm=true∧-9223372036854775808<=x.z+y.z/\x.z+y.z<9223372036854775808
 ·exact dH x y h.1 h.2.1 h.2.2.1 h.2.2.2
 ·have:=jC x y hx hy fx fy h
  have e:Ds x y=AV (x.z+y.z):=by
   unfold Ds;rw[AE];rintro⟨h1,h2,h3⟩;exact h ⟨h1,h2,by omega,by omega⟩
  rw[e];exact this
theorem WV {z:Int}(h:(Aa z.natAbs).length<1000000):(AV (-z)).few:=by
 show(Aa (-z).natAbs).length<1000000;rw[K7];exact h
def Hj (x y:GI):GI:=Ds x (AV (-y.z))
theorem ZU (x y:GI):(Hj x y).z=x.z-y.z:=by unfold Hj;rw[Lh];show x.z + -y.z=_;omega
theorem W5 (x y:GI):(Hj x y).wf:=LW _ _
theorem aF (x y:GI)(hx:x.wf)(hy:y.wf)(fx:x.few)(fy:y.few):AK C0 282 [x.D,y.D] (Hj x y).D:=by
 refine Ai.walk w1 YO rfl λF=>?_
 have c1:=NX y hy fy;have c2:=NV x (AV (-y.z)) hx (CR _) fx (WV fy);unfold Hj;refine fR 0 ?_;refine AC.seq ?_;refine Bx w1 100 [0,1,2] [3,4] (by kernel_rfl) ?_;refine Bz ?_;refine BQ.same _ (c1) AH ?_;refine Bz ?_;refine dI c2 ?_;refine Ab ?_;exact AN rfl AA.out
theorem rV (x y:GI)(hx:x.wf)(hy:y.wf)(fx:x.few)(fy:y.few):AK C0 272 [x.D,y.D] (i64 (Dd x.z y.z)):=by
 by_cases h:x.sm=true/\y.sm=true
 ·obtain⟨a,sa⟩:=x
  obtain⟨b,sb⟩:=y;obtain⟨h1,h2⟩:=h;dsimp only at h1 h2;subst h1;subst h2;exact jM a b
 ·have cs:=aF x y hx hy fx fy
  have cg:=Lw (Hj x y) (W5 x y);rw[ZU]at cg;have e:max (-1) (min 1 (x.z-y.z))=Dd x.z y.z:=by unfold Dd;split<;>(try split)<;>omega
  rw[e]at cg;have hpr:AA (Hj x y).w:=AH;have hpx:AA x.w:=AH;have hpy:AA y.w:=AH;dsimp only[GI.D]at*;generalize(Hj x y).s=rs at*;generalize(Hj x y).w=rw at*;generalize Dd x.z y.z=r at*;refine Ai.walk w1 SW rfl λF=>?_
  obtain⟨a,sa⟩:=x;obtain⟨b,sb⟩:=y;have nx:sa=false->(Aa a.natAbs).map AQ≠[]:=λh=>Gs (by
   intro h0;subst h;exact hx.2 rfl ⟨by dsimp only;omega,by dsimp only;omega⟩)
  have ny:sb=false->(Aa b.natAbs).map AQ≠[]:=λh=>Gs (by
   intro h0;subst h;exact hy.2 rfl ⟨by dsimp only;omega,by dsimp only;omega⟩)
  unfold GI.s GI.w wD wL at*;dsimp only at*;generalize(Aa a.natAbs).map AQ=ka at*;generalize(Aa b.natAbs).map AQ=kb at*;cases sa with
  |false=>
   have nx:=nx rfl;dsimp only at*;generalize(if a<0 then(-1:Int)else 1)=sg at*;generalize(match sb with|true=>b|false=>if b<0 then(-1:Int)else 1)=sh at*;generalize(match sb with|true=>CK|false=>D.sl false 1 kb)=wy at*;refine fR 0 ?_;refine AC.seq ?_;refine AC.seq ?_;refine Ak w1 100 (by kernel_rfl) ?_;refine AT (Ar (@ne_eq (List D)) nx D8) ?_;refine AD kT ?_;refine AD kT ?_;refine AI ?_;refine Aj ?_;refine fR 700 ?_;refine dI cs ?_;refine dI cg ?_;refine Ab ?_;exact AN rfl AA.out
  |true=>
   dsimp only at*;cases sb with
   |false=>
    have ny:=ny rfl;dsimp only at*;generalize(if b<0 then(-1:Int)else 1)=sh at*;refine fR 0 ?_;refine AC.seq ?_;refine AC.seq ?_;refine Ak w1 100 (by kernel_rfl) ?_;refine AT (Ar (@ne_eq (List D)) ny D8) ?_;refine AD (Ba kT (@ne_eq (List D)) ny D8) ?_;refine AD (Ba kT (@ne_eq (List D)) ny D8) ?_;refine AI ?_;refine Aj ?_;refine fR 700 ?_;refine dI cs ?_;refine dI cg ?_;refine Ab ?_;exact AN rfl AA.out
   |true=>exact Ae ⟨rfl,rfl⟩ h
theorem KM (a b:Nat):(Aa (a*b)).length<=(Aa a).length+(Aa b).length:=by
 refine GP ?_;rw[FT];exact Nat.mul_lt_mul'' (Ib a) (Ib b)
theorem iN (a b:Int):Df (decide (a<0) != decide (b<0)) (a.natAbs*b.natAbs)=a*b:=by
 rw[<-MP]
 by_cases h1:a<0<;>by_cases h2:b<0
 ·rw[AZ h1,AZ h2]
  have:0<=a*b:=Int.mul_nonneg_of_nonpos_of_nonpos (by omega) (by omega)
  show(((a*b).natAbs:Nat):Int)=a*b;omega
 ·rw[AZ h1,Ad h2]
  have:a*b<=0:=Int.mul_nonpos_of_nonpos_of_nonneg (by omega) (by omega)
  show -(((a*b).natAbs:Nat):Int)=a*b;omega
 ·rw[Ad h1,AZ h2]
  have:a*b<=0:=Int.mul_nonpos_of_nonneg_of_nonpos (by omega) (by omega)
  show -(((a*b).natAbs:Nat):Int)=a*b;omega
 ·rw[Ad h1,Ad h2]
  have:0<=a*b:=Int.mul_nonneg (by omega) (by omega)
  show(((a*b).natAbs:Nat):Int)=a*b;omega
theorem jX (x y:GI)(hx:x.wf)(hy:y.wf)(fx:(Aa x.z.natAbs).length<400000)(fy:(Aa y.z.natAbs).length<400000)(hn:¬(x.sm=true/\y.sm=true/\(x.z*y.z).natAbs<=9223372036854775807)):AK C0 151 [x.D,y.D] (AV (x.z*y.z)).D:=by
 refine Ai.walk w1 SR rfl λF=>?_
 have cx:=Ic x hx;have cy:=Ic y hy;have hpr:AA (AV (x.z*y.z)).w:=AH;have hpx:AA x.w:=AH;have hpy:AA y.w:=AH;have lm:=KM x.z.natAbs y.z.natAbs;have ca:=s5 x.z.natAbs y.z.natAbs (by omega) (by omega);have cm:=Kb (decide (x.z<0) != decide (y.z<0)) (x.z.natAbs*y.z.natAbs) (by omega);rw[iN]at cm;dsimp only[GI.D]at*;refine fR 0 ?_;refine EB ⟨[(2,.optr 0 0 2 0 0),(3,.optr 1 1 2 0 0),(4,.optr 2 2 2 0 0)],[⟨2,2,139,2,[Cm 0]⟩,⟨1,1,139,2,[.agg [i64 y.s,y.w]]⟩,⟨0,0,139,2,[.agg [i64 x.s,x.w]]⟩],90⟩ ?_ ?_
 ·obtain⟨a,sa⟩:=x
  obtain⟨b,sb⟩:=y;clear cx cy lm ca cm hpr;have nx:sa=false->(Aa a.natAbs).map AQ≠[]:=λh=>Gs (by
   intro h0;subst h;exact hx.2 rfl ⟨by dsimp only;omega,by dsimp only;omega⟩)
  have ny:sb=false->(Aa b.natAbs).map AQ≠[]:=λh=>Gs (by
   intro h0;subst h;exact hy.2 rfl ⟨by dsimp only;omega,by dsimp only;omega⟩)
  unfold GI.s GI.w wD wL at*;dsimp only at*;generalize(Aa a.natAbs).map AQ=ka at*;generalize(Aa b.natAbs).map AQ=kb at*;cases sa with
  |false=>
   have nx:=nx rfl;dsimp only at*;generalize(if a<0 then(-1:Int)else 1)=sg at*;generalize(match sb with|true=>b|false=>if b<0 then(-1:Int)else 1)=sh at*;generalize(match sb with|true=>CK|false=>D.sl false 1 kb)=wy at*;refine AC.seq ?_;refine Ak w1 100 (by kernel_rfl) ?_;refine AT (Ar (@ne_eq (List D)) nx D8) ?_;refine AD kT ?_;refine AD kT ?_;refine AI ?_;refine Aj ?_;exact And.intro (by trivial) (AL)
  |true=>
   dsimp only at*;cases sb with
   |false=>
    have ny:=ny rfl;dsimp only at*;generalize(if b<0 then(-1:Int)else 1)=sh at*;refine AC.seq ?_;refine Ak w1 100 (by kernel_rfl) ?_;refine AT (Ar (@ne_eq (List D)) ny D8) ?_;refine AD (Ba kT (@ne_eq (List D)) ny D8) ?_;refine AD (Ba kT (@ne_eq (List D)) ny D8) ?_;refine AI ?_;refine Aj ?_;exact And.intro (by trivial) (AL)
   |true=>
    have ra:=hx.1 rfl;have rb:=hy.1 rfl;dsimp only at*;have sa:=NO ra.1 ra.2;have sb:=NO rb.1 rb.2;have la:a.natAbs<BB:=by unfold BB;omega
    have lb:b.natAbs<BB:=by unfold BB;omega
    have c0:=M2 a.natAbs b.natAbs la lb;have hab:a.natAbs*b.natAbs=(a*b).natAbs:=(MP a b).symm;have hbig:9223372036854775807<(a*b).natAbs:=DG λh=>hn ⟨rfl,rfl,by omega⟩
    rw[hab]at c0;generalize(a*b).natAbs=p at*;refine sZ 100 ?_
    repeat'(first|(refine And.intro (by exact B0) ?_;refine Ap ?_)|((refine Bn (λhb=>?_) (λhb=>?_))<;>(try simp only[Bc,Bk]at hb)<;>(try simp only[hb])<;>(refine Ap ?_)))
    refine AI ?_;refine AC.seq ?_;refine Bx w1 200 [0,1,2,3,4,5,6,7,8,9,10] [11] (by kernel_rfl) ?_;refine Bz ?_;refine BQ.same _ (sa) AH ?_;refine Bz ?_;refine BQ.same _ (sb) AH ?_;refine Bz ?_;refine BQ.same _ (c0) AH ?_;refine Bz ?_;refine AC.seq ?_
    by_cases h0:p/18446744073709551616=0
    ·rw[h0]
     have h1:p%18446744073709551616=p:=by omega
     rw[h1];have e3:decide ((p:Int)<=9223372036854775807)=false:=Ad (by omega);refine Ak w1 300 (by kernel_rfl) ?_
     repeat'(first|(refine And.intro (by exact B0) ?_;refine Ap ?_)|((refine Bn (λhb=>?_) (λhb=>?_))<;>(try simp only[Bc,Bk]at hb)<;>(try simp only[hb])<;>(refine Ap ?_)))
     rw[e3];refine AI ?_;refine Aj ?_;exact And.intro (by trivial) (AL)
    ·have e3:(((p/18446744073709551616:Nat):Int)==0)=false:=Bv.2 (by omega)
     refine Ak w1 300 (by kernel_rfl) ?_;refine AT e3 ?_;refine AD e3 ?_;refine AD e3 ?_;refine AI ?_;refine Aj ?_;exact And.intro (by trivial) (AL)
 ·refine fR 700 ?_
  refine dI cx ?_;refine fR 800 ?_;refine dI cy ?_;refine fR 900 ?_;refine dI ca ?_;refine dI cm ?_;refine Ab ?_;exact AN rfl AA.out
theorem eO (a b:Int)(hc:Sm (a*b))(ha : -9223372036854775808<=a/\a<9223372036854775808)(hb : -9223372036854775808<=b/\b<9223372036854775808):AK C0 151 [Cm a,Cm b] (Cm (a*b)):=by
 refine Ai.walk w1 SR rfl λF=>?_
 have hab:a.natAbs*b.natAbs=(a*b).natAbs:=(MP a b).symm;have h1:a.natAbs*b.natAbs/18446744073709551616=0:=by rw[hab];have:=hc.1;have:=hc.2;omega
 have h2:a.natAbs*b.natAbs%18446744073709551616=(a*b).natAbs:=by rw[hab];have:=hc.1;have:=hc.2;omega
 have c0:=M2 a.natAbs b.natAbs (by omega) (by omega);rw[h1,h2]at c0;refine fR 0 ?_;refine AC.seq ?_;refine sZ 100 ?_
 repeat'(first|(refine And.intro (by exact B0) ?_;refine Ap ?_)|((refine Bn (λhb=>?_) (λhb=>?_))<;>(try simp only[Bc,Bk]at hb)<;>(try simp only[hb])<;>(refine Ap ?_)))
 refine AI ?_;refine AC.seq ?_;refine Bx w1 200 [0,1,2,3,4,5,6,7,8,9,10] [11] (by kernel_rfl) ?_;refine Bz ?_;refine BQ.same _ (NO ha.1 ha.2) AH ?_;refine Bz ?_;refine BQ.same _ (NO hb.1 hb.2) AH ?_;refine Bz ?_;refine BQ.same _ (c0) AH ?_;refine Bz ?_;refine sZ 300 ?_
 repeat'(first|(refine And.intro (by exact B0) ?_;refine Ap ?_)|((refine Bn (λhb=>?_) (λhb=>?_))<;>(try simp only[Bc,Bk]at hb)<;>(try simp only[hb])<;>(refine Ap ?_)))
 have e3:decide ((((a*b).natAbs:Nat):Int)<=9223372036854775807)=true:=AZ (by have:=hc.1;have:=hc.2;omega);rw[e3];refine AI ?_;refine AC.seq ?_;refine fR 400 ?_;refine AI ?_;have e4:IntKind.i64.wrap (((a*b).natAbs:Nat):Int)=((a*b).natAbs:Nat):=wN (by have:=hc.1;have:=hc.2;omega)
 (refine Bn (λh41=>?_) (λh41=>?_))<;>(try simp only[Bc,Bk]at h41)<;>(try simp only[h41])
 ·have e5:IntKind.i64.wrap (0-(((a*b).natAbs:Nat):Int)) = -((a*b).natAbs:Nat):=by
   rw[wI (by have:=hc.1;have:=hc.2;omega) (by have:=hc.1;have:=hc.2;omega)];omega
  have e6 : -(((a*b).natAbs:Nat):Int)=a*b:=by
   have hs:(a<0)≠(b<0):=by simpa using h41
   have:a*b<=0:=by
    by_cases h1:a<0
    ·have h2:¬b<0:=λh2=>hs (by simp[h1,h2])
     exact Int.mul_nonpos_of_nonpos_of_nonneg (by omega) (by omega)
    ·have h2:b<0:=DG λh2=>hs (by simp[h1,h2])
     exact Int.mul_nonpos_of_nonneg_of_nonpos (by omega) (by omega)
   omega
  refine sZ 500 ?_;refine JH (Ar e4 e5 e6) ?_;refine Ab ?_;exact AN rfl AA.out
 ·have e6:(((a*b).natAbs:Nat):Int)=a*b:=by
   have hs:¬((a<0)≠(b<0)):=by simpa using h41
   have:0<=a*b:=by
    by_cases h1:a<0
    ·have h2:b<0:=DG λh2=>hs (by simp[h1,h2])
     exact Int.mul_nonneg_of_nonpos_of_nonpos (by omega) (by omega)
    ·have h2:¬b<0:=λh2=>hs (by simp[h1,h2])
     exact Int.mul_nonneg (by omega) (by omega)
   omega
  rw[e6]at e4;refine Aj ?_;refine sZ 600 ?_;refine JH (Ah e6 e4) ?_;refine Ab ?_;exact AN rfl AA.out
theorem Zv (x y:GI)(hx:x.wf)(hy:y.wf)(fx:(Aa x.z.natAbs).length<400000)(fy:(Aa y.z.natAbs).length<400000):AK C0 151 [x.D,y.D] (AV (x.z*y.z)).D:=by
 by_cases h:x.sm=true/\y.sm=true/\(x.z*y.z).natAbs<=9223372036854775807
 ·obtain⟨a,sa⟩:=x
  obtain⟨b,sb⟩:=y;obtain⟨h1,h2,h3⟩:=h;dsimp only at h1 h2 h3;subst h1;subst h2;have hs:Sm (a*b):=⟨by omega,by omega⟩
  dsimp only;rw[Ii hs];exact eO a b hs (hx.1 rfl) (hy.1 rfl)
 ·exact jX x y hx hy fx fy h
def Kx (x:GI):GI:=if x.z<0 then AV (-x.z)else x
theorem l5 (x:GI):(Kx x).z=(x.z.natAbs:Nat):=by
 unfold Kx;split
 ·show -x.z=_;omega
 ·omega
theorem jA (x:GI)(h:x.wf):(Kx x).wf:=by
 unfold Kx;split
 ·exact CR _
 ·exact h
theorem Zb (x:GI)(h:x.wf)(hf:x.few):AK C0 239 [x.D] (Kx x).D:=by
 refine Ai.walk w1 YH rfl λF=>?_
 have hs:=ZO x h;have cn:=NX x h hf;have hpx:AA x.w:=AH;have hpr:AA (AV (-x.z)).w:=AH;unfold Kx
 by_cases hz:x.z<0
 ·have e:decide (x.s<0)=true:=AZ (by rw[hs];exact hz)
  rw[AF hz];dsimp only[GI.D]at*;refine fR 0 ?_;refine AC.seq ?_;refine fR 100 ?_;rw[e];refine AI ?_;refine fR 200 ?_;refine dI cn ?_;refine Ab ?_;exact AN rfl AA.out
 ·have e:decide (x.s<0)=false:=Ad (by rw[hs];exact hz)
  rw[AE hz];dsimp only[GI.D]at*;refine fR 0 ?_;refine AC.seq ?_;refine fR 100 ?_;rw[e];refine AI ?_;refine Aj ?_;refine fR 300 ?_;refine Ab ?_;exact AN rfl AA.out
structure KX (B Y u1 u0:Nat)(q r:Nat):Prop where
 eq:q*(Y/B)+r=u1
 up:u1*B+u0<(q+1)*Y
 q2:q<=B+1
theorem Ud {B Y u1 u0:Nat}(hB:0<B)(hY:B*B<=2*Y)(hY2:Y<B*B)(hev:B%2=0)(hu:u1<Y)(h0:u0<B):
  KX B Y u1 u0 (u1/(Y/B)) (u1-u1/(Y/B)*(Y/B))/\u1-u1/(Y/B)*(Y/B)<B:=by
 have e:=EC Y B;have m:=Bs Y hB;generalize hg:Y/B=y1 at*;generalize Y%B=y0 at*;have hy1:y1<B:=by
  rcases BL y1 B with h|h
  ·exact h
  ·have:=CP B h
   omega
 have hy2:B<=2*y1:=by
  rcases BL (2*y1) B with h|h
  ·exfalso
   have h1:2*y1+2<=B:=by omega
   have h2:=CP B h1;have h3:B*(2*y1+2)=2*(B*y1)+2*B:=by
    rw[BH,Ho,BN B 2]
   omega
  ·exact h
 have e1:=EC u1 y1;have m1:=Bs u1 (show 0<y1 by omega);have c1:y1*(u1/y1)=u1/y1*y1:=BN _ _;refine⟨⟨by rw[hg];omega,?_,?_⟩,by omega⟩
 ·generalize hq:u1/y1=q at*
  have h1:u1+1<=(q+1)*y1:=by rw[Bl];omega
  have h2:=B8 B h1;have h3:(q+1)*Y=(q+1)*y1*B+(q+1)*y0:=by
   rw[<-e,BH,BN B y1,Bo]
  rw[Bl]at h2;omega
 ·rcases BL (B+1) (u1/y1)with h|h
  ·exfalso
   have h1:=CP y1 (show B+2<=u1/y1 by omega);have h2:y1*(B+2)=B*y1+2*y1:=by rw[BH,BN y1 B,BN y1 2]
   omega
  ·exact h
theorem Uz {B Y u1 u0 q r:Nat}(hB:0<B)(hu:u1<Y)(h0:u0<B)(I:KX B Y u1 u0 q r)
  (c:B<=q\/B*r+u0<q*(Y%B)):0<q/\KX B Y u1 u0 (q-1) (r+Y/B):=by
 have e:=EC Y B;obtain⟨i1,i2,i3⟩:=I;generalize hg:Y/B=y1 at*;generalize Y%B=y0 at*;have hq:0<q:=by
  rcases c with c|c
  ·omega
  ·rcases DY q with h|h
   ·subst h;omega
   ·exact h
 obtain⟨p,rfl⟩:∃p,q=p+1:=⟨q-1,by omega⟩
 refine⟨hq,⟨?_,?_,?_⟩⟩
 ·rw[Hn,hg,BN p];rw[Bl,BN p]at i1;omega
 ·rw[Hn]
  rcases c with c|c
  ·have h1:=B8 Y c
   have h2:(u1+1)*B<=Y*B:=B8 B hu;rw[Bl]at h2;rw[BN Y B]at h2;omega
  ·have h3:(p+1)*Y=(p+1)*y1*B+(p+1)*y0:=by
    rw[<-e,BH,BN B y1,Bo]
   have h4:u1*B=(p+1)*y1*B+r*B:=by rw[<-i1,Bl]
   rw[BN r B]at h4;omega
 ·omega
theorem RY {B Y u1 u0 q r:Nat}(I:KX B Y u1 u0 q r)
  (c:q*(Y%B)<=B*r+u0):q=(u1*B+u0)/Y:=by
 have e:=EC Y B;obtain⟨i1,i2,i3⟩:=I;have h3:q*Y=q*(Y/B)*B+q*(Y%B):=by
  conv=>lhs;rw[<-e]
  rw[BH,BN B (Y/B),Bo]
 have h4:u1*B=q*(Y/B)*B+r*B:=by rw[<-i1,Bl]
 rw[BN r B]at h4;have h5:0<Y:=by
  rcases DY Y with h|h
  ·subst h;omega
  ·exact h
 symm
 apply Nat.div_eq_of_lt_le
 ·omega
 ·exact i2
theorem Uc {B Y u1 u0 q r:Nat}(hB:0<B)(I:KX B Y u1 u0 q r)(hq:q<=B)(hr:B<=r):
  q=(u1*B+u0)/Y:=by
 refine RY I ?_;have m:=Bs Y hB;have h1:q*(Y%B)<=B*B:=Hz hq (by omega);have h2:=CP B hr;omega
theorem d9 {B N S y u32 u1 u0 v:Nat}(hS:0<S)(hy:0<y)(hN:N*S=u32*(B*B)+(u1*B+u0))(hv:v=(u32*B+u1)%(y*S)):
  (u32*B+u1)/(y*S)*B+(v*B+u0)/(y*S)=N/y/\(v*B+u0)%(y*S)/S=N%y:=by
 have hY0:0<y*S:=Gm hy hS;have e1:=EC (u32*B+u1) (y*S);have e2:=EC (v*B+u0) (y*S);have m2:=Bs (v*B+u0) hY0;rw[<-hv]at e1;have dY:N*S/(y*S)=N/y:=OF _ _ hS;have mY:N*S%(y*S)=N%y*S:=OG _ _ _;generalize(u32*B+u1)/(y*S)=q1 at*;generalize(v*B+u0)/(y*S)=q0 at*;generalize(v*B+u0)%(y*S)=r at*;generalize y*S=Y at*;have hT:N*S=r+Y*(q1*B+q0):=by
  have c1:u32*(B*B)+u1*B=Y*q1*B+v*B:=by
   rw[<-Bo,<-Bl,<-e1,Bl]
  rw[hN,BH,<-Bo Y q1 B];omega
 refine⟨?_,?_⟩
 ·rw[<-dY,hT,Qi _ _ hY0,Gh m2,BT]
 ·rw[hT,Qn,DO m2]at mY
  rw[mY,Nat.mul_div_cancel _ hS]
theorem ip {hi lo y s:Nat}(hs:s<=63)(h1:hi<y)(hlo:lo<18446744073709551616):
  lo/2^(64-s)<2^s/\hi*2^s+lo/2^(64-s)<y*2^s /\
   (hi*18446744073709551616+lo)*2^s=(hi*2^s+lo/2^(64-s))*18446744073709551616+lo*2^s%18446744073709551616:=by
 have hp:0<2^s:=GJ s;have hpp:2^(64-s)*2^s=18446744073709551616:=by
  rw[<-FT,show 64-s+s=64 by omega]
 have hl:lo*2^s/18446744073709551616=lo/2^(64-s):=by
  rw[<-hpp,OF _ _ hp]
 have hl2:lo/2^(64-s)<2^s:=Eg (by rw[hpp];exact hlo);refine⟨hl2,?_,?_⟩
 ·have:(hi+1)*2^s<=y*2^s:=B8 _ h1
  rw[Bl]at this;omega
 ·have e:=EC (lo*2^s) 18446744073709551616
  rw[hl]at e;rw[Bl,Bl,Nat.mul_right_comm];omega
theorem Si {a b s:Nat}(h:b<2^s):(a*2^s) ||| b=a*2^s+b:=by
 rw[BN,Nat.two_pow_add_eq_or_of_lt h]
theorem aA (x:Nat)(hx:x<BB):AK C0 255 [AQ x] (i64 (64-(Lib.bitLen x:Int))):=by
 refine⟨⟨_,_,Tryz.func255,rfl,by kernel_rfl⟩,λY w vs hG hnG hX hvs hr=>?_⟩
 have:=PE hvs hr
 subst this;refine(Tryz.bits_LeadingZeros64 x w (by omega) (by unfold BB at hx;omega)).mono ?_;rintro e w' ⟨rfl,rfl⟩;exact⟨_,_,rfl,.refl _ _,rfl,.prim _⟩
theorem UP {x:Nat}(h0:x≠0)(hx:x<BB):∃s,s<=63/\(64-(Lib.bitLen x:Int))=(s:Nat)/\9223372036854775808<=x*2^s/\x*2^s<18446744073709551616:=by
 obtain⟨h1,h2,h3⟩:=Lib.bitLenAux_bounds 64 x hx h0;have h4:=Lib.bitLen_le x 64 (Af _) hx;have h5:Lib.bitLenAux 64 x=Lib.bitLen x:=rfl;rw[h5]at h1 h2 h3;refine⟨64-Lib.bitLen x,by omega,by omega,?_,?_⟩
 ·have:=B8 (2^(64-Lib.bitLen x)) h2
  rw[<-FT,show Lib.bitLen x-1+(64-Lib.bitLen x)=63 by omega]at this;exact this
 ·have:=(Nat.mul_lt_mul_right (GJ (64-Lib.bitLen x))).2 h3
  rw[<-FT,show Lib.bitLen x+(64-Lib.bitLen x)=64 by omega]at this;exact this
theorem H8 (n:Nat):IntKind.u64.wrap (n:Int)=((n%18446744073709551616:Nat):Int):=by
 have e1:(2:Int)^IntKind.u64.bits=18446744073709551616:=rfl;unfold IntKind.wrap;simp only[e1];have e3:IntKind.u64.signed=false:=rfl;rw[e3];simp only[J6,HF,if_false];omega
theorem Nf (x s:Nat)(hs:s<=63):Jz .u64 (x:Int) (s:Int)=((x*2^s%18446744073709551616:Nat):Int):=by
 have hm:min ((s:Int)).toNat (IntKind.bits .u64)=s:=by
  have:IntKind.bits .u64=64:=rfl
  rw[this];omega
 unfold Jz;rw[hm]
 have:(x:Int)*2^s=((x*2^s:Nat):Int):=by simp
 rw[this];exact H8 _
theorem L8 (x s:Nat)(hs:s<=64):K5 .u64 (x:Int) (s:Int)=((x/2^s:Nat):Int):=by
 have hm:min ((s:Int)).toNat (IntKind.bits .u64)=s:=by
  have:IntKind.bits .u64=64:=rfl
  rw[this];omega
 unfold K5;rw[hm]
 have:(2:Int)^s=((2^s:Nat):Int):=by simp
 rw[this,Int.fdiv_eq_ediv_of_nonneg _ (Int.natCast_nonneg _)];exact(Int.natCast_ediv _ _).symm
theorem QN (a:Nat)(ha:a<18446744073709551616):(BitVec.ofInt (IntKind.bits .u64) (a:Int)).toNat=a:=by
 rw[show IntKind.bits .u64=64 from rfl,BitVec.ofInt_natCast,BitVec.toNat_ofNat];exact DO ha
theorem TZ (a b:Nat)(ha:a<18446744073709551616)(hb:b<18446744073709551616):GT .or .u64 (a:Int) (b:Int)=((a ||| b:Nat):Int):=by
 have h:a ||| b<2^64:=Nat.or_lt_two_pow ha hb;show IntKind.u64.wrap ((BitVec.ofInt (IntKind.bits .u64) (a:Int) ||| BitVec.ofInt (IntKind.bits .u64) (b:Int)).toNat:Int)=_;rw[BitVec.toNat_or,QN a ha,QN b hb,H8];exact congrArg Nat.cast (DO h)
theorem Zc (a:Nat)(ha:a<18446744073709551616):GT .and .u64 (a:Int) 4294967295=((a%4294967296:Nat):Int):=by
 show IntKind.u64.wrap ((BitVec.ofInt (IntKind.bits .u64) (a:Int) &&& BitVec.ofInt (IntKind.bits .u64) ((4294967295:Nat):Int)).toNat:Int)=_;rw[BitVec.toNat_and,QN a ha,QN _ (by decide),H8,show(4294967295:Nat)=2^32-1 from rfl,Nat.and_two_pow_sub_one_eq_mod];exact congrArg Nat.cast (DO (by omega))
theorem So (a b:Nat):IntKind.u64.wrap ((a:Int).tdiv (b:Int))=((a/b%18446744073709551616:Nat):Int):=by
 rw[<-Int.ofNat_tdiv];exact H8 _
theorem ZV {a b:Nat}(h:b<=a)(ha:a<18446744073709551616):IntKind.u64.wrap ((a:Int)-(b:Int))=((a-b:Nat):Int):=by
 rw[<-Int.natCast_sub h,H8];exact congrArg Nat.cast (DO (by omega))
section
variable {C:A0} {B F:AY} {s:St} {rd:Option Nat} {Q:Exit->AY->St->Prop}
theorem af {a b:Code}(S:Nat->St)(h1:AC C B rd F a s (λe F1 s1=>IK (F1=F/\∃n,Wk s1 (S n)) (λe=>Q e F1 s1) e))(h2:∀n,AC C B rd F b (S n) Q):AC C B rd F (.seq a b) s Q:=
 AC.seq (h1.mono λe F1 s1 h=>by
  cases e with
  |normal=>
   obtain⟨h0,n,h3⟩:=(show F1=F/\∃n,Wk s1 (S n)from h)
   rw[h0];exact AC.weak (S n) h3 (h2 n)
  |ret=>exact h
  |exit j=>exact h
  |goto l=>exact h
  |panic c=>exact h
  |outgrown=>exact h)
end
theorem Ld (z:Int):IntKind.u64.wrap z=z%18446744073709551616:=by
 have e1:(2:Int)^IntKind.u64.bits=18446744073709551616:=rfl;unfold IntKind.wrap;simp only[e1];have e3:IntKind.u64.signed=false:=rfl;rw[e3];simp only[J6,HF,if_false]
theorem b8 (a b:Nat)(ha:a<4294967296)(hb:b<4294967296):IntKind.u64.wrap (IntKind.u64.wrap ((a:Int)*4294967296)+(b:Int))=((a*4294967296+b:Nat):Int):=by
 rw[Ld,Ld];omega
theorem VU (a c q Y:Nat)(hY:0<Y)(hY2:Y<18446744073709551616)(hq:q=(a*4294967296+c)/Y):
  IntKind.u64.wrap (IntKind.u64.wrap (IntKind.u64.wrap ((a:Int)*4294967296)+(c:Int))-IntKind.u64.wrap ((q:Int)*(Y:Int)))=(((a*4294967296+c)%Y:Nat):Int):=by
 have e:=EC (a*4294967296+c) Y;have m:=Bs (a*4294967296+c) hY;rw[<-hq,BN Y q]at e;generalize(a*4294967296+c)%Y=v at*;rw[<-FW q Y];generalize q*Y=Q at*;rw[Ld,Ld,Ld,Ld];omega
structure lV (hi lo y s Y u u10:Nat):Prop where
 s63:s<=63
 eY:Y=y*2^s
 big:9223372036854775808<=Y
 Yl:Y<18446744073709551616
 uY:u<Y
 u10l:u10<18446744073709551616
 N:(hi*BB+lo)*2^s=u*18446744073709551616+u10
 e8:Jz .u64 (y:Int) (s:Int)=(Y:Int)
 e9:K5 .u64 (Y:Int) 32=((Y/4294967296:Nat):Int)
 e10:GT .and .u64 (Y:Int) 4294967295=((Y%4294967296:Nat):Int)
 ew:IntKind.u64.wrap (64-(s:Int))=((64-s:Nat):Int)
 e11:GT .or .u64 (Jz .u64 (hi:Int) (s:Int)) (K5 .u64 (lo:Int) ((64-s:Nat):Int))=(u:Int)
 e12:Jz .u64 (lo:Int) (s:Int)=(u10:Int)
 e13:K5 .u64 (u10:Int) 32=((u10/4294967296:Nat):Int)
 e14:GT .and .u64 (u10:Int) 4294967295=((u10%4294967296:Nat):Int)
theorem ii {hi lo y s:Nat}(h1:hi<y)(hlo:lo<BB)(hs:s<=63)(t1:9223372036854775808<=y*2^s)(t2:y*2^s<18446744073709551616):
  ∃Y u u10,lV hi lo y s Y u u10:=by
 obtain⟨m1,m2,m3⟩:=ip hs h1 hlo;have hpos:0<2^s:=GJ s;have hh:hi*2^s<18446744073709551616:=DH (Nat.le_add_right _ _) (FS m2 t2);have hl:lo/2^(64-s)<18446744073709551616:=DH (GH _ _) hlo;refine⟨_,_,_,hs,rfl,t1,t2,m2,Bs _ (by decide),m3,?_,L8 _ 32 (by decide),Zc _ t2,?_,?_,Nf lo s hs,L8 _ 32 (by decide),Zc _ (Bs _ (by decide))⟩
 ·rw[Nf y s hs,DO t2]
 ·rw[wU (by omega) (by omega)];omega
 ·rw[Nf hi s hs,DO hh,L8 lo (64-s) (by omega),TZ _ _ hh hl,Si m1]
theorem Vw (hi lo y:Nat)(h1:hi<y)(hlo:lo<BB)(hy:y<BB):AK C0 254 [AQ hi,AQ lo,AQ y] (.tup [AQ ((hi*BB+lo)/y),AQ ((hi*BB+lo)%y)]):=by
 refine Ai.walk w1 YJ rfl λF=>?_
 have y0:¬(y:Int)=0:=by omega
 have c1:((y:Int)==0)=false:=by simp;omega
 have c2:decide ((y:Int)<=(hi:Int))=false:=Ad (by omega);refine sR 0 ?_;refine AC.seq ?_;refine sZ 100 ?_;refine AT c1 ?_;refine AI ?_;refine Aj ?_;refine AC.seq ?_;refine sZ 300 ?_;refine AT c2 ?_;refine AI ?_;refine Aj ?_;refine AC.seq ?_;refine sR 500 ?_;refine AI ?_
 (refine Bn (λh27=>?_) (λh27=>?_))<;>(try simp only[Bc,Bk]at h27)<;>(try simp only[h27])
 ·have hi0:hi=0:=by simpa using h27
  subst hi0;refine AC.seq ?_;refine Bx w1 600 [0,1,2,3,4,5,6] [7] (by kernel_rfl) ?_;refine BJ ?_;refine Ab ?_;refine AN ?_ AA.out;have l1:lo/y<18446744073709551616:=DH (GH _ _) hlo;rw[So,DO l1,GK,BT];rfl
 ·obtain⟨s,hs,es,t1,t2⟩:=UP (x:=y) (by omega) hy
  have cl:=aA y hy;rw[es]at cl;have ws:IntKind.u64.wrap (s:Int)=(s:Int):=wU (by omega) (by omega);obtain⟨Y,u,u10,L⟩:=ii h1 hlo hs t1 t2;have ew0:(0:Int)<=IntKind.u64.wrap (64-(s:Int)):=by rw[L.ew];omega
  refine Aj ?_;refine sR 700 ?_;refine cI cl ?_;rw[ws];refine sZ 800 ?_;refine AT L.e8 ?_;refine sZ 900 ?_;refine AT L.e9 ?_;refine sZ 1000 ?_;refine AT L.e10 ?_;refine sZ 1100 ?_;refine AD (Ah L.ew L.e11) ?_;refine sZ 1200 ?_;refine AT L.e12 ?_;refine sZ 1300 ?_;refine AT L.e13 ?_;refine sZ 1400 ?_;refine AT L.e14 ?_;have hB:2147483648<=Y/4294967296:=by have:=L.big;omega
  have hB2:Y/4294967296<4294967296:=by have:=L.Yl;omega
  have n0:¬((Y/4294967296:Nat):Int)=0:=by omega
  obtain⟨I0,r0⟩:=Ud (B:=4294967296) (u0:=u10/4294967296) (by decide) (by have:=L.big;omega) L.Yl (by decide) L.uY (by have:=L.u10l;omega);have q0l:=I0.q2;have hu64:u<18446744073709551616:=FS L.uY L.Yl;have hqy:=Nat.div_mul_le_self u (Y/4294967296);have e15:IntKind.u64.wrap ((u:Int).tdiv ((Y/4294967296:Nat):Int))=((u/(Y/4294967296):Nat):Int):=by
   rw[So,DO (by omega)]
  have e16:IntKind.u64.wrap ((u:Int)-IntKind.u64.wrap (((u/(Y/4294967296):Nat):Int)*((Y/4294967296:Nat):Int)))=((u-u/(Y/4294967296)*(Y/4294967296):Nat):Int):=by
   rw[<-FW,H8,DO (by omega),ZV hqy hu64]
  refine sZ 1500 ?_;refine AT e15 ?_;refine sZ 1600 ?_;refine AT e16 ?_;have hu1:u10/4294967296<4294967296:=by have:=L.u10l;omega
  have hy0:Y%4294967296<4294967296:=Bs _ (by decide);generalize hu1e:u10/4294967296=u1 at*;generalize hu0e:u10%4294967296=u0 at*;refine af (λn=>⟨[(2,AQ Y),(6,u64 0),(7,u64 0),(8,AQ s),(9,AQ (Y/4294967296)),(10,AQ (Y%4294967296)),(11,AQ u),(13,AQ u1),(14,AQ u0),(15,AQ ((u*4294967296+u1)/Y))],[],n⟩) ?_ λn=>?_
  ·refine AC.block ?_
   refine Ft (α:=Nat×Nat×Nat) (λp=>⟨[(2,AQ Y),(6,u64 0),(7,u64 0),(8,AQ s),(9,AQ (Y/4294967296)),(10,AQ (Y%4294967296)),(11,AQ u),(13,AQ u1),(14,AQ u0),(15,AQ p.1),(16,AQ p.2.1)],[],p.2.2⟩) (λp=>p.1)
    (λp F'=>F'=F/\KX 4294967296 Y u u1 p.1 p.2.1/\p.2.1<4294967296) (_,_,_)
    ⟨rfl,I0,r0⟩ AL ?_
   rintro⟨q,r,m⟩ F' ⟨rfl,I,hr⟩;dsimp only at I hr⊢;have hq2:=I.q2;refine AC.seq ?_;obtain⟨b,hbt⟩:∃b:Bool,b=decide (4294967296<=q\/4294967296*r+u1<q*(Y%4294967296)):=⟨_,rfl⟩
   refine EB ⟨[(2,AQ Y),(6,u64 0),(7,u64 0),(8,AQ s),(9,AQ (Y/4294967296)),(10,AQ (Y%4294967296)),(11,AQ u),(13,AQ u1),(14,AQ u0),(15,AQ q),(16,AQ r),(78,Aq b)],[],m+30⟩ ?_ ?_
   ·rcases BL q 4294967296 with hq|hq
    ·have e1:decide ((q:Int)>=4294967296)=false:=Ad (by omega)
     have hqy:q*(Y%4294967296)<=4294967295*4294967295:=Hz (by omega) (by omega);have k1:IntKind.u64.wrap ((q:Int)*((Y%4294967296:Nat):Int))=((q*(Y%4294967296):Nat):Int):=by
      rw[<-FW,H8,DO (by omega)]
     have k2:IntKind.u64.wrap (4294967296*(r:Int))=((4294967296*r:Nat):Int):=by rw[wU (by omega) (by omega)];omega
     have k3:IntKind.u64.wrap (((4294967296*r:Nat):Int)+(u1:Int))=((4294967296*r+u1:Nat):Int):=by rw[wU (by omega) (by omega)];omega
     have k4:decide (((q*(Y%4294967296):Nat):Int)>((4294967296*r+u1:Nat):Int))=b:=by
      rw[hbt];exact Cn.2 ⟨λh=>Or.inr (by omega),λh=>by rcases h with h|h<;>omega⟩
     refine Ak w1 1700 (by kernel_rfl) ?_;refine AD e1 ?_;refine AD (CH kF k1 k2 k3 k4) ?_;exact And.intro (by trivial) (AL)
    ·have e1:decide ((q:Int)>=4294967296)=true:=AZ (by omega)
     have hb:b=true:=by rw[hbt];exact AZ (Or.inl hq)
     subst hb;refine Ak w1 1700 (by kernel_rfl) ?_;refine AD e1 ?_;refine AD kT ?_;exact And.intro (by trivial) (AL)
   ·cases b
    ·have hc:=C7 hbt.symm
     have hq:=RY I (by omega);subst hq;refine AI ?_;refine By ?_;exact⟨rfl,_,AL⟩
    ·have hc:=Cs hbt.symm
     obtain⟨hq0,I2⟩:=Uz (by decide) L.uY hu1 I hc;have hq3:=I2.q2;have k1:IntKind.u64.wrap ((q:Int)-1)=((q-1:Nat):Int):=by rw[wU (by omega) (by omega)];omega
     have k2:IntKind.u64.wrap ((r:Int)+((Y/4294967296:Nat):Int))=((r+Y/4294967296:Nat):Int):=by rw[wU (by omega) (by omega)];omega
     refine AI ?_;refine Aj ?_;refine AC.block ?_;refine sZ 1800 ?_;refine AT k1 ?_;refine sZ 1900 ?_;refine AT k2 ?_;refine sR 2000 ?_;refine AI ?_
     (refine Bn (λh85=>?_) (λh85=>?_))<;>(try simp only[Bc,Bk]at h85)<;>(try simp only[h85])
     ·have hq:=Uc (by decide) I2 (by omega) (by have:=Cs h85;omega)
      rw[hq];refine By ?_;exact⟨rfl,_,AL⟩
     ·refine Aj ?_
      refine⟨(q-1,r+Y/4294967296,_),⟨rfl,I2,by have:=C7 h85;dsimp only;omega⟩,by dsimp only;omega,AL⟩
  ·have hY0:0<Y:=by have:=L.big;omega
   have e21:=VU u u1 _ Y hY0 L.Yl rfl;have q1l:(u*4294967296+u1)/Y<4294967296:=by
    refine Eg ?_
    have:(u+1)*4294967296<=Y*4294967296:=B8 _ L.uY
    rw[Bl]at this;omega
   have hvY:(u*4294967296+u1)%Y<Y:=Bs _ hY0;have tr:=d9 (B:=4294967296) (N:=hi*BB+lo) (S:=2^s) (y:=y) (u32:=u) (u1:=u1) (u0:=u0) (v:=(u*4294967296+u1)%Y) (GJ s) (by omega) (by rw[L.N];omega) (by rw[L.eY]);rw[<-L.eY]at tr;clear e15 e16 I0 r0 q0l hqy;obtain⟨q1,hq1e⟩:∃x,x=(u*4294967296+u1)/Y:=⟨_,rfl⟩
   rw[<-hq1e]at e21 q1l tr⊢;obtain⟨v,hve⟩:∃x,x=(u*4294967296+u1)%Y:=⟨_,rfl⟩
   rw[<-hve]at e21 hvY tr;have hu0:u0<4294967296:=by rw[<-hu0e];exact Bs _ (by decide)
   obtain⟨J0,s0⟩:=Ud (B:=4294967296) (u0:=u0) (by decide) (by have:=L.big;omega) L.Yl (by decide) hvY hu0;have q0l:=J0.q2;have hv64:v<18446744073709551616:=FS hvY L.Yl;have hqy:=Nat.div_mul_le_self v (Y/4294967296);have e22:IntKind.u64.wrap ((v:Int).tdiv ((Y/4294967296:Nat):Int))=((v/(Y/4294967296):Nat):Int):=by
    rw[So,DO (by omega)]
   have e23:IntKind.u64.wrap ((v:Int)-IntKind.u64.wrap (((v/(Y/4294967296):Nat):Int)*((Y/4294967296:Nat):Int)))=((v-v/(Y/4294967296)*(Y/4294967296):Nat):Int):=by
    rw[<-FW,H8,DO (by omega),ZV hqy hv64]
   refine sZ 2100 ?_;refine AT e21 ?_;refine sZ 2200 ?_;refine AT e22 ?_;refine sZ 2300 ?_;refine AT e23 ?_;refine af (λn=>⟨[(2,AQ Y),(6,u64 0),(7,u64 0),(8,AQ s),(9,AQ (Y/4294967296)),(10,AQ (Y%4294967296)),(11,AQ u),(13,AQ u1),(14,AQ u0),(15,AQ q1),(17,AQ v),(18,AQ ((v*4294967296+u0)/Y))],[],n⟩) ?_ λn=>?_
   ·refine AC.block ?_
    refine Ft (α:=Nat×Nat×Nat) (λp=>⟨[(2,AQ Y),(6,u64 0),(7,u64 0),(8,AQ s),(9,AQ (Y/4294967296)),(10,AQ (Y%4294967296)),(11,AQ u),(13,AQ u1),(14,AQ u0),(15,AQ q1),(17,AQ v),(18,AQ p.1),(16,AQ p.2.1)],[],p.2.2⟩) (λp=>p.1)
     (λp F'=>F'=F/\KX 4294967296 Y v u0 p.1 p.2.1/\p.2.1<4294967296) (_,_,_)
     ⟨rfl,J0,s0⟩ AL ?_
    rintro⟨q,r,m⟩ F' ⟨rfl,I,hr⟩;dsimp only at I hr⊢;have hq2:=I.q2;refine AC.seq ?_;obtain⟨b,hbt⟩:∃b:Bool,b=decide (4294967296<=q\/4294967296*r+u0<q*(Y%4294967296)):=⟨_,rfl⟩
    refine EB ⟨[(2,AQ Y),(6,u64 0),(7,u64 0),(8,AQ s),(9,AQ (Y/4294967296)),(10,AQ (Y%4294967296)),(11,AQ u),(13,AQ u1),(14,AQ u0),(15,AQ q1),(17,AQ v),(18,AQ q),(16,AQ r),(113,Aq b)],[],m+30⟩ ?_ ?_
    ·rcases BL q 4294967296 with hq|hq
     ·have e1:decide ((q:Int)>=4294967296)=false:=Ad (by omega)
      have hqy:q*(Y%4294967296)<=4294967295*4294967295:=Hz (by omega) (by omega);have k1:IntKind.u64.wrap ((q:Int)*((Y%4294967296:Nat):Int))=((q*(Y%4294967296):Nat):Int):=by
       rw[<-FW,H8,DO (by omega)]
      have k2:IntKind.u64.wrap (4294967296*(r:Int))=((4294967296*r:Nat):Int):=by rw[wU (by omega) (by omega)];omega
      have k3:IntKind.u64.wrap (((4294967296*r:Nat):Int)+(u0:Int))=((4294967296*r+u0:Nat):Int):=by rw[wU (by omega) (by omega)];omega
      have k4:decide (((q*(Y%4294967296):Nat):Int)>((4294967296*r+u0:Nat):Int))=b:=by
       rw[hbt];exact Cn.2 ⟨λh=>Or.inr (by omega),λh=>by rcases h with h|h<;>omega⟩
      refine Ak w1 2400 (by kernel_rfl) ?_;refine AD e1 ?_;refine AD (CH kF k1 k2 k3 k4) ?_;exact And.intro (by trivial) (AL)
     ·have e1:decide ((q:Int)>=4294967296)=true:=AZ (by omega)
      have hb:b=true:=by rw[hbt];exact AZ (Or.inl hq)
      subst hb;refine Ak w1 2400 (by kernel_rfl) ?_;refine AD e1 ?_;refine AD kT ?_;exact And.intro (by trivial) (AL)
    ·cases b
     ·have hc:=C7 hbt.symm
      have hq:=RY I (by omega);subst hq;refine AI ?_;refine By ?_;exact⟨rfl,_,AL⟩
     ·have hc:=Cs hbt.symm
      obtain⟨hq0,I2⟩:=Uz (by decide) hvY hu0 I hc;have hq3:=I2.q2;have k1:IntKind.u64.wrap ((q:Int)-1)=((q-1:Nat):Int):=by rw[wU (by omega) (by omega)];omega
      have k2:IntKind.u64.wrap ((r:Int)+((Y/4294967296:Nat):Int))=((r+Y/4294967296:Nat):Int):=by rw[wU (by omega) (by omega)];omega
      refine AI ?_;refine Aj ?_;refine AC.block ?_;refine sZ 2500 ?_;refine AT k1 ?_;refine sZ 2600 ?_;refine AT k2 ?_;refine sR 2700 ?_;refine AI ?_
      (refine Bn (λh120=>?_) (λh120=>?_))<;>(try simp only[Bc,Bk]at h120)<;>(try simp only[h120])
      ·have hq:=Uc (by decide) I2 (by omega) (by have:=Cs h120;omega)
       rw[hq];refine By ?_;exact⟨rfl,_,AL⟩
      ·refine Aj ?_
       refine⟨(q-1,r+Y/4294967296,_),⟨rfl,I2,by have:=C7 h120;dsimp only;omega⟩,by dsimp only;omega,AL⟩
   ·have e28:=VU v u0 _ Y hY0 L.Yl rfl
    have hm28:(v*4294967296+u0)%Y<Y:=Bs _ hY0;have q2l:(v*4294967296+u0)/Y<4294967296:=by
     refine Eg ?_
     have:(v+1)*4294967296<=Y*4294967296:=B8 _ hvY
     rw[Bl]at this;omega
    have k1:=b8 q1 ((v*4294967296+u0)/Y) q1l q2l;have k2:=L8 ((v*4294967296+u0)%Y) s (by omega);rw[tr.1]at k1;rw[tr.2]at k2;refine sZ 2800 ?_;refine AD (Ar k1 e28 k2) ?_;refine Ab ?_;exact AN rfl AA.out
theorem UI {n2 v1 P U V q:Nat}(hU:U<(n2+1)*P)(hV:v1*P<=V)(hq:n2+1<=(q+1)*v1):U<(q+1)*V:=by
 have h1:=B8 P hq;have h2:=CP (q+1) hV;rw[Bo]at h1;omega
theorem Ui {n3 D P U V q:Nat}(hU:U<(n3+1)*P)(hV:D*P<=V)(hq:n3<q*D):U<q*V:=by
 have h1:=B8 P (show n3+1<=q*D from hq);have h2:=CP q hV;rw[Bo]at h1;omega
theorem VR {n3 D P U V q B v:Nat}(hU:n3*P<=U)(hV:V=D*P+v)(hv:v<P)(hq:q*D<=n3)(hqB:q<=B)(hD:B<=D):q*V<=U+V:=by
 have h1:=B8 P hq;rw[Bo]at h1;have h2:q*v<=B*P:=Hz hqB (by omega);have h3:=B8 P hD;have h4:q*V=q*(D*P)+q*v:=by rw[hV,BH]
 omega
theorem Uf {c x s:Nat}(hs:s<=63)(hc:c<2^s)(hx:x<18446744073709551616):
  c |||(x*2^s%18446744073709551616)=c+x*2^s%18446744073709551616/\c+x*2^s%18446744073709551616<18446744073709551616 /\
   c+x*2^s%18446744073709551616+18446744073709551616*(x/2^(64-s))=c+x*2^s/\x/2^(64-s)<2^s:=by
 have hp:0<2^s:=GJ s;have hpp:2^(64-s)*2^s=18446744073709551616:=by
  rw[<-FT,show 64-s+s=64 by omega]
 have hl:x*2^s/18446744073709551616=x/2^(64-s):=by
  rw[<-hpp,OF _ _ hp]
 have hm:x*2^s%18446744073709551616=x%2^(64-s)*2^s:=by
  rw[<-hpp,OG]
 have hl2:x/2^(64-s)<2^s:=Eg (by rw[hpp];exact hx);have e:=EC (x*2^s) 18446744073709551616;rw[hl]at e;have ho:c |||(x*2^s%18446744073709551616)=c+x*2^s%18446744073709551616:=by
  rw[hm,Nat.or_comm,Si hc,J7]
 have hlt:c+x*2^s%18446744073709551616<18446744073709551616:=by
  rw[hm]
  have:(x%2^(64-s)+1)*2^s<=2^(64-s)*2^s:=B8 _ (Bs _ (GJ _))
  rw[hpp,Bl]at this;omega
 exact⟨ho,hlt,by omega,hl2⟩
structure QC (w out:List Nat)(s i c:Nat):Prop where
 le:i<=w.length
 len:out.length=w.length+1
 wd:Wd out
 val:AS out=AS (w.take i)*2^s
 at_:out[i]?=some c
 cl:c<2^s
 zero:∀k,i<k->∀d,out[k]?=some d->d=0
theorem kD {w out:List Nat}{s i c x:Nat}(hs:s<=63)(hw:Wd w)(hi:i<w.length)(hx:w[i]?=some x)(I:QC w out s i c):
  QC w ((out.set i (c+x*2^s%18446744073709551616)).set (i+1) (x/2^(64-s))) s (i+1) (x/2^(64-s)):=by
 have hxl:x<BB:=hw x (A8 hx);obtain⟨_,d2,d3,d4⟩:=Uf hs I.cl hxl;obtain⟨z,hz⟩:∃z,out[i+1]?=some z:=⟨out[i+1]'(by have:=I.len;omega),BD _⟩
 have hz0:=I.zero _ (Gi i) z hz;subst hz0;have s1:=Id (d:=c+x*2^s%18446744073709551616) I.at_;have hz1:(out.set i (c+x*2^s%18446744073709551616))[i+1]?=some 0:=by rw[Hw (by omega)];exact hz
 have s2:=Id (d:=x/2^(64-s)) hz1;have hbx:AS (w.take (i+1))=AS (w.take i)+BB^i*x:=by rw[El hx,F6 (i:=i) (by rw[Bg];omega)]
 have hhi:x/2^(64-s)<BB:=DH (GH _ _) hxl;refine⟨by omega,by rw[DZ,DZ];exact I.len,(I.wd.set d2).set hhi,?_,?_,d4,λk hk d hd=>?_⟩
 ·have e1:BB^(i+1)*(x/2^(64-s))=BB^i*(18446744073709551616*(x/2^(64-s))):=by rw[B9,Bo]
  have e2:BB^i*(c+x*2^s%18446744073709551616+18446744073709551616*(x/2^(64-s)))=BB^i*(c+x*2^s):=by rw[d3]
  rw[BH,BH _ c (x*2^s)]at e2;rw[hbx,Bl,<-I.val,Bo];omega
 ·rw[Tj (by rw[DZ];have:=I.len;omega)]
 ·rw[Hw (by omega),Hw (by omega)]at hd
  exact I.zero k (by omega) d hd
def Up (w:List Nat)(s:Nat)(H:Hp)(n:Nat)(d:D)(H':Hp)(n':Nat):Prop:=
 ∃(out:List Nat) (g:Nat),out.length=w.length+1/\Wd out/\AS out=AS w*2^s/\d=.osl 103 g 1 0 (w.length+1)/\H'=⟨103,g,225,1,out.map AQ⟩::H/\n<=n'
theorem U3 (w:List Nat)(s:Nat)(hs:s<=63)(hw:Wd w)(hl:w.length<4000000)(H:Hp)(n:Nat):CQ C0 256 [wL w,i64 s] H n (Up w s H n):=by
 refine CQ.walk w1 YK rfl λF=>?_
 unfold wL;have ew:(((w.map AQ).length:Nat):Int)=(w.length:Int):=by rw[An]
 have wl:IntKind.i64.wrap ((w.length:Int)+1)=((w.length+1:Nat):Int):=by rw[wI (by omega) (by omega)];omega
 have r3:List.replicate (w.length+1) (ofV (.int .u64 0))=(List.replicate (w.length+1) 0).map AQ:=by rw[I8];rfl
 refine sR 0 ?_;refine sZ 100 ?_;refine AT (Ar ew wl kN) ?_;refine AC.seq ?_;refine sZ 200 ?_;refine AT ew ?_;obtain⟨g,hg⟩:∃g,g=n+1+1+1+1:=⟨_,rfl⟩
 rw[<-hg];have I0:QC w (List.replicate (w.length+1) 0) s 0 0:=⟨BZ _,by simp,LT _,by simp[AS,Oe],by simp,GJ s,λk _ d hd=>N8 (A8 hd)⟩
 refine AC.weak ⟨[(0,.sl false 1 (w.map AQ)),(1,i64 s),(4,CK),(5,.osl 103 g 1 0 (w.length+1)),(12,.sl false 1 (w.map AQ)),(13,i64 w.length),(14,i64 0)],⟨103,g,225,1,(List.replicate (w.length+1) 0).map AQ⟩::H,n+30⟩ (by rw[<-r3];exact AL) ?_;refine AC.block ?_;refine AC.loop (α:=Nat×Nat×List Nat×Nat) (λp=>⟨[(0,.sl false 1 (w.map AQ)),(1,i64 s),(4,CK),(5,.osl 103 g 1 0 (w.length+1)),(12,.sl false 1 (w.map AQ)),(13,i64 w.length),(14,i64 p.1)],⟨103,g,225,1,p.2.2.1.map AQ⟩::H,p.2.2.2⟩) (λp=>w.length-p.1)
  (λp=>QC w p.2.2.1 s p.1 p.2.1/\n<=p.2.2.2) (0,0,List.replicate (w.length+1) 0,n+30)
  ⟨I0,Nat.le_add_right _ _⟩ AL ?_
 rintro⟨i,c,o,m⟩ F ⟨I,hm⟩;dsimp only at I hm⊢;refine sR 300 ?_;refine AC.seq ?_;refine AI ?_
 (refine Bn (λh15=>?_) (λh15=>?_))<;>(try simp only[Bc,Bk]at h15)<;>(try simp only[h15])
 ·have hi:i<w.length:=by simpa using h15
  obtain⟨x,hx⟩:∃x,w[i]?=some x:=⟨w[i],BD hi⟩
  have hx':=DB hx;have hc':=DB I.at_;have hxl:x<BB:=hw x (A8 hx);obtain⟨d1,d2,d3,d4⟩:=Uf hs I.cl hxl;have J:=kD hs hw hi hx I;have e5:GT .or .u64 (c:Int) (Jz .u64 (x:Int) (s:Int))=((c+x*2^s%18446744073709551616:Nat):Int):=by
   rw[Nf x s hs,TZ _ _ (by omega) (Bs _ (by decide)),d1]
  refine Aj ?_;refine AC.seq ?_;refine AC.block ?_;refine sR 400 ?_;refine Bi kT hx' ?_;refine BJ ?_;refine AC.seq ?_;refine Bx w1 500 [0,1,2,3,4,5,6] [7,8,9] (by kernel_rfl) ?_;refine AD (Ba e5 kN BT hc') ?_;refine Dm rfl rfl ?_;refine Lq rfl rfl rfl hc' ?_;refine AD @map_set ?_;refine AC.seq ?_;obtain⟨z,hz⟩:∃z,o[i+1]?=some z:=⟨o[i+1]'(by have:=I.len;omega),BD _⟩
  have hz0:=I.zero _ (Gi i) z hz;subst hz0;have hz1:(o.set i (c+x*2^s%18446744073709551616))[i+1]?=some 0:=by rw[Hw (by omega)];exact hz
  have hz':=DB hz1;have wi:IntKind.i64.wrap ((i:Int)+1)=((i+1:Nat):Int):=wI (by omega) (by omega);rcases DY s with hs0|hs0
  ·have e1:decide ((s:Int)>0)=false:=Ad (by omega)
   have hx0:x/2^(64-s)=0:=by rw[hs0];exact Gh hxl
   have hset:(o.set i (c+x*2^s%18446744073709551616)).set (i+1) 0=o.set i (c+x*2^s%18446744073709551616):=by
    refine N7 λk=>?_
    rcases Nat.decEq (i+1) k with hk|hk
    ·rw[Hw hk]
    ·subst hk
     rw[Tj (by have:=(List.getElem?_eq_some_iff.1 hz1).1;exact this),hz1]
   rw[hx0,hset]at J;refine Ak w1 600 (by kernel_rfl) ?_;refine AT e1 ?_;refine AI ?_;refine Aj ?_;refine Ak w1 800 (by kernel_rfl) ?_;refine AT wi ?_;refine⟨(i+1,0,o.set i (c+x*2^s%18446744073709551616),m+200),⟨J,by dsimp only;omega⟩,by dsimp only;omega,AL⟩
  ·have e1:decide ((s:Int)>0)=true:=AZ (by omega)
   have w64:IntKind.i64.wrap (64-(s:Int))=((64-s:Nat):Int):=by rw[wI (by omega) (by omega)];omega
   have w640:(0:Int)<=IntKind.i64.wrap (64-(s:Int)):=by rw[w64];omega
   have e36:=L8 x (64-s) (by omega);refine Ak w1 600 (by kernel_rfl) ?_;refine AT e1 ?_;refine AI ?_;refine Ak w1 700 (by kernel_rfl) ?_;refine AD (EU wi w64 e36 kN BT hz') ?_
   try rw[map_set]
   refine Ak w1 800 (by kernel_rfl) ?_;refine AT wi ?_;refine⟨(i+1,x/2^(64-s),(o.set i (c+x*2^s%18446744073709551616)).set (i+1) (x/2^(64-s)),m+200),⟨J,by dsimp only;omega⟩,by dsimp only;omega,AL⟩
 ·have hi:i=w.length:=by
   have:¬i<w.length:=by simpa using h15
   have:=I.le
   omega
  subst hi;have hv:=I.val;rw[B5 (Af _)]at hv;refine By ?_;refine sR 900 ?_;refine Ab ?_;exact⟨o,g,I.len,I.wd,hv,rfl,rfl,by omega⟩
section
variable {C:A0} {B F:AY} {s:St} {rd:Option Nat} {Q:Exit->AY->St->Prop}
theorem Cj {a b:Code}{α:Type}(S:α->St)(J:α->Prop)(h1:AC C B rd F a s (λe F1 s1=>IK (F1=F/\∃x,J x/\Wk s1 (S x)) (λe=>Q e F1 s1) e))(h2:∀x,J x->AC C B rd F b (S x) Q):AC C B rd F (.seq a b) s Q:=
 AC.seq (h1.mono λe F1 s1 h=>by
  cases e with
  |normal=>
   obtain⟨h0,x,hx,h3⟩:=(show F1=F/\∃x,J x/\Wk s1 (S x)from h)
   rw[h0];exact AC.weak (S x) h3 (h2 x hx)
  |ret=>exact h
  |exit j=>exact h
  |goto l=>exact h
  |panic c=>exact h
  |outgrown=>exact h)
end
theorem dR {q v c:Nat}(hq:q<BB)(hv:v<BB)(hc:c<BB):
  (q*v%BB+c)%BB+BB*(q*v/BB+(q*v%BB+c)/BB)=q*v+c/\q*v/BB+(q*v%BB+c)/BB<BB:=by
 have hqv:q*v<=(18446744073709551616-1)*(18446744073709551616-1):=Hz (by unfold BB at hq;omega) (by unfold BB at hv;omega);have hk:(18446744073709551616-1)*(18446744073709551616-1)=340282366920938463426481119284349108225:=by decide
 rw[hk]at hqv;generalize q*v=p at*;have e1:=ET p BB;have e2:=ET (p%BB+c) BB;have l1:=Bs p (show BB>0 by decide);have l2:=Bs (p%BB+c) (show BB>0 by decide);unfold BB at*;generalize p/18446744073709551616=A at*;generalize p%18446744073709551616=D at*;generalize(D+c)/18446744073709551616=E at*;generalize(D+c)%18446744073709551616=G at*;omega
theorem CG {l:List Nat}{i:Nat}(h:i<l.length):∃a,l[i]?=some a:=⟨l[i],BD h⟩
theorem TT {l:List Nat}{k a:Nat}(hl:l.length=k+1)(ha:l[k]?=some a):AS l=AS (l.take k)+BB^k*a:=by
 rw[Jf ha,Gj (by omega)];simp[AS]
theorem tz {l:List Nat}{k a b:Nat}(hl:l.length=k+2)(ha:l[k]?=some a)(hb:l[k+1]?=some b):AS l=AS (l.take k)+BB^k*(a+BB*b):=by
 rw[Jf ha]
 have:l.drop (k+1)=[b]:=by
  rw[D9 (by omega),Gj (by omega)]
  congr 1
  exact(List.getElem?_eq_some_iff.1 hb).2
 rw[this];simp[AS]
theorem uA {l:List Nat}{k a b c:Nat}(hl:l.length=k+3)(ha:l[k]?=some a)(hb:l[k+1]?=some b)(hc:l[k+2]?=some c):AS l=AS (l.take k)+BB^k*(a+BB*(b+BB*c)):=by
 rw[Jf ha];have h1:=TT (l:=l.drop (k+1)) (k:=1) (a:=c) (by rw[Dj];omega) (by rw[Gk,ED];exact hc);have h2:(l.drop (k+1)).take 1=[b]:=by
  rw[D9 (by omega)];simp only[List.take_succ_cons,MR]
  congr 1
  exact(List.getElem?_eq_some_iff.1 hb).2
 rw[h1,h2];simp[AS]
structure Lf (P v:List Nat)(m p0 p1 p2 v2 v1:Nat):Prop where
 lP:P.length=m+3
 lv:v.length=m+2
 wP:Wd P
 wv:Wd v
 h0:P[m]?=some p0
 h1:P[m+1]?=some p1
 h2:P[m+2]?=some p2
 g2:v[m]?=some v2
 g1:v[m+1]?=some v1
 top:0<v1
 less:AS P<AS v*BB
namespace Lf
variable {P v:List Nat} {m p0 p1 p2 v2 v1:Nat} (S:Lf P v m p0 p1 p2 v2 v1)
include S
theorem valP:AS P=AS (P.take m)+BB^m*(p0+BB*(p1+BB*p2)):=uA S.lP S.h0 S.h1 S.h2
theorem valv:AS v=AS (v.take m)+BB^m*(v2+BB*v1):=tz S.lv S.g2 S.g1
theorem lowP:AS (P.take m)<BB^m:=by
 have:=Gw (S.wP.take m)
 rwa [Bg,Ei (by have:=S.lP;omega)]at this
theorem lowv:AS (v.take m)<BB^m:=by
 have:=Gw (S.wv.take m)
 rwa [Bg,Ei (by have:=S.lv;omega)]at this
theorem p0l:p0<BB:=S.wP _ (A8 S.h0)
theorem p1l:p1<BB:=S.wP _ (A8 S.h1)
theorem p2l:p2<BB:=S.wP _ (A8 S.h2)
theorem v1l:v1<BB:=S.wv _ (A8 S.g1)
theorem v2l:v2<BB:=S.wv _ (A8 S.g2)
theorem below3:AS P<(p0+BB*(p1+BB*p2)+1)*BB^m:=by
 rw[S.valP,Bl,IV,BN (BB^m)]
 have:=S.lowP
 omega
theorem below2:AS P<(p1+BB*p2+1)*BB^(m+1):=by
 have h:=S.below3;have h1:=S.p0l;generalize p1+BB*p2=t at*;have h2:(p0+BB*t+1)*BB^m<=(BB*(t+1))*BB^m:=B8 _ (by rw[BH BB t 1];omega);have h3:(t+1)*BB^(m+1)=(BB*(t+1))*BB^m:=by rw[B9,BN (BB^m) BB,<-Bo,BN (t+1) BB]
 omega
theorem abovev:v1*BB^(m+1)<=AS v:=by
 rw[S.valv,B9,BH]
 have:v1*(BB^m*BB)=BB^m*(BB*v1):=by rw[BN v1,Bo]
 omega
theorem abovev2:(v2+BB*v1)*BB^m<=AS v:=by
 rw[S.valv,BN];omega
theorem pos:0<AS v:=CM (Gm S.top (Nat.pow_pos (by decide))) S.abovev
theorem p2v1:p2<=v1:=by
 rcases BL v1 p2 with h|h
 ·exfalso
  have e1:BB^(m+2)*p2<=AS P:=by
   rw[S.valP,BH,BH,BH]
   have:BB^(m+2)*p2=BB^m*(BB*(BB*p2)):=by rw[B9,B9,Bo,Bo]
   omega
  have e2:AS v<BB^(m+1)*(v1+1):=by
   have h1:=S.lowv;have h2:=S.v2l;have e3:BB^(m+1)*(v1+1)=BB^m*(BB*v1+BB):=by rw[B9,Bo,BH,Du]
   have e4:BB^m*(v2+BB*v1+1)<=BB^m*(BB*v1+BB):=CP _ (by omega);rw[BH _ _ 1,Du]at e4;rw[S.valv,e3];omega
  have e5:BB^(m+1)*(v1+1)*BB=BB^(m+2)*(v1+1):=by rw[Nat.mul_right_comm,<-B9]
  have e6:BB^(m+2)*(v1+1)<=BB^(m+2)*p2:=CP _ h;have e7:(AS v)*BB<=BB^(m+1)*(v1+1)*BB:=B8 _ (JC e2)
  have:=S.less
  omega
 ·exact h
end Lf
theorem eX {B q v2 r c p0:Nat}(hq:q<B)(hv:v2<B)(h:0<c\/q*v2<=r*B+p0):q*v2<=(r+B*c)*B+p0:=by
 rcases h with h|h
 ·have h2:q*v2<=B*B:=Hz (by omega) (by omega)
  have h4:B*1<=B*c:=CP _ h;have h3:B*B<=(r+B*c)*B:=B8 _ (by omega);omega
 ·have h3:r*B<=(r+B*c)*B:=B8 _ (by omega)
  omega
structure Km (U V n2 v1 q r c:Nat):Prop where
 eq:q*v1+(r+BB*c)=n2
 up:U<(q+1)*V
 qB:q<BB
 rB:r<BB
 c1:c<=1
section
variable {P v:List Nat} {m p0 p1 p2 v2 v1:Nat} (S:Lf P v m p0 p1 p2 v2 v1)
include S
theorem eZ (h:v1<=p2):Km (AS P) (AS v) (p1+BB*p2) v1 18446744073709551615 ((p1+v1+0)%BB) ((p1+v1+0)/BB):=by
 have h1:p2=v1:=Nat.le_antisymm S.p2v1 h;have h2:=S.less;have h3:=S.p1l;have h4:=S.v1l;have e:=ET (p1+v1+0) BB;refine⟨?_,?_,by decide,Bs _ (by decide),?_⟩
 ·rw[e,h1]
  show 18446744073709551615*v1+(p1+v1+0)=p1+18446744073709551616*v1;omega
 ·rw[BN];exact h2
 ·have:p1+v1+0<2*BB:=by omega
  exact MY (Eg (by rw[BN];exact this))
theorem bq (h:p2<v1):Km (AS P) (AS v) (p1+BB*p2) v1 ((p2*BB+p1)/v1) ((p2*BB+p1)%v1) 0:=by
 have c0:p2*BB+p1=p1+BB*p2:=by rw[BN,J7]
 rw[c0];have e:=EC (p1+BB*p2) v1;have l:=Bs (p1+BB*p2) S.top;have h3:=S.p1l;have h4:=S.v1l;have c1:=BN v1 ((p1+BB*p2)/v1);refine⟨by omega,UI S.below2 S.abovev ?_,?_,by omega,by decide⟩
 ·rw[Bl];omega
 ·refine Eg ?_
  have:BB*(p2+1)<=BB*v1:=CP _ h
  rw[BH]at this;rw[BN v1];omega
theorem cj {q r:Nat}(G:Km (AS P) (AS v) (p1+BB*p2) v1 q r 0)(h:r*BB+p0<q*v2):
  0<q/\Km (AS P) (AS v) (p1+BB*p2) v1 (q-1) ((r+v1+0)%BB) ((r+v1+0)/BB):=by
 obtain⟨e,u,b,rb,_⟩:=G;rcases DY q with h0|h0
 ·subst h0;omega
 obtain⟨k,rfl⟩:∃k,q=k+1:=⟨q-1,by omega⟩
 have e1:=ET (r+v1+0) BB;have h4:=S.v1l;have e2:(k+1)*(v2+BB*v1)=(k+1)*v2+BB*((k+1)*v1):=by rw[BH,Ho]
 have hn3:p0+BB*(p1+BB*p2)<(k+1)*(v2+BB*v1):=by
  rw[e2,<-e,BH BB,EE,DJ r,BN BB r];omega
 refine⟨by omega,⟨?_,?_,by omega,Bs _ (by decide),?_⟩⟩
 ·rw[Hn,e1,<-e,Bl];omega
 ·rw[Hn];exact Ui S.below3 S.abovev2 hn3
 ·have:r+v1+0<2*BB:=by omega
  exact MY (Eg (by rw[BN];exact this))
theorem UY {q r c:Nat}(G:Km (AS P) (AS v) (p1+BB*p2) v1 q r c)(h:0<c\/q*v2<=r*BB+p0):q*AS v<=AS P+AS v:=by
 obtain⟨e,u,b,rb,c1⟩:=G;have h5:=S.v2l;have hq:q*v2<=(r+BB*c)*BB+p0:=eX b h5 h;have e2:q*(v2+BB*v1)=q*v2+BB*(q*v1):=by rw[BH,Ho]
 refine VR (n3:=p0+BB*(p1+BB*p2)) (D:=v2+BB*v1) (P:=BB^m) (B:=BB) (v:=AS (v.take m)) ?_ ?_ S.lowv ?_ (by omega) ?_
 ·rw[S.valP,BN];omega
 ·rw[S.valv,BN];omega
 ·rw[e2,<-e,BH BB]
  have:BB*(r+BB*c)=(r+BB*c)*BB:=BN _ _
  omega
 ·have:=S.top
  have h1:=CP BB (show 1<=v1 from this);omega
end
theorem ck {x r p0:Nat}(hp:p0<BB):(x/BB<r\/x/BB=r/\x%BB<=p0)↔x<=r*BB+p0:=by
 have e:=EC x BB;have l:=Bs x (show 0<BB by decide);generalize x/BB=h at*;generalize x%BB=d at*;unfold BB at*;omega
theorem Re {U V q N:Nat}(h:N+q*V=U+0)(hu:U<(q+1)*V):U/V=q/\U%V=N:=by
 have h1:U=N+V*q:=by rw[BN];omega
 have h2:N<V:=by rw[Bl]at hu;omega
 subst h1;exact⟨by rw[Qi _ _ (by omega),Gh h2,BT],by rw[Qn,DO h2]⟩
theorem VG {U V q N N3 T c:Nat}(h:N+q*V=U+T)(hN:N<T)(hu:q*V<=U+V)(h3:N3+T*c=N+V)(hc:c<=1)(h3l:N3<T):0<q/\U/V=q-1/\U%V=N3:=by
 rcases DY q with h0|h0
 ·subst h0;omega
 obtain⟨k,rfl⟩:∃k,q=k+1:=⟨q-1,by omega⟩
 rw[Bl,IV]at h hu;have hc1:c=1:=by
  rcases DY c with h4|h4
  ·subst h4;omega
  ·omega
 subst hc1;have h5:N3+k*V=U+0:=by omega
 have h6:U<(k+1)*V:=by rw[Bl];omega
 obtain⟨a,b⟩:=Re h5 h6;exact⟨by omega,by rw[a];omega,b⟩
theorem bO {A P v:List Nat}{q i z x d b c b' c' lo:Nat}(hz:A[i]?=some z)(hx:v[i]?=some x)(hI:AS A+q*AS (v.take i)=AS P+BB^i*(c+b))
  (h1:lo+BB*c'=q*x+c) (h2:d+lo+b=z+BB*b'):AS (A.set i d)+q*AS (v.take (i+1))=AS P+BB^(i+1)*(c'+b'):=by
 have hs:=Id (d:=d) hz;have hi:i<v.length:=(List.getElem?_eq_some_iff.1 hx).1;rw[El hx,F6 (i:=i) (by rw[Bg];omega),BH,Ho q,B9,Bo];have e:BB^i*(d+q*x+(c+b))=BB^i*(z+BB*(c'+b')):=by congr 1;rw[BH BB];omega
 rw[BH,BH,BH (BB^i) z]at e;omega
theorem bP {A P:List Nat}{i z d X b c b':Nat}(hz:A[i]?=some z)(hI:AS A+X=AS P+BB^i*(c+b))(h2:d+c+b=z+BB*b'):AS (A.set i d)+X=AS P+BB^(i+1)*b':=by
 have hs:=Id (d:=d) hz;rw[B9,Bo];have e:BB^i*(d+(c+b))=BB^i*(z+BB*b'):=by congr 1;omega
 rw[BH,BH (BB^i) z]at e;omega
theorem bB {A P v:List Nat}{i z x c:Nat}(hz:A[i]?=some z)(hx:v[i]?=some x)(hI:AS A+BB^i*c=AS P+AS (v.take i)):
  AS (A.set i ((z+x+c)%BB))+BB^(i+1)*((z+x+c)/BB)=AS P+AS (v.take (i+1)):=by
 have hs:=Id (d:=(z+x+c)%BB) hz;have hi:i<v.length:=(List.getElem?_eq_some_iff.1 hx).1;rw[El hx,F6 (i:=i) (by rw[Bg];omega),B9,Bo];have e:BB^i*((z+x+c)%BB+BB*((z+x+c)/BB))=BB^i*(z+x+c):=by rw[ET]
 rw[BH,BH,BH (BB^i) z]at e;omega
theorem bE {A:List Nat}{i z c X:Nat}(hz:A[i]?=some z)(hI:AS A+BB^i*c=X):
  AS (A.set i ((z+c)%BB))+BB^(i+1)*((z+c)/BB)=X:=by
 have hs:=Id (d:=(z+c)%BB) hz;rw[B9,Bo];have e:BB^i*((z+c)%BB+BB*((z+c)/BB))=BB^i*(z+c):=by rw[ET]
 rw[BH,BH (BB^i) z]at e;omega
theorem Kg {A P Z:List Nat}{i z:Nat}(h:P[i]?=some z):((A++(P++Z)).map AQ)[A.length+i]?=some (AQ z):=by
 have hi:i<P.length:=(List.getElem?_eq_some_iff.1 h).1;refine DB ?_;rw[Ex (by omega),J3,Fw hi];exact h
theorem Pd {A P Z:List Nat}{i d:Nat}(hi:i<P.length):((A++(P++Z)).map AQ).set (A.length+i) (AQ d)=(A++(P.set i d++Z)).map AQ:=by
 rw[map_set,OE _ _ (by omega),J3,List.set_append_left _ _ hi]
set_option maxHeartbeats 2000000
def iz (A P Z v:List Nat)(gq Tq gu:Nat)(qs:List D)(d:D)(H':Hp)(_:Nat):Prop:=
 ∃P':List Nat,P'.length=P.length/\Wd P'/\AS P'=AS P%AS v/\d=AQ (AS P/AS v)/\H'=[⟨1505,gq,Tq,1,qs⟩,⟨103,gu,225,1,(A++(P'++Z)).map AQ⟩]
theorem jv (A P Z v:List Nat)(m p0 p1 p2 v2 v1:Nat)(S:Lf P v m p0 p1 p2 v2 v1)(hm:A.length+m<4000000)(gq Tq gu:Nat)(qs:List D)(n:Nat):
  CQ C0 257 [.osl 103 gu 1 A.length (m+3),wL v] [⟨1505,gq,Tq,1,qs⟩,⟨103,gu,225,1,(A++(P++Z)).map AQ⟩] n (iz A P Z v gq Tq gu qs):=by
 refine CQ.walk w1 YL rfl λF=>?_
 unfold wL;have hPl:=S.lP;have hvl:=S.lv;have ev:(((v.map AQ).length:Nat):Int)=((m+2:Nat):Int):=by rw[An,hvl]
 have k1:IntKind.i64.wrap (((m+2:Nat):Int)-1)=((m+1:Nat):Int):=by rw[wI (by omega) (by omega)];omega
 have k2:IntKind.i64.wrap (((m+2:Nat):Int)-2)=(m:Int):=by rw[wI (by omega) (by omega)];omega
 have hp0:=Kg (A:=A) (Z:=Z) S.h0;have hp1:=Kg (A:=A) (Z:=Z) S.h1;have hp2:=Kg (A:=A) (Z:=Z) S.h2;have hv1:=DB S.g1;have hv2:=DB S.g2;have l0:=S.p0l;have l1:=S.p1l;have l2:=S.p2l;have lv1:=S.v1l;have lv2:=S.v2l;refine sR 0 ?_;refine sZ 100 ?_;refine AT ev ?_;refine sR 200 ?_;refine sR 300 ?_;refine Cj (α:=Nat×Nat×Nat×Nat) (λp=>⟨[(0,.osl 103 gu 1 A.length (m+3)),(1,.sl false 1 (v.map AQ)),(5,i64 ((m+2:Nat):Int)),(6,AQ p.1),(7,AQ p.2.1),(8,AQ p.2.2.1)],[⟨1505,gq,Tq,1,qs⟩,⟨103,gu,225,1,(A++(P++Z)).map AQ⟩],p.2.2.2⟩)
  (λp=>Km (AS P) (AS v) (p1+BB*p2) v1 p.1 p.2.1 p.2.2.1) ?_ ?_
 ·refine AC.seq ?_
  refine Bx w1 400 [0,1,2,3,4,5,6,7,8] [9] (by kernel_rfl) ?_;refine AD (Ar kN k1 hp2) ?_;refine Bi kT hv1 ?_;refine AD (Ar kN k1 hp2) ?_;rcases BL p2 v1 with h|h
  ·have e1:decide ((p2:Int)>=(v1:Int))=false:=Ad (by omega)
   have G:=bq S h;rw[e1];refine AI ?_;refine Bx w1 700 [0,1,2,3,4,5,6,7,8,9,10,11,12,13,14,15,16,17,18] [19] (by kernel_rfl) ?_;refine AD (Ba kN k1 hp2 hp1) ?_;refine Bi kT hv1 ?_;refine AD (Ba kN k1 hp2 hp1) ?_;refine BQ.same _ (Vw p2 p1 v1 h l1 lv1) AH ?_;refine BJ ?_;exact⟨trivial,⟨(p2*BB+p1)/v1,(p2*BB+p1)%v1,0,_⟩,G,AL⟩
  ·have e1:decide ((p2:Int)>=(v1:Int))=true:=AZ (by omega)
   have G:=eZ S h;rw[e1];refine AI ?_;refine sR 500 ?_;refine Bx w1 600 [0,1,2,3,4,5,6,7,8,9,10,11,12,13,14] [15] (by kernel_rfl) ?_;refine AD (Ba kN k1 hp2 hp1) ?_;refine Bi kT hv1 ?_;refine AD (Ba kN k1 hp2 hp1) ?_;exact⟨trivial,⟨18446744073709551615,(p1+v1+0)%BB,(p1+v1+0)/BB,_⟩,G,AL⟩
 rintro⟨q0,r0,c0,n0⟩ G0;dsimp only at G0⊢;refine Cj (α:=Nat×Nat) (λp=>⟨[(0,.osl 103 gu 1 A.length (m+3)),(1,.sl false 1 (v.map AQ)),(5,i64 ((m+2:Nat):Int)),(6,AQ p.1)],[⟨1505,gq,Tq,1,qs⟩,⟨103,gu,225,1,(A++(P++Z)).map AQ⟩],p.2⟩)
  (λp=>p.1<BB/\AS P<(p.1+1)*AS v/\p.1*AS v<=AS P+AS v) ?_ ?_
 ·refine AC.block ?_
  refine Ft (α:=Nat×Nat×Nat×Nat) (λp=>⟨[(0,.osl 103 gu 1 A.length (m+3)),(1,.sl false 1 (v.map AQ)),(5,i64 ((m+2:Nat):Int)),(6,AQ p.1),(7,AQ p.2.1),(8,AQ p.2.2.1)],[⟨1505,gq,Tq,1,qs⟩,⟨103,gu,225,1,(A++(P++Z)).map AQ⟩],p.2.2.2⟩)
   (λp=>p.1) (λp F'=>F'=F/\Km (AS P) (AS v) (p1+BB*p2) v1 p.1 p.2.1 p.2.2.1) (q0,r0,c0,n0) ⟨rfl,G0⟩ AL ?_
  rintro⟨q,r,c,n1⟩ F' ⟨rfl,G⟩;dsimp only at G⊢;refine AC.seq ?_;refine AC.seq ?_;rcases DY c with hc|hc
  ·subst hc
   have e8:(((0:Nat):Int)==0)=true:=rfl;refine Ak w1 800 (by kernel_rfl) ?_;refine AT e8 ?_;refine AI ?_;refine Aj ?_;refine AC.block ?_;have lq:=G.qB;have cm:=M2 q v2 lq lv2;refine sZ 900 ?_;refine AD (Ah kN k2) ?_;refine Bi kT hv2 ?_;refine AD (Ah kN k2) ?_;refine A7.same _ cm AH ?_;refine BJ ?_;have ht:=ck (x:=q*v2) (r:=r) l0;obtain⟨b,hb⟩:∃b:Bool,b=decide (q*v2<=r*BB+p0):=⟨_,rfl⟩
   refine AC.seq ?_;refine EB ⟨[(0,.osl 103 gu 1 A.length (m+3)),(1,.sl false 1 (v.map AQ)),(5,i64 ((m+2:Nat):Int)),(6,AQ q),(7,AQ r),(91,Aq b)],[⟨1505,gq,Tq,1,qs⟩,⟨103,gu,225,1,(A++(P++Z)).map AQ⟩],n1+100⟩ ?_ ?_
   ·change(q*v2/18446744073709551616<r\/q*v2/18446744073709551616=r/\q*v2%18446744073709551616<=p0)↔_ at ht
    generalize q*v2/18446744073709551616=hi at*;generalize q*v2%18446744073709551616=lo at*;rcases BL hi r with h|h
    ·have e1:decide ((hi:Int)<(r:Int))=true:=AZ (by omega)
     have hb1:b=true:=by rw[hb];exact AZ (ht.1 (.inl h))
     subst hb1;refine Ak w1 1000 (by kernel_rfl) ?_;refine AD e1 ?_;refine AD kT ?_;exact And.intro (by trivial) (AL)
    ·have e1:decide ((hi:Int)<(r:Int))=false:=Ad (by omega)
     rcases Nat.eq_or_lt_of_le h with h2|h2
     ·have e2:((hi:Int)==(r:Int))=true:=Dt.2 (by omega)
      have e3:decide ((lo:Int)<=(p0:Int))=b:=by
       rw[hb];exact Cn.2 ⟨λh3=>ht.1 (.inr ⟨h2.symm,by omega⟩),λh3=>by rcases ht.2 h3 with h4|h4<;>omega⟩
      refine Ak w1 1000 (by kernel_rfl) ?_;refine AD e1 ?_;refine AD (Ah kF e2) ?_;refine AD (EU kF e2 kN k2 hp0 e3) ?_;exact And.intro (by trivial) (AL)
     ·have e2:((hi:Int)==(r:Int))=false:=Bv.2 (by omega)
      have hb1:b=false:=by rw[hb];exact Ad λh3=>by rcases ht.2 h3 with h4|h4<;>omega
      subst hb1;refine Ak w1 1000 (by kernel_rfl) ?_;refine AD e1 ?_;refine AD kF ?_;simp only[e2];refine AD (Ah kF HF) ?_;exact And.intro (by trivial) (AL)
   ·cases b
    ·have hn:=C7 hb.symm
     obtain⟨hq0,G2⟩:=cj S G (by omega);have j1:IntKind.u64.wrap ((q:Int)-1)=((q-1:Nat):Int):=by rw[wU (by omega) (by have:=G.qB;unfold BB at this;omega)];omega
     refine AI ?_;refine Aj ?_;refine sZ 1100 ?_;refine AT j1 ?_;refine Ak w1 1200 (by kernel_rfl) ?_;refine AD (Ah kN k1) ?_;refine Bi kT hv1 ?_;refine AD (Ah kN k1) ?_;exact⟨(q-1,(r+v1+0)%BB,(r+v1+0)/BB,_),⟨trivial,G2⟩,by dsimp only;omega,AL⟩
    ·have hn:=Cs hb.symm
     refine AI ?_;refine By ?_;exact⟨rfl,⟨q,_⟩,⟨G.qB,G.up,UY S G (.inr hn)⟩,AL⟩
  ·have e8:((c:Int)==0)=false:=Bv.2 (by omega)
   refine Ak w1 800 (by kernel_rfl) ?_;refine AT e8 ?_;refine AI ?_;refine By ?_;exact⟨rfl,⟨q,_⟩,⟨G.qB,G.up,UY S G (.inl hc)⟩,AL⟩
 rintro⟨q,n1⟩ ⟨hq,hup,hdn⟩;dsimp only at hq hup hdn⊢;clear hp0 hp1 hp2;refine sR 1300 ?_;refine AC.seq ?_;refine sR 1400 ?_;refine AC.block ?_;refine AC.loop (α:=Nat×Nat×Nat×List Nat×Nat) (λp=>⟨[(0,.osl 103 gu 1 A.length (m+3)),(1,.sl false 1 (v.map AQ)),(5,i64 ((m+2:Nat):Int)),(6,AQ q),(11,AQ p.2.1),(12,AQ p.2.2.1),(104,i64 ((m+2:Nat):Int)),(105,i64 p.1)],[⟨1505,gq,Tq,1,qs⟩,⟨103,gu,225,1,(A++(p.2.2.2.1++Z)).map AQ⟩],p.2.2.2.2⟩) (λp=>m+2-p.1)
  (λp=>p.1<=m+2/\p.2.1<=1/\p.2.2.1<BB/\p.2.2.2.1.length=m+3/\Wd p.2.2.2.1/\AS p.2.2.2.1+q*AS (v.take p.1)=AS P+BB^p.1*(p.2.2.1+p.2.1)) (0,0,0,P,_) ⟨BZ _,BZ _,(show 0<BB by decide),hPl,S.wP,by simp[AS]⟩ AL ?_
 rintro⟨i,b,c,p,n2⟩ F ⟨hi,hb,hc,hpl,hpw,hI⟩;dsimp only at hi hb hc hpl hpw hI⊢;have hv1':=hv1;clear hv1 hv2;refine sR 1500 ?_;refine AC.seq ?_;refine AI ?_
 (refine Bn (λhlt=>?_) (λhlt=>?_))<;>(try simp only[Bc,Bk]at hlt)<;>(try simp only[hlt])
 ·have hi2:i<m+2:=by
   have:=Cs hlt
   omega
  obtain⟨x,hx⟩:=CG (l:=v) (i:=i) (by omega);have hx':=DB hx;have hxl:x<BB:=S.wv x (A8 hx);obtain⟨z,hz⟩:=CG (l:=p) (i:=i) (by omega);have hz':=Kg (A:=A) (Z:=Z) hz;have hzl:z<BB:=hpw z (A8 hz);have cm:=M2 q x hq hxl;have md:=dR hq hxl hc;obtain⟨h,l,lo,k,c',eh,el,elo,ek,ec,hlo,hc',hmd⟩:∃h l lo k c',q*x/18446744073709551616=h/\q*x%18446744073709551616=l/\(l+c+0)%18446744073709551616=lo/\(l+c+0)/18446744073709551616=k/\h+k=c'/\lo<BB/\c'<BB/\lo+BB*c'=q*x+c:=
   ⟨_,_,_,_,_,rfl,rfl,rfl,rfl,rfl,Bs _ (by decide),md.2,md.1⟩
  rw[eh,el]at cm;have j1:IntKind.u64.wrap ((h:Int)+(k:Int))=(c':Int):=by rw[<-Int.natCast_add,ec];exact Ts hc'
  have hsub:=Rv (a:=z) (b:=lo) hb;have hdig:=Rg hzl hlo hb;have hb':(if z<lo+b then 1 else 0)<=1:=by split<;>decide
  have hd:(z+BB-lo-b)%BB<BB:=Bs _ (by decide);generalize(if z<lo+b then 1 else 0)=b' at*;generalize(z+BB-lo-b)%BB=d at*;have wi:IntKind.i64.wrap ((i:Int)+1)=((i+1:Nat):Int):=wI (by omega) (by omega);refine Aj ?_;refine AC.seq ?_;refine AC.block ?_;refine sR 1600 ?_;refine sZ 1700 ?_;refine AD kN ?_;refine Bi kT hx' ?_;refine AD kN ?_;refine A7.same _ cm AH ?_;refine BJ ?_;refine sR 1800 ?_;refine sZ 1900 ?_;refine AT (Ah elo ek) ?_;refine sZ 2000 ?_;refine AT j1 ?_;refine Ak w1 2100 (by kernel_rfl) ?_;refine AD (Ah kN hz') ?_
  first|(refine Dm rfl rfl ?_;refine PU rfl rfl (hsub) ?_)|(refine EH rfl rfl ?_;refine NG rfl rfl (hsub) ?_)
  refine AD (Ah kN hz') ?_;rw[Pd (by omega)];refine Ak w1 2200 (by kernel_rfl) ?_;refine AT wi ?_;exact⟨(i+1,b',c',p.set i d,_),⟨hi2,hb',hc',by dsimp only;rw[DZ];exact hpl,hpw.set hd,bO hz hx hI hmd hdig⟩,by dsimp only;omega,AL⟩
 ·have hi2:i=m+2:=by
   have:=C7 hlt
   omega
  subst hi2;rw[B5 (by omega)]at hI;obtain⟨z,hz⟩:=CG (l:=p) (i:=m+2) (by omega);have hz':=Kg (A:=A) (Z:=Z) hz;have hzl:z<BB:=hpw z (A8 hz);have hsub:=Rv (a:=z) (b:=c) hb;have hdig:=Rg hzl hc hb;have hb':(if z<c+b then 1 else 0)<=1:=by split<;>decide
  have hd:(z+BB-c-b)%BB<BB:=Bs _ (by decide);generalize(if z<c+b then 1 else 0)=b' at*;generalize(z+BB-c-b)%BB=d at*;have hT:=bP hz hI hdig;have hml:m+2<p.length:=by omega
  refine By ?_;refine sZ 2300 ?_;refine AD (Ah kN hz') ?_
  first|(refine Dm rfl rfl ?_;refine PU rfl rfl (hsub) ?_)|(refine EH rfl rfl ?_;refine NG rfl rfl (hsub) ?_)
  refine AD (Ah kN hz') ?_;rw[Pd hml];have hpl2:(p.set (m+2) d).length=m+3:=by rw[DZ];exact hpl
  have hpw2:=hpw.set (i:=m+2) hd;clear hz' hz hdig hsub hI;generalize p.set (m+2) d=p2 at*;refine AC.seq ?_;refine AC.seq ?_;rcases DY b' with hb0|hb0
  ·subst hb0
   have e24:(((0:Nat):Int)==0)=true:=rfl;obtain⟨ed,em⟩:=Re hT hup;refine Ak w1 2400 (by kernel_rfl) ?_;refine AT e24 ?_;refine AI ?_;refine sR 2500 ?_;refine Ab ?_;exact⟨p2,by omega,hpw2,em.symm,by rw[ed],rfl⟩
  ·have hb1:b'=1:=by omega
   subst hb1;have e24:(((1:Nat):Int)==0)=false:=rfl;have hpL:=Gw hpw2;rw[hpl2]at hpL;refine Ak w1 2400 (by kernel_rfl) ?_;refine AT e24 ?_;refine AI ?_;refine Aj ?_;refine sR 2600 ?_;refine AC.seq ?_;refine sR 2700 ?_;refine AC.block ?_;refine AC.loop (α:=Nat×Nat×List Nat×Nat) (λp=>⟨[(0,.osl 103 gu 1 A.length (m+3)),(1,.sl false 1 (v.map AQ)),(5,i64 ((m+2:Nat):Int)),(6,AQ q),(17,AQ p.2.1),(156,i64 ((m+2:Nat):Int)),(157,i64 p.1)],[⟨1505,gq,Tq,1,qs⟩,⟨103,gu,225,1,(A++(p.2.2.1++Z)).map AQ⟩],p.2.2.2⟩) (λp=>m+2-p.1)
    (λp=>p.1<=m+2/\p.2.1<=1/\p.2.2.1.length=m+3/\Wd p.2.2.1/\AS p.2.2.1+BB^p.1*p.2.1=AS p2+AS (v.take p.1)) (0,0,p2,_) ⟨BZ _,BZ _,hpl2,hpw2,by simp[AS]⟩ AL ?_
   rintro⟨i,c3,p3,n3⟩ F ⟨hi,hc3,hpl3,hpw3,hI⟩;dsimp only at hi hc3 hpl3 hpw3 hI⊢;refine sR 2800 ?_;refine AC.seq ?_;refine AI ?_
   (refine Bn (λhlt=>?_) (λhlt=>?_))<;>(try simp only[Bc,Bk]at hlt)<;>(try simp only[hlt])
   ·have hi2:i<m+2:=by
     have:=Cs hlt
     omega
    obtain⟨x,hx⟩:=CG (l:=v) (i:=i) (by omega);have hx':=DB hx;have hxl:x<BB:=S.wv x (A8 hx);obtain⟨z,hz⟩:=CG (l:=p3) (i:=i) (by omega);have hz':=Kg (A:=A) (Z:=Z) hz;have hzl:z<BB:=hpw3 z (A8 hz);have hadd:=Vp (a:=z) (b:=x) hc3;have J:=bB hz hx hI;have hs:(z+x+c3)%BB<BB:=Bs _ (by decide);have hc':(z+x+c3)/BB<=1:=by
     have:z+x+c3<2*BB:=by omega
     exact MY (Eg (by rw[BN];exact this))
    generalize(z+x+c3)%BB=d at*;generalize(z+x+c3)/BB=c' at*;have wi:IntKind.i64.wrap ((i:Int)+1)=((i+1:Nat):Int):=wI (by omega) (by omega);refine Aj ?_;refine AC.seq ?_;refine AC.block ?_;refine sR 2900 ?_;refine Ny w1 3000 [0,1,2,3,4,5,6,7,8,9,10,11,12,13,14,15,16] [17] 16 [12,10,9,8,7,6,5,4,3,2,1,0,11,13,15] (103) (by kernel_rfl) (by kernel_rfl) ?_;refine Ap ?_;refine LC (Ah kN hz') ?_;refine LO rfl rfl rfl rfl ?_;refine Lp (λ_ _=>rfl) (by exact B0) ⟨rfl,by omega⟩ hx' ?_
    try dsimp only[D.cells,spot]
    refine LC (Ah kN hz') ?_;refine LO rfl rfl rfl rfl ?_;refine NG rfl rfl hadd ?_;refine LC (Ah kN hz') ?_;refine And.intro (by first|exact Or.inl AB|exact Or.inl rfl) ?_;refine AD kN ?_;rw[Pd (by omega)];refine Ak w1 3100 (by kernel_rfl) ?_;refine AT wi ?_;exact⟨(i+1,c',p3.set i d,_),⟨hi2,hc',by dsimp only;rw[DZ];exact hpl3,hpw3.set hs,J⟩,by dsimp only;omega,AL⟩
   ·have hi2:i=m+2:=by
     have:=C7 hlt
     omega
    subst hi2;rw[B5 (l:=v) (by omega)]at hI;obtain⟨z,hz⟩:=CG (l:=p3) (i:=m+2) (by omega);have hz':=Kg (A:=A) (Z:=Z) hz;have hzl:z<BB:=hpw3 z (A8 hz);have J:=bE hz hI;have hs:(z+c3)%BB<BB:=Bs _ (by decide);have hc':(z+c3)/BB<=1:=by
     have:z+c3<2*BB:=by omega
     exact MY (Eg (by rw[BN];exact this))
    have j1:IntKind.u64.wrap ((z:Int)+(c3:Int))=(((z+c3)%BB:Nat):Int):=by rw[<-Int.natCast_add];exact H8 _
    generalize(z+c3)%BB=d at*;generalize(z+c3)/BB=c' at*;have hml:m+2<p3.length:=by omega
    have hpl4:(p3.set (m+2) d).length=m+3:=by rw[DZ];exact hpl3
    have hpw4:=hpw3.set (i:=m+2) hs;have hpL4:=Gw hpw4;rw[hpl4]at hpL4;obtain⟨q0p,ed,em⟩:=VG (by rw[Du]at hT;exact hT) hpL hdn J hc' hpL4;have j2:IntKind.u64.wrap ((q:Int)-1)=((q-1:Nat):Int):=by rw[wU (by omega) (by unfold BB at hq;omega)];omega
    refine By ?_;refine sZ 3200 ?_;refine AD (Ar kN hz' j1) ?_;rw[Pd hml];refine sZ 3300 ?_;refine AT j2 ?_;refine Ab ?_;exact⟨p3.set (m+2) d,by omega,hpw4,em.symm,by rw[ed],rfl⟩
theorem CQ.toP {C:A0}{f:Nat}{args:List D}{Φ:D->Hp->Nat->Prop}{Ψ:D->Prop}(h:CQ C f args [] 0 Φ)(k:∀d H n,Φ d H n->∃d',Fz H [] d d'/\Bw d'/\Ψ d'):Ai C f args Ψ:=by
 refine⟨h.1,λY w vs hG hnG hX' hvs hr=>?_⟩
 let F0:AY:=⟨w,Y,λ_=>False,0,nol,[]⟩
 have m0:Al C F0 nol [] w:=⟨⟨by simp,.nil,by simp⟩,rfl,rfl,rfl,Af _,λ_ _ _=>rfl,hX',hG,hnG,by simp[F0],λ_ _ _ h=>h,λ_ cs _ _ h=>⟨cs,_,h,rfl⟩⟩
 have hoe:AJ F0.X nol []=Y:=funext λb=>propext (by simp[AJ,F0])
 refine(h.2 F0 nol w vs m0 (λ_ _ _=>rfl) (by simp) hvs (λi d hd=>by rw[hoe];exact hr i d hd)).mono ?_;rintro e w' ⟨v,d,H',n',ρ',rfl,hΦ,m,x,fr,g,r⟩;obtain⟨d',h3,h4,h5⟩:=k d H' n' hΦ;have hH:CT H' [] H' []:=by
  generalize H'=H0
  have:∀H1:Hp,CT H0 [] H1 []:=λH1=>by
   induction H1 with
   |nil=>exact .nil
   |cons e r ih=>exact .drop ih
  exact this H0
 obtain⟨m2,hO,hN⟩:=hH.mem m;have r3:=h3.rep m hO hN r;have r4:=h4 _ nol _ _ _ r3;exact⟨v,d',rfl,⟨m.os,m.tape,m.output,m.size,λb hb=>m.blk b hb (by simp[F0])⟩,h5,r4.anti λb hb=>.inl hb⟩
theorem YY {H Hf:Hp}{a a' b b':D}(h1:Fz H Hf a a')(h2:Fz H Hf b b'):Fz H Hf (.tup [a,b]) (.tup [a',b']):=
 .tup rfl λi d d' hd hd'=>by
  match i with
  | 0=>simp at hd hd';subst hd;subst hd';exact h1
  | 1=>simp at hd hd';subst hd;subst hd';exact h2
  |i+2=>simp at hd
theorem V7 {a b:D}(h1:Bw a)(h2:Bw b):Bw (.tup [a,b]):=Bw.tup λd hd=>by
 simp only[BA,DF,or_false]at hd;rcases hd with rfl|rfl
 ·exact h1
 ·exact h2
theorem bp (K g T:Nat)(l l':List Nat)(h:l.take l'.length=l'):Fz [⟨K,g,T,1,l.map AQ⟩] [] (.osl K g 1 0 l'.length) (wL l'):=by
 have hll:l'.length<=l.length:=by
  have:=congrArg List.length h
  rw[Bg]at this;omega
 have key:∀(j:Nat) (d d':D),(l.map AQ)[0+j]?=some d->(l'.map AQ)[j]?=some d'->d=d':=λj d d' h1 h2=>by
  rw[<-h,BK,EQ]at h2;rw[BT,BK]at h1;split at h2
  ·rw[h1]at h2;exact FX h2
  ·simp at h2
 refine .osl (e:=⟨K,g,T,1,l.map AQ⟩) (by simp[Hp.get]) rfl rfl rfl (by simp;exact hll) (by simp) (λj d d' h1 h2=>by rw[key j d d' h1 h2]) λj d d' q c c' h1 h2 h3 h4=>?_
 rw[key j d d' h1 h2]at h3;rw[h3]at h4;cases h4;exact Fz.refl _
theorem kJ:wD 0=.sl false 1 []:=by unfold wD;rw[FH];rfl
theorem fL (w:List Nat)(s:Nat)(hs:s<=63)(hw:Wd w)(hl:w.length<4000000):Ai C0 256 [wL w,i64 s] (λd=>∃out:List Nat,out.length=w.length+1/\Wd out/\AS out=AS w*2^s/\d=wL out):=
 (U3 w s hs hw hl [] 0).toP λd H n ⟨out,g,h1,h2,h3,h4,h5,_⟩=>by
  subst h4;subst h5;refine⟨wL out,?_,Je _,out,h1,h2,h3,rfl⟩
  have:=bp 103 g 225 out out (by simp)
  rw[h1]at this;exact this
theorem fG {n k:Nat}(h1:BB^k<=n)(h2:n<BB^(k+1)):(Aa n).length=k+1:=by
 have h3:=GP h2;have h4:=DH h1 (Ib n);have h5:=(Nat.pow_lt_pow_iff_right (show 1<BB by decide)).1 h4;omega
theorem RO:∀(n:Nat) {k a:Nat},(Aa n).length=k+1->(Aa n)[k]?=some a->a≠0:=λn=>by
 induction n using Nat.strongRecOn with
 |ind n ih=>
  intro k a h1 h2
  by_cases h0:n=0
  ·subst h0;rw[FH]at h1;cases h1
  ·rw[Fc h0]at h1 h2
   rw[Bj]at h1;have h3:=Nat.succ.inj h1;cases k with
   |zero=>
    have h4:Aa (n/BB)=[]:=FA h3;have h5:n/BB=0:=by rw[<-EX (n/BB),h4];rfl
    have h6:=ET n BB;rw[h5]at h6;simp at h2;intro h7;subst h7;rw[h2]at h6;omega
   |succ k=>
    rw[JA]at h2;exact ih _ (HE (Di h0) (by decide)) h3 h2
theorem Vh {n k:Nat}(h:(Aa n).length=k+1):BB^k<=n:=by
 obtain⟨a,ha⟩:=CG (l:=Aa n) (i:=k) (by omega);have h1:=RO n h ha;have h2:=TT h ha;rw[EX]at h2;have h3:=CP (BB^k) (show 1<=a by omega);omega
theorem qY {b m y s:Nat}(hs:s<=63)(hl:(Aa b).length=m+1)(hy:(Aa b)[m]?=some y)(h:y*2^s<BB):(Aa (b*2^s)).length=m+1:=by
 have hp:0<2^s:=GJ s;have hpp:2^(64-s)*2^s=BB:=by rw[<-FT,show 64-s+s=64 by omega]
 have h1:y<2^(64-s):=by
  rw[<-hpp]at h;exact Nat.lt_of_mul_lt_mul_right h
 refine fG ?_ ?_
 ·have:=Vh hl
  exact BP this (Nat.le_mul_of_pos_right _ hp)
 ·have h2:=TT hl hy
  have h3:=Gw ((Em b).take m);rw[Bg,hl,Ei (by omega)]at h3;rw[EX]at h2;have h4:b<BB^m*(y+1):=by rw[BH,Du];omega
  have h5:BB^m*(y+1)<=BB^m*2^(64-s):=CP _ h1;have h6:b*2^s<BB^m*2^(64-s)*2^s:=Ql (CM h4 h5) hp;rw[Bo,hpp]at h6;exact h6
theorem V1 {l:List Nat}{j a:Nat}(h:l[j]?=some a):AS (l.drop j)=a+BB*AS (l.drop (j+1)):=by
 have hj:j<l.length:=(List.getElem?_eq_some_iff.1 h).1;rw[D9 hj,(List.getElem?_eq_some_iff.1 h).2];rfl
theorem PF {l:List Nat}{j a:Nat}(h:j<l.length):(l.set j a).drop j=a::l.drop (j+1):=by
 rw[D9 (by rw[DZ];exact h)]
 congr 1
 ·exact List.getElem_set_self _
 ·rw[List.drop_set_of_lt (by omega)]
theorem cQ {a q:List Nat}{j x b rest:Nat}(hb:0<b)(hx:a[j]?=some x)(hj:j<q.length)(hI:AS (q.drop (j+1))*b+rest=AS (a.drop (j+1))):
  AS ((q.set j ((rest*BB+x)/b)).drop j)*b+(rest*BB+x)%b=AS (a.drop j)/\(rest*BB+x)%b<b:=by
 refine⟨?_,Bs _ hb⟩;rw[PF hj,V1 hx,<-hI,AS];have e:=EC (rest*BB+x) b;rw[Bl,BH BB,Bo BB,BN BB rest,BN _ b];omega
theorem Ou {q b r a:Nat}(h:q*b+r=a)(hr:r<b):q=a/b/\r=a%b:=by
 subst h;rw[BN];exact⟨by rw[Nat.mul_add_div (by omega),Gh hr,DJ],by rw[Nat.mul_add_mod,DO hr]⟩
structure Kf (X:Nat)(v U q:List Nat)(lu lq k:Nat):Prop where
 lU:U.length=lu
 lQ:q.length=lq
 wU:Wd U
 wq:Wd q
 val:BB^k*AS (q.drop k)*AS v+AS U=X
 less:AS (U.drop k)<AS v
theorem aK {U:List Nat}(j n:Nat):U=U.take j++((U.drop j).take n++U.drop (j+n)):=by
 rw[<-List.drop_drop,Ef,Ef]
theorem gY {X:Nat}{v U q:List Nat}{lu lq j m:Nat}(I:Kf X v U q lu lq (j+1))(hv:v.length=m+2)(wv:Wd v)(v1 v2:Nat)(h2:v[m]?=some v2)(h1:v[m+1]?=some v1)(ht:0<v1)(hj:j+(m+3)<=lu):
  ∃p0 p1 p2,Lf ((U.drop j).take (m+3)) v m p0 p1 p2 v2 v1/\AS (U.drop (j+(m+3)))=0/\AS ((U.drop j).take (m+3))=AS (U.drop j):=by
 obtain⟨lU,lQ,wU,wq,val,less⟩:=I;obtain⟨x,hx⟩:=CG (l:=U) (i:=j) (by omega);have hxl:=wU x (A8 hx);have e1:=V1 hx;have hlt:AS (U.drop j)<AS v*BB:=by
  have:BB*(AS (U.drop (j+1))+1)<=BB*AS v:=CP _ less
  rw[BH,BN BB (AS v)]at this;omega
 have hPl:((U.drop j).take (m+3)).length=m+3:=by rw[Bg,Dj];omega
 have e2:AS (U.drop j)=AS ((U.drop j).take (m+3))+BB^(m+3)*AS (U.drop (j+(m+3))):=by
  conv=>lhs;rw[<-Ef (m+3) (U.drop j)]
  rw[JN,hPl,List.drop_drop]
 have hvl:=Gw wv;rw[hv]at hvl;have hz:AS (U.drop (j+(m+3)))=0:=by
  rcases DY (AS (U.drop (j+(m+3))))with h|h
  ·exact h
  ·exfalso
   have e3:BB^(m+3)*1<=BB^(m+3)*AS (U.drop (j+(m+3))):=CP _ h;have e4:AS v*BB<=BB^(m+2)*BB:=B8 _ (JC hvl);have e5:BB^(m+2)*BB=BB^(m+3):=(B9 BB (m+2)).symm;rw[e5]at e4;omega
 rw[hz,EE,DJ]at e2;obtain⟨p0,h0⟩:=CG (l:=(U.drop j).take (m+3)) (i:=m) (by omega);obtain⟨p1,h3⟩:=CG (l:=(U.drop j).take (m+3)) (i:=m+1) (by omega);obtain⟨p2,h4⟩:=CG (l:=(U.drop j).take (m+3)) (i:=m+2) (by omega);exact⟨p0,p1,p2,⟨hPl,hv,λa ha=>wU a (J4 (Hx ha)),wv,h0,h3,h4,h2,h1,ht,by rw[<-e2];exact hlt⟩,hz,e2.symm⟩
theorem gX {X:Nat}{v U q P':List Nat}{lu lq j m:Nat}(I:Kf X v U q lu lq (j+1))(hv:0<AS v)(hj:j+(m+3)<=lu)(hjq:j<lq)(hz:AS (U.drop (j+(m+3)))=0)(hP:AS ((U.drop j).take (m+3))=AS (U.drop j))
  (h1:P'.length=m+3) (h2:Wd P') (h3:AS P'=AS ((U.drop j).take (m+3))%AS v) (hd:AS ((U.drop j).take (m+3))/AS v<BB):
  Kf X v (U.take j++(P'++U.drop (j+(m+3)))) (q.set j (AS ((U.drop j).take (m+3))/AS v)) lu lq j:=by
 obtain⟨lU,lQ,wU,wq,val,less⟩:=I;have hA:(U.take j).length=j:=by rw[Bg];omega
 have e0:AS U=AS (U.take j)+BB^j*AS (U.drop j):=by
  conv=>lhs;rw[<-Ef j U]
  rw[JN,hA]
 have e1:AS (P'++U.drop (j+(m+3)))=AS P':=by rw[JN,hz,EE,DJ]
 refine⟨?_,by rw[DZ];exact lQ,?_,wq.set hd,?_,?_⟩
 ·rw[B1,B1,hA,h1,Dj];omega
 ·exact Wd.append (wU.take j) (Wd.append h2 λa ha=>wU a (J4 ha))
 ·rw[PF (by omega),AS,JN,hA,e1,h3,hP]
  rw[e0]at val;have e2:=EC (AS (U.drop j)) (AS v);have e3:BB^(j+1)*AS (q.drop (j+1))*AS v=BB^j*(BB*AS (q.drop (j+1))*AS v):=by
   rw[B9,Bo,Bo,Bo]
  rw[e3]at val;have e4:BB^j*AS (U.drop j)=BB^j*(AS v*(AS (U.drop j)/AS v))+BB^j*(AS (U.drop j)%AS v):=by
   rw[<-BH,e2]
  rw[Bo,Bl,BH,BN (AS (U.drop j)/AS v)];omega
 ·rw[List.drop_left' hA,e1,h3]
  exact Bs _ hv
theorem eE {a b s:Nat}{U v:List Nat}{k lu lq:Nat}(hU:AS U=a*2^s)(hv:AS v=b*2^s)(wU:Wd U)(lU:U.length=lu){q:List Nat}(hq:q=List.replicate lq 0)(hk:lq<=k)
  (hab:a<BB^k*b):Kf (a*2^s) v U q lu lq k:=by
 subst hq;refine⟨lU,MU,wU,LT _,?_,?_⟩
 ·rw[Gj (by rw[MU];exact hk)]
  rw[show AS []=0 from rfl,EE,GK,BT,hU]
 ·rcases BL (AS (U.drop k)) (AS v)with h|h
  ·exact h
  ·exfalso
   have e0:AS U=AS (U.take k)+BB^(U.take k).length*AS (U.drop k):=by
    conv=>lhs;rw[<-Ef k U]
    rw[JN]
   have hp:0<2^s:=GJ s;have h3:a*2^s<BB^k*b*2^s:=Ql hab hp;rw[Bo,<-hv]at h3;rcases BL U.length k with hl|hl
   ·rw[Gj (by omega)]at h
    rw[show AS []=0 from rfl]at h;rw[Nat.le_zero.1 h,EE]at h3;omega
   ·rw[Bg,Ei hl]at e0
    have:=CP (BB^k) h
    omega
theorem gW {a b s:Nat}{v U q:List Nat}{lu lq:Nat}(I:Kf (a*2^s) v U q lu lq 0)(hv:AS v=b*2^s):AS q=a/b/\AS U=a%b*2^s:=by
 obtain⟨lU,lQ,wU,wq,val,less⟩:=I;simp only[K8,IV,FC]at val less;obtain⟨h1,h2⟩:=Ou val less;rw[hv,OF _ _ (GJ s)]at h1;rw[hv,OG]at h2;exact⟨h1,h2⟩
structure NC (U u:List Nat)(s i:Nat):Prop where
 len:u.length=U.length
 wd:Wd u
 rest:∀k,i<=k->u[k]?=U[k]?
 val:∀c,U[i]?=some c->AS (U.take i)+BB^i*(c%2^s)=2^s*AS (u.take i)
theorem cX {U:List Nat}{s r:Nat}(wU:Wd U)(h:AS U=r*2^s)(hs:s<=63):NC U U s 0:=by
 refine⟨rfl,wU,λ_ _=>rfl,λc hc=>?_⟩;have e:=Jf hc;simp only[MR,K8,IV,AS,BT,EE]at e⊢;have hpp:2^(64-s)*2^s=BB:=by rw[<-FT,show 64-s+s=64 by omega]
 have e1:(AS U)%2^s=0:=by rw[h];exact Nat.mul_mod_left _ _
 rw[e,<-hpp,Nat.mul_right_comm,Nat.add_mul_mod_self_right]at e1;exact e1
theorem US {c d s:Nat}(hs:s<=63)(hc:c<BB):c/2^s ||| d*2^(64-s)%BB=c/2^s+d%2^s*2^(64-s)/\c/2^s+d%2^s*2^(64-s)<BB /\
  c%2^s+2^s*(c/2^s+d%2^s*2^(64-s))=c+BB*(d%2^s):=by
 have hpp:2^s*2^(64-s)=BB:=by rw[<-FT,show s+(64-s)=64 by omega]
 have h1:d*2^(64-s)%BB=d%2^s*2^(64-s):=by rw[<-hpp,OG]
 have h2:c/2^s<2^(64-s):=Eg (by rw[hpp];exact hc);have h3:d%2^s<2^s:=Bs _ (GJ s);have h4:(d%2^s+1)*2^(64-s)<=2^s*2^(64-s):=B8 _ h3;rw[hpp,Bl,IV]at h4;have e:=ET c (2^s);refine⟨?_,by omega,?_⟩
 ·rw[h1,Nat.or_comm,Si h2,J7]
 ·rw[BH,Ho,hpp,BN (d%2^s)]
  omega
theorem eJ {U u:List Nat}{s i c d:Nat}(hs:s<=63)(wU:Wd U)(I:NC U u s i)(hc:U[i]?=some c)(hd:U[i+1]?=some d):
  NC U (u.set i (c/2^s+d%2^s*2^(64-s))) s (i+1):=by
 obtain⟨len,wd,rest,val⟩:=I;have hcl:=wU c (A8 hc);obtain⟨_,e2,e3⟩:=US (d:=d) hs hcl;have hi:i<U.length:=(List.getElem?_eq_some_iff.1 hc).1;refine⟨by rw[DZ];exact len,wd.set e2,λk hk=>?_,λc' hc'=>?_⟩
 ·rw[Hw (by omega)];exact rest k (by omega)
 ·rw[hd]at hc'
  cases hc';have v0:=val c hc;rw[PG (by omega),F6 (i:=i) (by rw[Bg];omega),El hc,F6 (i:=i) (by rw[Bg];omega),BH,<-v0,B9,Bo,Ho (2^s)];have e4:BB^i*(c%2^s+2^s*(c/2^s+d%2^s*2^(64-s)))=BB^i*(c+BB*(d%2^s)):=by rw[e3]
  rw[BH,BH (BB^i) c]at e4;omega
theorem eI {U u:List Nat}{s n r:Nat}(I:NC U u s n)(hn:n<U.length)(hU:AS U=r*2^s)(hl:AS U<BB^n):AS (u.take n)=r:=by
 obtain⟨c,hc⟩:=CG hn;have e:=Jf hc;have hz:c+BB*AS (U.drop (n+1))=0:=by
  rcases DY (c+BB*AS (U.drop (n+1)))with h|h
  ·exact h
  ·have:=CP (BB^n) h
   omega
 have hc0:c=0:=by omega
 subst hc0;have v0:=I.val 0 hc;rw[hz,EE,DJ]at e;rw[Nat.zero_mod,EE,DJ,<-e,hU,BN]at v0;exact(Nat.eq_of_mul_eq_mul_left (GJ s) v0).symm
theorem Wf {a b:Nat}(h:a<b):decide (Dd (a:Int) (b:Int)<0)=true:=AZ (by unfold Dd;split<;>(try split)<;>omega)
theorem PL {a b:Nat}(h:b<=a):decide (Dd (a:Int) (b:Int)<0)=false:=Ad (by unfold Dd;split<;>(try split)<;>omega)
theorem kK {env:Ao}{t K g n N t2:Nat}{z:List Nat}{T:Nat}{d2:D}(hl:z.length=N)(he:env.get t=.osl K g 1 0 N:=by exact rfl)(h2:env.get t2=d2:=by exact rfl):Wk ⟨env,[⟨K,g,T,1,z.map AQ⟩],n⟩ ⟨[(t,.sl false 1 (z.map AQ)),(t2,d2)],[],n⟩:=by
 subst hl;refine⟨.drop .nil,⟨?_,?_,trivial⟩,Af _⟩
 ·dsimp only
  rw[he]
  have:=Pp K g T 1 (z.map AQ)
  rwa [An]at this
 ·dsimp only
  rw[h2];exact .refl _
theorem eG (a b:Nat)(hab:a<b)(ha:(Aa a).length<1000000)(hb:(Aa b).length<1000000):AK C0 209 [wD a,wD b] (.tup [wD (a/b),wD (a%b)]):=by
 rw[Gh hab,DO hab,kJ];refine Ai.walk w1 Pk rfl λF=>?_
 have cc:=PM a b (by omega) (by omega);have e1:=Wf hab;refine sR 0 ?_;refine AC.seq ?_;refine sR 100 ?_;refine cI cc ?_;rw[e1];refine AI ?_;refine sR 200 ?_;refine Ab ?_;exact⟨_,YY (.nil 1) (.refl _),V7 (.sl λe he=>by cases he) (Je _),rfl⟩
theorem gZ (a b:Nat)(hab:b<=a)(ha:(Aa a).length<1000000)(hb:(Aa b).length=1)(hb0:b≠0):AK C0 209 [wD a,wD b] (.tup [wD (a/b),wD (a%b)]):=by
 have cc:=PM a b (by omega) (by omega);have e1:=PL hab;have hbl:b<BB:=by
  have:=Ib b
  rw[hb,Nat.pow_one]at this;exact this
 have hlb:(Aa b)[0]?=some b:=by rw[LM hb0 hbl];rfl
 have va:=EX a;have wa:=Em a;refine Ai.walk w1 Pk rfl λF=>?_
 unfold wD wL at cc⊢;change AC C0 F none F _ _ (QB X1.tt _ (· = .tup [wD (a/b),wD (a%b)]));generalize Aa a=la at*;generalize Aa b=lb at*;have hb':=DB hlb;have e3:((((lb.map AQ).length:Nat):Int)==1)=true:=by rw[An,hb];rfl
 have ea:(((la.map AQ).length:Nat):Int)=(la.length:Int):=by rw[An]
 have wl:IntKind.i64.wrap ((la.length:Int)-1)=(la.length:Int)-1:=wI (by omega) (by omega);have r3:List.replicate la.length (ofV (.int .u64 0))=(List.replicate la.length 0).map AQ:=by rw[I8];rfl
 refine sR 0 ?_;refine AC.seq ?_;refine sR 100 ?_;refine cI cc ?_;rw[e1];refine AI ?_;refine Aj ?_;refine AC.seq ?_;refine sZ 300 ?_;refine AT e3 ?_;refine AI ?_;refine sZ 400 ?_;refine AT (Ah ea kN) ?_;refine sR 500 ?_;refine AC.seq ?_;refine sZ 600 ?_;refine AT (Ah ea wl) ?_;refine AC.block ?_;refine AC.loop (α:=Nat×Nat×List Nat×Nat) (λp=>⟨[(0,.sl false 1 (la.map AQ)),(1,.sl false 1 (lb.map AQ)),(6,.osl 402 11 1 0 la.length),(7,AQ p.2.1),(8,i64 ((p.1:Int)-1))],[⟨402,11,225,1,p.2.2.1.map AQ⟩],p.2.2.2⟩) (λp=>p.1)
  (λp=>p.1<=la.length/\p.2.1<b/\p.2.2.1.length=la.length/\Wd p.2.2.1/\AS (p.2.2.1.drop p.1)*b+p.2.1=AS (la.drop p.1)) (la.length,0,List.replicate la.length 0,_)
  ⟨Af _,Di hb0,by simp,LT _,by simp[AS]⟩ (by rw[<-r3];exact AL) ?_
 rintro⟨k,r,q,m⟩ F ⟨h1,h2,h3,h4,h5⟩;dsimp only at h1 h2 h3 h4 h5⊢;clear cc e1 e3 ea wl r3;refine AC.seq ?_;refine sR 700 ?_;refine AI ?_
 (refine Bn (λh20=>?_) (λh20=>?_))<;>(try simp only[Bc,Bk]at h20)<;>(try simp only[h20])
 ·obtain⟨j,rfl⟩:∃j,k=j+1:=⟨k-1,by
   have:(k:Int)-1>=0:=by simpa using h20
   omega⟩
  have wj:((j+1:Nat):Int)-1=(j:Int):=by omega
  obtain⟨x,hx⟩:=CG (l:=la) (i:=j) (by omega);obtain⟨z,hz⟩:=CG (l:=q) (i:=j) (by omega);have hx':=DB hx;have hz':=DB hz;have hxl:=wa x (A8 hx);have cd:=Vw r x b h2 hxl hbl;obtain⟨J1,J2⟩:=cQ (Di hb0) hx (by omega) h5;have hql:(r*BB+x)/b<BB:=by
   refine Eg ?_
   have:(r+1)*BB<=b*BB:=B8 _ h2
   rw[Bl]at this;omega
  have wi:IntKind.i64.wrap ((j:Int)-1)=(j:Int)-1:=wI (by omega) (by omega);generalize(r*BB+x)/b=d at*;generalize(r*BB+x)%b=r' at*;rw[wj];refine Aj ?_;refine AC.seq ?_;refine AC.block ?_;refine Ny w1 900 [0,1,2,3,4,5,6,7,8,9,10,11,12,13,14,15] [16] 15 [11,9,8,7,6,5,4,3,2,1,0,10,12,14] (402) (by kernel_rfl) (by kernel_rfl) ?_;refine Ap ?_;refine LC kN ?_;refine LO rfl rfl rfl rfl ?_;refine Lp (λ_ _=>rfl) (by exact B0) ⟨rfl,by omega⟩ hx' ?_
  try dsimp only[D.cells,spot]
  refine LC kN ?_;refine LO rfl rfl rfl rfl ?_;refine Lp (λ_ _=>rfl) (by exact B0) ⟨rfl,by omega⟩ hb' ?_
  try dsimp only[D.cells,spot]
  refine LC kN ?_;refine LO rfl rfl rfl rfl ?_;refine KW (λ_ _=>rfl) (by exact B0) ?_;refine Ap ?_;refine BQ.same _ cd AH ?_;refine LC (Ar kN BT hz') ?_;refine And.intro (by first|exact Or.inl AB|exact Or.inl rfl) ?_;refine AD (Ah kN BT) ?_;rw[map_set];refine Ak w1 800 (by kernel_rfl) ?_;refine AT wi ?_;exact⟨(j,r',q.set j d,_),⟨by dsimp only;omega,J2,by dsimp only;rw[DZ];exact h3,h4.set hql,J1⟩,by dsimp only;omega,AL⟩
 ·have hk:k=0:=by
   have:¬((k:Int)-1>=0):=by simpa using h20
   omega
  subst hk;rw[FC,FC,va]at h5;obtain⟨q1,q2⟩:=Ou h5 h2;refine By ?_;refine AC.weak ⟨[(6,.sl false 1 (q.map AQ)),(7,AQ r)],[],_⟩ (kK h3) ?_;refine sR 1000 ?_;refine A7.same _ (trim_ok q h4 (by omega)) AH ?_;refine BJ ?_;have hrl:Wd [r]:=λa ha=>by
   simp only[BA,DF,or_false]at ha;subst ha;exact FS h2 hbl
  refine A7.pure [wL [r]] _ ⟨.nn true 1 _,trivial⟩ (trim_ok [r] hrl (by simp)) AH ?_;refine BJ ?_;refine Ab ?_;exact AN (by rw[q1,q2];simp[AS]) AA.out
set_option maxHeartbeats 4000000
theorem Wb {H:Hp}{K g T:Nat}{l:List Nat}{N:Nat}(hl:l.length=N)(he:Hp.get H K=some ⟨K,g,T,1,l.map AQ⟩:=by exact rfl):Fz H [] (.osl K g 1 0 N) (.sl false 1 (l.map AQ)):=by
 subst hl;have key:∀(j:Nat) (d d':D),(l.map AQ)[0+j]?=some d->(l.map AQ)[j]?=some d'->d=d':=λj d d' h1 h2=>by
  rw[BT]at h1;rw[h1]at h2;exact FX h2
 refine .osl (e:=⟨K,g,T,1,l.map AQ⟩) he rfl rfl rfl (by simp) (by simp) (λj d d' h1 h2=>by rw[key j d d' h1 h2]) λj d d' q c c' h1 h2 h3 h4=>?_
 rw[key j d d' h1 h2]at h3;rw[h3]at h4;cases h4;exact Fz.refl _
theorem eH (a b m:Nat)(hab:b<=a)(ha:(Aa a).length<1000000)(hb:(Aa b).length=m+2):AK C0 209 [wD a,wD b] (.tup [wD (a/b),wD (a%b)]):=by
 have hlen:=Gq b a hab;have cc:=PM a b (by omega) (by omega);have e1:=PL hab;obtain⟨y,hy⟩:=CG (l:=Aa b) (i:=m+1) (by omega);have y0:=RO b hb hy;have yl:y<BB:=Em b y (A8 hy);obtain⟨s,hs,es,t1,t2⟩:=UP y0 yl;have cl:=aA y yl;rw[es]at cl;have hvl:=qY hs hb hy t2;obtain⟨v,hv⟩:∃v,v=Aa (b*2^s):=⟨_,rfl⟩
 have wv:Wd v:=by rw[hv];exact Em _
 have vv:AS v=b*2^s:=by rw[hv];exact EX _
 rw[<-hv]at hvl;obtain⟨v1,h1⟩:=CG (l:=v) (i:=m+1) (by omega);obtain⟨v2,h2⟩:=CG (l:=v) (i:=m) (by omega);have v10:v1≠0:=RO (b*2^s) (by rw[<-hv];exact hvl) (by rw[<-hv];exact h1);have vpos:0<AS v:=by
  rw[vv];refine Gm ?_ (GJ s);refine Di λh=>?_
  subst h;rw[FH]at hb;cases hb
 have va:=EX a;have vb:=EX b;have wa:=Em a;have wb:=Em b;have hup:=Ib a;have hbge:=Vh hb;refine Ai.walk w1 Pk rfl λF=>?_
 unfold wD wL at cc⊢;change AC C0 F none F _ _ (QB X1.tt _ (· = .tup [wD (a/b),wD (a%b)]));generalize Aa a=la at*;generalize Aa b=lb at*;obtain⟨lq,hlq⟩:∃lq,la.length=lq+(m+2):=⟨la.length-(m+2),by omega⟩
 have hy':=DB hy;have e3:((((lb.map AQ).length:Nat):Int)==1)=false:=by rw[An,hb];exact Bv.2 (by omega)
 have elb:(((lb.map AQ).length:Nat):Int)=((m+2:Nat):Int):=by rw[An,hb]
 have wlb0:IntKind.i64.wrap (((m+2:Nat):Int)-1)=((m+1:Nat):Int):=by rw[wI (by omega) (by omega)];omega
 have wlb:IntKind.i64.wrap ((((lb.map AQ).length:Nat):Int)-1)=((m+1:Nat):Int):=by rw[elb];exact wlb0
 have ea:(((la.map AQ).length:Nat):Int)=(la.length:Int):=by rw[An]
 have ev:(((v.map AQ).length:Nat):Int)=((m+2:Nat):Int):=by rw[An,hvl]
 have wq1:IntKind.i64.wrap ((la.length:Int)-((m+2:Nat):Int))=(lq:Int):=by rw[wI (by omega) (by omega)];omega
 have wq2:IntKind.i64.wrap ((lq:Int)+1)=((lq+1:Nat):Int):=by rw[wI (by omega) (by omega)];omega
 have wq1':IntKind.i64.wrap ((la.length:Int)-((m+2:Nat):Int))=((lq+1:Nat):Int)-1:=by rw[wI (by omega) (by omega)];omega
 have wraw:IntKind.i64.wrap (IntKind.i64.wrap ((((la.map AQ).length:Nat):Int)-((m+2:Nat):Int))+1)=((lq+1:Nat):Int):=by rw[ea,wq1,wq2]
 have r3:List.replicate (lq+1) (ofV (.int .u64 0))=(List.replicate (lq+1) 0).map AQ:=by rw[I8];rfl
 refine sR 0 ?_;refine AC.seq ?_;refine sR 100 ?_;refine cI cc ?_;rw[e1];refine AI ?_;refine Aj ?_;refine AC.seq ?_;refine sZ 300 ?_;refine AT e3 ?_;refine AI ?_;refine Aj ?_;refine sZ 1100 ?_;refine AD (Ba wlb elb wlb0 kN) ?_;refine Bi kT hy' ?_;refine AD (Ba wlb elb wlb0 kN) ?_;refine cI cl ?_;refine Cj (α:=Nat) (λn=>⟨[(0,.sl false 1 (la.map AQ)),(9,i64 s),(10,.sl false 1 (v.map AQ))],[],n⟩) (λ_=>True) ?_ ?_
 ·refine rI 1200 ?_
  refine A7.prop [wL lb,i64 s] _ (EF.refl _) (fL lb s hs wb (by omega)) AH ?_;rintro d ⟨out,o1,o2,o3,rfl⟩;have hvo:wD (AS out)=.sl false 1 (v.map AQ):=by rw[o3,vb,hv];rfl
  refine BJ ?_;refine A7.same _ (trim_ok out o2 (by omega)) AH ?_;refine BJ ?_;simp only[hvo];exact⟨trivial,_,trivial,AL⟩
 rintro n0 -;clear cc e1 e3 elb wlb wlb0 hy' cl es t1 t2 yl y0 hy wb;refine sR 1300 ?_;refine A7.own _ (U3 la s hs wa (by omega) [] _) ?_;rintro d H' n1 ⟨U,gu,u1,u2,u3,rfl,rfl,-⟩;rw[va]at u3;refine BJ ?_;refine sZ 1400 ?_;refine AT ev ?_;refine Cj (α:=Nat×Nat) (λp=>⟨[(0,.sl false 1 (la.map AQ)),(9,i64 s),(10,.sl false 1 (v.map AQ)),(11,.osl 103 gu 1 0 (la.length+1)),(12,i64 ((m+2:Nat):Int)),(13,.osl 1505 p.1 1 0 (lq+1))],[⟨1505,p.1,225,1,(List.replicate (lq+1) 0).map AQ⟩,⟨103,gu,225,1,U.map AQ⟩],p.2⟩) (λ_=>True) ?_ ?_
 ·refine Ak w1 1500 (by kernel_rfl) ?_
  refine AT (CH ea wq1 wq2 kN r3) ?_;exact⟨trivial,⟨n1+9,n1+20⟩,trivial,by rw[<-r3];exact AL⟩
 rintro⟨g,n2⟩ -;dsimp only;have I0:Kf (a*2^s) v U (List.replicate (lq+1) 0) (la.length+1) (lq+1) (lq+1):=by
  refine eE u3 vv u2 u1 rfl (Af _) ?_
  have:BB^(lq+1)*BB^(m+1)<=BB^(lq+1)*b:=CP _ hbge
  rw[<-FT,show lq+1+(m+1)=la.length by omega]at this;omega
 refine AC.seq ?_;refine sZ 1600 ?_;refine AT (Ah ea wq1') ?_;refine AC.block ?_;refine AC.loop (α:=Nat×List Nat×List Nat×Nat) (λp=>⟨[(9,i64 s),(10,.sl false 1 (v.map AQ)),(11,.osl 103 gu 1 0 (la.length+1)),(12,i64 ((m+2:Nat):Int)),(13,.osl 1505 g 1 0 (lq+1)),(14,i64 ((p.1:Int)-1))],[⟨1505,g,225,1,p.2.2.1.map AQ⟩,⟨103,gu,225,1,p.2.1.map AQ⟩],p.2.2.2⟩) (λp=>p.1)
  (λp=>p.1<=lq+1/\Kf (a*2^s) v p.2.1 p.2.2.1 (la.length+1) (lq+1) p.1) (lq+1,U,List.replicate (lq+1) 0,_) ⟨Af _,I0⟩ AL ?_
 rintro⟨k,u,q,n3⟩ F ⟨hk,I⟩;dsimp only at hk I⊢;clear I0 wq1 wq2 wq1' wraw r3 ea;refine AC.seq ?_;refine sR 1700 ?_;refine AI ?_
 (refine Bn (λh20=>?_) (λh20=>?_))<;>(try simp only[Bc,Bk]at h20)<;>(try simp only[h20])
 ·obtain⟨j,rfl⟩:∃j,k=j+1:=⟨k-1,by
   have:(k:Int)-1>=0:=by simpa using h20
   omega⟩
  have wj:((j+1:Nat):Int)-1=(j:Int):=by omega
  obtain⟨p0,p1,p2,SI,hz,hP⟩:=gY I hvl wv v1 v2 h2 h1 (Di v10) (by omega);have hA:(u.take j).length=j:=by rw[Bg,I.lU];omega
  have cs:=λn=>jv (u.take j) ((u.drop j).take (m+3)) (u.drop (j+(m+3))) v m p0 p1 p2 v2 v1 SI (by rw[hA];omega) g 225 gu (q.map AQ) n
  rw[hA,<-aK j (m+3)]at cs;obtain⟨z,hzq⟩:=CG (l:=q) (i:=j) (by rw[I.lQ];omega);have hz':=DB hzq;have hdl:AS ((u.drop j).take (m+3))/AS v<BB:=Eg SI.less;have wi:IntKind.i64.wrap ((j:Int)-1)=(j:Int)-1:=wI (by omega) (by omega);have wjn1:IntKind.i64.wrap ((j:Int)+((m+2:Nat):Int))=((j+(m+2):Nat):Int):=by rw[wI (by omega) (by omega)];omega
  have wjn2:IntKind.i64.wrap (((j+(m+2):Nat):Int)+1)=((j+(m+3):Nat):Int):=by rw[wI (by omega) (by omega)];omega
  have wraw:IntKind.i64.wrap (IntKind.i64.wrap ((j:Int)+((m+2:Nat):Int))+1)=((j+(m+3):Nat):Int):=by rw[wjn1,wjn2]
  have els:j+(m+3)-j=m+3:=J3 _ _;have J:=λP' h1 h2 h3=>gX (P':=P') I vpos (by omega) (by omega) hz hP h1 h2 h3 hdl
  rw[wj];refine Aj ?_;refine AC.seq ?_;refine AC.block ?_;refine Ak w1 1900 (by kernel_rfl) ?_;refine AD (EU wraw wjn1 wjn2 kN BT els) ?_;refine A7.own _ (cs _) ?_;rintro d H' n4 ⟨P',g1,g2,g3,rfl,rfl⟩;rw[SI.lP]at g1;refine AD (Ar kN BT hz') ?_;rw[map_set];refine Ak w1 1800 (by kernel_rfl) ?_;refine AT wi ?_;exact⟨(j,u.take j++(P'++u.drop (j+(m+3))),q.set j (AS ((u.drop j).take (m+3))/AS v),_),⟨by dsimp only;omega,J P' g1 g2 g3⟩,by dsimp only;omega,AL⟩
 ·have hk:k=0:=by
   have:¬((k:Int)-1>=0):=by simpa using h20
   omega
  subst hk;obtain⟨q1,q2⟩:=gW I vv;have D0:=cX I.wU q2 hs;have wu:=I.wU;have wqq:=I.wq;have lu:=I.lU;have lqq:=I.lQ;have hlt:AS u<BB^(m+2):=by
   have:=I.less
   rw[FC]at this;have h:=Gw wv;rw[show v.length=m+2 from hvl]at h;omega
  clear I;refine By ?_;refine AC.seq ?_;refine sR 2000 ?_;refine AC.block ?_;refine AC.loop (α:=Nat×List Nat×Nat) (λp=>⟨[(9,i64 s),(11,.osl 103 gu 1 0 (la.length+1)),(12,i64 ((m+2:Nat):Int)),(13,.osl 1505 g 1 0 (lq+1)),(96,i64 ((m+2:Nat):Int)),(97,i64 p.1)],[⟨1505,g,225,1,q.map AQ⟩,⟨103,gu,225,1,p.2.1.map AQ⟩],p.2.2⟩) (λp=>m+2-p.1)
   (λp=>p.1<=m+2/\NC u p.2.1 s p.1) (0,u,_) ⟨BZ _,D0⟩ AL ?_
  rintro⟨i,x,n4⟩ F ⟨hi,I⟩;dsimp only at hi I⊢;have xl:=I.len;refine sR 2100 ?_;refine AC.seq ?_;refine AI ?_
  (refine Bn (λhlt2=>?_) (λhlt2=>?_))<;>(try simp only[Bc,Bk]at hlt2)<;>(try simp only[hlt2])
  ·have hi2:i<m+2:=by
    have:=Cs hlt2
    omega
   obtain⟨c,hc⟩:=CG (l:=u) (i:=i) (by omega);obtain⟨d,hd⟩:=CG (l:=u) (i:=i+1) (by omega);have hcx:x[i]?=some c:=by rw[I.rest i (Af _)];exact hc
   have hdx:x[i+1]?=some d:=by rw[I.rest (i+1) (by omega)];exact hd
   have hc':=DB hcx;have hcl:=wu c (A8 hc);have hdl:=wu d (A8 hd);have I2:=eJ hs wu I hc hd;obtain⟨g1,g2,_⟩:=US (d:=d) hs hcl;have esh:=L8 c s (by omega);have wi:IntKind.i64.wrap ((i:Int)+1)=((i+1:Nat):Int):=wI (by omega) (by omega);refine Aj ?_;refine AC.seq ?_;refine AC.block ?_;refine sR 2200 ?_;refine sZ 2300 ?_;refine AD (Ba kN BT hc' esh) ?_;rw[map_set];have hxi:i<x.length:=by omega
   have h2c:((x.set i (c/2^s)).map AQ)[i]?=some (AQ (c/2^s)):=DB (Tj hxi);have h2d:((x.set i (c/2^s)).map AQ)[i+1]?=some (AQ d):=DB (by rw[Hw (by omega)];exact hdx);refine AC.seq ?_;rcases DY s with h0|h0
   ·have e24:decide ((s:Int)>0)=false:=Ad (by omega)
    have es0:x.set i (c/2^s+d%2^s*2^(64-s))=x.set i (c/2^s):=by
     rw[h0,K8,Nat.mod_one,GK,DJ]
    rw[es0]at I2;refine Ak w1 2400 (by kernel_rfl) ?_;refine AT e24 ?_;refine AD e24 ?_;refine AI ?_;refine Aj ?_;refine Ak w1 2600 (by kernel_rfl) ?_;refine AT wi ?_;exact⟨(i+1,x.set i (c/2^s),_),⟨hi2,I2⟩,by dsimp only;omega,AL⟩
   ·have e24:decide ((s:Int)>0)=true:=AZ (by omega)
    have e24':decide (((i+1:Nat):Int)<((la.length+1:Nat):Int))=true:=AZ (by omega);have w64:IntKind.i64.wrap (64-(s:Int))=((64-s:Nat):Int):=by rw[wI (by omega) (by omega)];omega
    have w640:(0:Int)<=IntKind.i64.wrap (64-(s:Int)):=by rw[w64];omega
    have e27:=Nf d (64-s) (by omega);have e28:GT .or .u64 ((c/2^s:Nat):Int) ((d*2^(64-s)%18446744073709551616:Nat):Int)=((c/2^s+d%2^s*2^(64-s):Nat):Int):=by
     rw[TZ _ _ (DH (GH _ _) hcl) (Bs _ (by decide)),g1]
    have hset:((x.set i (c/2^s)).map AQ).set i (AQ (c/2^s+d%2^s*2^(64-s)))=(x.set i (c/2^s+d%2^s*2^(64-s))).map AQ:=by
     rw[map_set,List.set_set]
    refine Ak w1 2400 (by kernel_rfl) ?_;refine AT e24 ?_;refine AD (Ar e24 wi e24') ?_;refine AI ?_;refine Bx w1 2500 [0,1,2,3,4,5,6,7,8,9,10,11] [12,13,14] (by kernel_rfl) ?_;refine AD (Ce wi w64 e27 e28 kN BT (Ah h2c h2d)) ?_;refine Dm rfl rfl ?_;refine Lq rfl rfl rfl h2c ?_;refine AD hset ?_;refine Ak w1 2600 (by kernel_rfl) ?_;refine AT wi ?_;exact⟨(i+1,x.set i (c/2^s+d%2^s*2^(64-s)),_),⟨hi2,I2⟩,by dsimp only;omega,AL⟩
  ·have hi2:i=m+2:=by
    have:=C7 hlt2
    omega
   subst hi2;have hr:=eI I (by omega) q2 hlt;have wx:=I.wd;refine By ?_;refine AC.weak ⟨[(11,.sl false 1 (x.map AQ)),(12,i64 ((m+2:Nat):Int)),(13,.sl false 1 (q.map AQ))],[],_⟩ ⟨.drop (.drop .nil),⟨Wb (by omega),.refl _,Wb lqq,trivial⟩,Af _⟩ ?_;have e4:List.take (m+2-0) (List.drop 0 (x.map AQ))=(x.take (m+2)).map AQ:=by
    rw[List.map_take];simp
   have e5:List.take (m+2) (x.map AQ)=(x.take (m+2)).map AQ:=by
    rw[List.map_take]
   have ex:(x.map AQ).length=la.length+1:=by rw[An];omega
   refine AC.seq ?_;refine Bx w1 2700 [0,1,2,3,4] [5,6,7] (by kernel_rfl) ?_;refine BJ ?_;refine BQ.same _ (trim_ok q wqq (by omega)) AH ?_;refine AD (Ba kN Nat.sub_zero (@FC D) e5) ?_;refine A7.same _ (trim_ok (x.take (m+2)) (wx.take _) (by rw[Bg];omega)) AH ?_;refine BJ ?_;refine Ab ?_;exact AN (by rw[q1,hr]) AA.out
theorem aL (a b:Nat)(hb:b≠0)(ha:(Aa a).length<1000000)(hbl:(Aa b).length<1000000):AK C0 209 [wD a,wD b] (.tup [wD (a/b),wD (a%b)]):=by
 rcases BL a b with h|h
 ·exact eG a b h ha hbl
 ·rcases hl:(Aa b).length with _|m
  ·have:=Ib b
   rw[hl]at this;simp at this;exact Ae this hb
  ·rcases m with _|m
   ·exact gZ a b h ha hl hb
   ·exact eH a b m h ha hl
set_option maxHeartbeats 2000000
theorem NW {x:GI}(h:x.wf)(h0:x.z ≠ -9223372036854775808):x=AV x.z:=by
 obtain⟨z,sm⟩:=x;unfold AV
 congr 1
 cases sm with
 |true=>
  have:=h.1 rfl
  dsimp only at this h0⊢;exact(AZ (show Sm z from⟨by omega,by omega⟩)).symm
 |false=>
  have:=h.2 rfl
  exact(Ad this).symm
theorem DU (z:Int):(AV z).z=z:=rfl
def De (x y:GI):GI×GI:=
 if x.sm=true/\y.sm=true/\x.z ≠ -9223372036854775808 then(⟨x.z/y.z,true⟩,⟨x.z%y.z,true⟩)
 else if x.z.tmod y.z<0 then(Hj (AV (x.z.tdiv y.z)) ⟨1,true⟩,Ds (AV (x.z.tmod y.z)) y)else(AV (x.z.tdiv y.z),AV (x.z.tmod y.z))
theorem d7 (a b:Int)(hb:0<b):(a.tmod b<0->a.tdiv b-1=a/b/\a.tmod b+b=a%b)/\(¬a.tmod b<0->a.tdiv b=a/b/\a.tmod b=a%b):=by
 have e1:=Int.tdiv_eq_ediv (a:=a) (b:=b);have e2:=Int.tmod_add_mul_tdiv a b;have e3:=Int.emod_add_mul_ediv a b;have e4:=Int.emod_nonneg a (show b≠0 by omega);have e5:=Int.emod_lt_of_pos a hb;have hsg:b.sign=1:=Int.sign_eq_one_of_pos hb;rw[hsg]at e1;split at e1
 ·rw[Int.add_zero]at e1
  rw[e1]at e2;constructor
  ·intro h;omega
  ·intro _;exact⟨e1,by omega⟩
 ·rename_i hc
  have hd:¬b ∣ a:=λh=>hc (Or.inr h)
  have hr:a%b≠0:=λh=>hd (Int.dvd_of_emod_eq_zero h)
  have e6:b*(a/b+1)=b*(a/b)+b:=by rw[Int.mul_add,Int.mul_one]
  rw[e1,e6]at e2;constructor
  ·intro _;exact⟨by omega,by omega⟩
  ·intro h;omega
theorem Xz {x y:GI}(hy:0<y.z):(De x y).1.z=x.z/y.z/\(De x y).2.z=x.z%y.z:=by
 obtain⟨f1,f2⟩:=d7 x.z y.z hy;unfold De;split
 ·exact⟨rfl,rfl⟩
 ·split
  ·rename_i h
   rw[ZU,Lh];exact f1 h
  ·rename_i h
   exact f2 h
theorem Wi {x y:GI}(hx:x.wf)(hy:y.wf)(h0:0<y.z):(De x y).1.wf/\(De x y).2.wf:=by
 unfold De;split
 ·rename_i h
  have hx1:=hx.1 h.1;have hy1:=hy.1 h.2.1;obtain⟨_,_,h3⟩:=h;have hm:=Int.emod_lt_of_pos x.z h0;have hm2:=Int.emod_nonneg x.z (show y.z≠0 by omega);refine⟨⟨λ_=>?_,λh=>by cases h⟩,⟨λ_=>⟨by dsimp only;omega,by dsimp only;omega⟩,λh=>by cases h⟩⟩;dsimp only;have e3:=Int.emod_add_mul_ediv x.z y.z;constructor
  ·rcases Int.lt_or_le (x.z/y.z) (-9223372036854775808)with h|h
   ·exfalso
    have h8:y.z*(x.z/y.z+1)<=1*(x.z/y.z+1):=Int.mul_le_mul_of_nonpos_right (by omega) (by omega);rw[Int.mul_add,Int.mul_one]at h8;omega
   ·exact h
  ·rcases Int.lt_or_le (x.z/y.z) 9223372036854775808 with h|h
   ·exact h
   ·exfalso
    have h5:(1:Int)*(x.z/y.z)<=y.z*(x.z/y.z):=Int.mul_le_mul_of_nonneg_right (by omega) (by omega);omega
 ·split
  ·exact⟨W5 _ _,LW _ _⟩
  ·exact⟨CR _,CR _⟩
theorem fK (a b:Int)(hb:0<b):Df (decide (a<0)) (a.natAbs/b.natAbs)=a.tdiv b/\Df (decide (a<0)) (a.natAbs%b.natAbs)=a.tmod b:=by
 obtain⟨n,rfl⟩:∃n:Nat,b=n:=⟨b.natAbs,by omega⟩
 rw[D6]
 by_cases h:a<0
 ·obtain⟨m,rfl⟩:∃m:Nat,a = -(m:Int):=⟨a.natAbs,by omega⟩
  rw[AZ h,K7,D6,Int.neg_tdiv,Int.neg_tmod];exact⟨rfl,rfl⟩
 ·obtain⟨m,rfl⟩:∃m:Nat,a=(m:Int):=⟨a.natAbs,by omega⟩
  rw[Ad h,D6];exact⟨rfl,rfl⟩
theorem cU (x y:GI)(hx:x.wf)(hy:y.wf)(h0:0<y.z)(fx:x.few)(fy:y.few)(hn:¬(x.sm=true/\y.sm=true/\x.z ≠ -9223372036854775808)):
  AK C0 240 [x.D,y.D] (.tup [(De x y).1.D,(De x y).2.D]):=by
 unfold De;rw[AE hn];refine Ai.walk w1 SV rfl λF=>?_
 have cx:=Ic x hx;have cy:=Ic y hy;have cd:=aL x.z.natAbs y.z.natAbs (by omega) fx fy;obtain⟨t1,t2⟩:=fK x.z y.z h0;have lq:(Aa (x.z.natAbs/y.z.natAbs)).length<1000000:=DH (Gq _ _ (GH _ _)) fx;have lr:(Aa (x.z.natAbs%y.z.natAbs)).length<1000000:=DH (Gq _ _ (Nat.mod_le _ _)) fx;have c1:=Kb (decide (x.z<0)) (x.z.natAbs/y.z.natAbs) (FS lq (by decide));have c2:=Kb (decide (x.z<0)) (x.z.natAbs%y.z.natAbs) (FS lr (by decide));rw[t1]at c1;rw[t2]at c2;have fq:(AV (x.z.tdiv y.z)).few:=by
  show(Aa (x.z.tdiv y.z).natAbs).length<1000000;rw[Int.natAbs_tdiv];exact lq
 have fr:(AV (x.z.tmod y.z)).few:=by
  show(Aa (x.z.tmod y.z).natAbs).length<1000000;rw[Int.natAbs_tmod];exact lr
 have f1:(⟨1,true⟩:GI).few:=by show(Aa 1).length<1000000;rw[LM (by decide) (by decide)];decide
 have cg:=Lw (AV (x.z.tmod y.z)) (CR _);have cs:=aF (AV (x.z.tdiv y.z)) ⟨1,true⟩ (CR _) ⟨λ_=>⟨by decide,by decide⟩,λh=>by cases h⟩ fq f1;have ca:=NV (AV (x.z.tmod y.z)) y (CR _) hy fr fy;rw[DU]at cg;have co:AK C0 152 [i64 1] (⟨1,true⟩:GI).D:=B6 DE 1000 40 (by kernel_rfl);have hpx:AA x.w:=AH;have hpy:AA y.w:=AH;have hpq:AA (AV (x.z.tdiv y.z)).w:=AH;have hpr:AA (AV (x.z.tmod y.z)).w:=AH;have hps:AA (Hj (AV (x.z.tdiv y.z)) ⟨1,true⟩).w:=AH;have hpa:AA (Ds (AV (x.z.tmod y.z)) y).w:=AH;have hp1:AA (⟨1,true⟩:GI).w:=AH;clear t1 t2 lq lr fq fr f1;dsimp only[GI.D]at*;refine fR 0 ?_;refine EB ⟨[(2,.optr 0 0 2 0 0),(3,.optr 1 1 2 0 0),(4,.optr 2 2 2 0 0),(5,.optr 3 3 2 0 0)],[⟨3,3,139,2,[Cm 0]⟩,⟨2,2,139,2,[Cm 0]⟩,⟨1,1,139,2,[.agg [i64 y.s,y.w]]⟩,⟨0,0,139,2,[.agg [i64 x.s,x.w]]⟩],90⟩ ?_ ?_
 ·obtain⟨a,sa⟩:=x
  obtain⟨b,sb⟩:=y;clear cx cy cd c1 c2 cg cs ca co hpq hpr hps hpa hp1;have nx:sa=false->(Aa a.natAbs).map AQ≠[]:=λh=>Gs (by
   intro h0;subst h;exact hx.2 rfl ⟨by dsimp only;omega,by dsimp only;omega⟩)
  have ny:sb=false->(Aa b.natAbs).map AQ≠[]:=λh=>Gs (by
   intro h0;subst h;exact hy.2 rfl ⟨by dsimp only;omega,by dsimp only;omega⟩)
  unfold GI.s GI.w wD wL at*;dsimp only at*;generalize(Aa a.natAbs).map AQ=ka at*;generalize(Aa b.natAbs).map AQ=kb at*;cases sa with
  |false=>
   have nx:=nx rfl;dsimp only at*;generalize(if a<0 then(-1:Int)else 1)=sg at*;generalize(match sb with|true=>b|false=>if b<0 then(-1:Int)else 1)=sh at*;generalize(match sb with|true=>CK|false=>D.sl false 1 kb)=wy at*;refine AC.seq ?_;refine Ak w1 100 (by kernel_rfl) ?_;refine AT (Ar (@ne_eq (List D)) nx D8) ?_;refine AD kT ?_;refine AD kT ?_;refine AD kT ?_;refine AI ?_;refine Aj ?_;exact And.intro (by trivial) (AL)
  |true=>
   dsimp only at*;cases sb with
   |false=>
    have ny:=ny rfl;dsimp only at*;generalize(if b<0 then(-1:Int)else 1)=sh at*;refine AC.seq ?_;refine Ak w1 100 (by kernel_rfl) ?_;refine AT (Ar (@ne_eq (List D)) ny D8) ?_;refine AD (Ba kT (@ne_eq (List D)) ny D8) ?_;refine AD (Ba kT (@ne_eq (List D)) ny D8) ?_;refine AD (Ba kT (@ne_eq (List D)) ny D8) ?_;refine AI ?_;refine Aj ?_;exact And.intro (by trivial) (AL)
   |true=>
    have ha:a = -9223372036854775808:=DG λh=>hn ⟨rfl,rfl,h⟩
    subst ha;dsimp only at*;refine sZ 100 ?_
    repeat'(first|(refine And.intro (by exact B0) ?_;refine Ap ?_)|((refine Bn (λhb=>?_) (λhb=>?_))<;>(try simp only[Bc,Bk]at hb)<;>(try simp only[hb])<;>(refine Ap ?_)))
    refine AI ?_;refine Aj ?_;exact And.intro (by trivial) (AL)
 ·refine fR 600 ?_
  refine dI cx ?_;refine fR 700 ?_;refine dI cy ?_;refine fR 800 ?_;refine dI cd ?_;refine fR 900 ?_;refine dI c1 ?_;refine dI c2 ?_;refine AC.seq ?_;refine fR 1000 ?_;refine dI cg ?_
  by_cases h:x.z.tmod y.z<0
  ·have e:decide (max (-1) (min 1 (x.z.tmod y.z))<0)=true:=AZ (by omega)
   rw[AF h,e];refine AI ?_;refine Bx w1 1100 [0,1,2,3,4] [5,6,7] (by kernel_rfl) ?_;refine Bz ?_;refine BQ.same _ (co) AH ?_;refine Bz ?_;refine BQ.same _ (cs) AH ?_;refine Bz ?_;refine dI ca ?_;refine AC.seq ?_;refine Ny w1 1200 [0,1,2] [3] 2 [0] (2) (by kernel_rfl) (by kernel_rfl) ?_;refine Bz ?_;refine Bz ?_;refine Ab ?_;exact AN rfl AA.out
  ·have e:decide (max (-1) (min 1 (x.z.tmod y.z))<0)=false:=Ad (by omega)
   rw[AE h,e];refine AI ?_;refine Aj ?_;refine AC.seq ?_;refine Ny w1 1200 [0,1,2] [3] 2 [0] (2) (by kernel_rfl) (by kernel_rfl) ?_;refine Bz ?_;refine Bz ?_;refine Ab ?_;exact AN rfl AA.out
theorem Vy (x y:GI)(hx:x.wf)(hy:y.wf)(h0:0<y.z)(fx:x.few)(fy:y.few):AK C0 240 [x.D,y.D] (.tup [(De x y).1.D,(De x y).2.D]):=by
 by_cases h:x.sm=true/\y.sm=true/\x.z ≠ -9223372036854775808
 ·unfold De
  rw[AF h];obtain⟨a,sa⟩:=x;obtain⟨b,sb⟩:=y;obtain⟨h1,h2,h3⟩:=h;dsimp only at h1 h2 h3 h0;subst h1;subst h2;have ra:=hx.1 rfl;have rb:=hy.1 rfl;dsimp only at ra rb;exact eF a b h0 ⟨by omega,by omega⟩ ⟨by omega,by omega⟩
 ·exact cU x y hx hy h0 fx fy h
theorem Zz (x y:GI)(hx:x.wf)(hy:y.wf)(h0:0<y.z)(fx:x.few)(fy:y.few):AK C0 196 [x.D,y.D] (De x y).1.D:=by
 refine Ai.walk w1 Yo rfl λF=>?_
 have cg:=Lw y hy;have cd:=Vy x y hx hy h0 fx fy;have e1:decide (max (-1) (min 1 y.z)<0)=false:=Ad (by omega);have hpx:AA x.w:=AH;have hpy:AA y.w:=AH;have hpq:AA (De x y).1.w:=AH;have hpr:AA (De x y).2.w:=AH;dsimp only[GI.D]at*;generalize(De x y).1.s=qs at*;generalize(De x y).1.w=qw at*;generalize(De x y).2.s=rs at*;generalize(De x y).2.w=rw at*;refine fR 0 ?_;refine AC.seq ?_;refine fR 100 ?_;refine dI cg ?_;rw[e1];refine AI ?_;refine Aj ?_;refine fR 300 ?_;refine dI cd ?_;refine fR 400 ?_;refine Ab ?_;exact AN rfl AA.out
theorem WL (x:GI)(h:x.wf):Kx x=AV (x.z.natAbs:Nat):=by
 have h1:=jA x h;have h2:=l5 x;rw[NW h1 (by omega),h2]
theorem HN {n:Nat}(h:(Aa n).length<1000000):(AV (n:Int)).few:=by
 show(Aa (n:Int).natAbs).length<1000000;rw[D6];exact h
theorem Vx {a b:Nat}(hb:0<b):De (AV a) (AV b)=(AV ((a/b:Nat):Int),AV ((a%b:Nat):Int)):=by
 have hb':(0:Int)<(AV (b:Int)).z:=by show(0:Int)<(b:Int);omega
 obtain⟨h1,h2⟩:=Wi (CR a) (CR b) hb';obtain⟨h3,h4⟩:=Xz (x:=AV a) hb';have e3:(De (AV a) (AV b)).1.z=((a/b:Nat):Int):=by rw[h3];exact(Int.natCast_ediv a b).symm
 have e4:(De (AV a) (AV b)).2.z=((a%b:Nat):Int):=by rw[h4];exact(Int.natCast_emod a b).symm
 have c3:=NW h1 (by rw[e3];generalize a/b=q;omega);have c4:=NW h2 (by rw[e4];generalize a%b=q;omega);rw[e3]at c3;rw[e4]at c4;generalize De (AV a) (AV b)=p at*;obtain⟨p1,p2⟩:=p;dsimp only at c3 c4;rw[c3,c4]
theorem Z9 (x y:GI)(hx:x.wf)(hy:y.wf)(fx:x.few)(fy:y.few):AK C0 195 [x.D,y.D] (AV (Nat.gcd x.z.natAbs y.z.natAbs:Nat)).D:=by
 refine Ai.walk w1 Yn rfl λF=>?_
 have c1:=Zb x hx fx;have c2:=Zb y hy fy;rw[WL x hx]at c1;rw[WL y hy]at c2;have hpx:AA x.w:=AH;have hpy:AA y.w:=AH;have hpm:∀n:Nat,AA (AV (n:Int)).w:=λn=>AH
 unfold GI.few at fx fy;generalize x.z.natAbs=a at*;generalize y.z.natAbs=b at*;dsimp only[GI.D]at*;refine fR 0 ?_;refine AC.seq ?_;refine Bx w1 100 [0,1,2] [3,4,5] (by kernel_rfl) ?_;refine Bz ?_;refine BQ.same _ (c1) AH ?_;refine Bz ?_;refine dI c2 ?_;refine AC.seq ?_;refine AC.block ?_;refine AC.loop (α:=Nat×Nat×Nat) (λp=>⟨[(2,.optr 0 0 2 0 0),(3,.optr 1 1 2 0 0),(4,.optr 2 2 2 0 0)],[⟨2,2,139,2,[Cm 0]⟩,⟨1,1,139,2,[.agg [i64 (AV (p.2.1:Int)).s,(AV (p.2.1:Int)).w]]⟩,⟨0,0,139,2,[.agg [i64 (AV (p.1:Int)).s,(AV (p.1:Int)).w]]⟩],p.2.2⟩) (λp=>p.2.1)
  (λp=>Nat.gcd p.1 p.2.1=Nat.gcd a b/\(Aa p.1).length<1000000/\(Aa p.2.1).length<1000000) (a,b,_) ⟨rfl,fx,fy⟩ AL ?_
 rintro⟨u,v,n⟩ F ⟨g1,g2,g3⟩;dsimp only at g1 g2 g3⊢;have cg:=Lw (AV (v:Int)) (CR _);rw[DU]at cg;dsimp only[GI.D]at cg;refine AC.seq ?_;refine fR 200 ?_;refine dI cg ?_;rcases DY v with hv|hv
 ·subst hv
  have e2:(max (-1) (min 1 ((0:Nat):Int)) != 0)=false:=by decide
  rw[e2];refine AI ?_;refine By ?_;refine fR 500 ?_;refine Ab ?_;refine AN ?_ AA.out;rw[<-g1,Nat.gcd_zero_right]
 ·have e2:(max (-1) (min 1 (v:Int)) != 0)=true:=by
   have:max (-1) (min 1 (v:Int))=1:=by omega
   rw[this];rfl
  have cd:=Vy (AV (u:Int)) (AV (v:Int)) (CR _) (CR _) (by show(0:Int)<(v:Int);omega) (HN g2) (HN g3);rw[Vx hv]at cd;dsimp only[GI.D]at cd;rw[e2];refine AI ?_;refine Aj ?_;refine AC.block ?_;refine fR 300 ?_;refine dI cd ?_;refine Ny w1 400 [0,1,2] [3] 2 [0] (0) (by kernel_rfl) (by kernel_rfl) ?_;refine Bz ?_;refine Bz ?_;have hm:u%v<v:=Bs u hv;refine⟨(v,u%v,_),⟨?_,g3,DH (Gq _ _ (Nat.mod_le _ _)) g2⟩,hm,AL⟩;rw[<-g1,MT u v,Nat.gcd_rec v u,MT]
structure GF where
 n:GI
 d:Nat
abbrev GF.D (x:GF):D:=.agg [i64 x.n.s,x.n.w,i64 (AV (x.d:Int)).s,(AV (x.d:Int)).w]
def HG (r:Rat)(x:GF):Prop:=x.n.wf/\x.n.z=r.num/\x.d=r.den
theorem jn {a b:Nat}(hb:0<b)(h:(Aa b).length<1000000):(Aa (Nat.gcd a b)).length<1000000:=DH (Gq _ _ (Nat.gcd_le_right _ hb)) h
def HX (x:GI)(d:Nat):GF:=if d=1 then⟨x,1⟩else⟨(De x (AV (Nat.gcd x.z.natAbs d:Nat))).1,d/Nat.gcd x.z.natAbs d⟩
theorem PB (x:GI)(d:Nat)(hx:x.wf)(hd:0<d):HG (mkRat x.z d) (HX x d):=by
 have hg:0<Nat.gcd x.z.natAbs d:=N9 _ hd;have e:mkRat x.z d=Rat.normalize x.z d (by omega):=(Rat.normalize_eq_mkRat _).symm;rw[e,Rat.normalize_eq];unfold HX;split
 ·rename_i h
  subst h;refine⟨hx,?_,?_⟩
  ·dsimp only;rw[Nat.gcd_one_right];simp
  ·dsimp only;rw[Nat.gcd_one_right]
 ·have hg':(0:Int)<(AV (Nat.gcd x.z.natAbs d:Nat)).z:=by show(0:Int)<(Nat.gcd x.z.natAbs d:Nat);omega
  exact⟨(Wi hx (CR _) hg').1,(Xz hg').1,rfl⟩
theorem Sd:AV ((1:Nat):Int)=⟨1,true⟩:=Ii ⟨by decide,by decide⟩
theorem QU {d:Nat}(h:Sm (d:Int)):(AV (d:Int)).s=(d:Int)/\(AV (d:Int)).w=CK:=by rw[Ii h];exact⟨rfl,rfl⟩
theorem TX {d:Nat}(h:¬Sm (d:Int)):(AV (d:Int)).s=1/\(AV (d:Int)).w=.sl false 1 ((Aa d).map AQ)/\(Aa d).map AQ≠[]:=by
 rw[Sc h];refine⟨?_,rfl,Gs ?_⟩
 ·show(if(d:Int)<0 then(-1:Int)else 1)=1
  rw[AE (by omega)]
 ·intro h0
  subst h0;exact h ⟨by decide,by decide⟩
def Jp (x y:GI):GF:=HX (if y.z<0 then AV (-x.z)else x) y.z.natAbs
theorem io (x y:GI)(hx:x.wf)(h0:y.z≠0):HG (Rat.divInt x.z y.z) (Jp x y):=by
 unfold Jp
 by_cases h:y.z<0
 ·rw[AF h]
  have:=PB (AV (-x.z)) y.z.natAbs (CR _) (by omega)
  rw[DU]at this;have e:mkRat (-x.z) y.z.natAbs=Rat.divInt x.z y.z:=by
   obtain⟨k,hk⟩:∃k,y.z=Int.negSucc k:=by
    cases hy:y.z with
    |ofNat n=>rw[hy]at h;simp at h;omega
    |negSucc k=>exact⟨k,rfl⟩
   rw[hk];show mkRat (-x.z) (k+1)=_;exact(Rat.normalize_eq_mkRat (by omega)).symm
  rw[e]at this;exact this
 ·rw[AE h]
  have:=PB x y.z.natAbs hx (by omega)
  have e:mkRat x.z y.z.natAbs=Rat.divInt x.z y.z:=by
   rw[<-Rat.divInt_ofNat];congr 1;omega
  rw[e]at this;exact this
theorem Yb (x y:GI)(hx:x.wf)(hy:y.wf)(h0:y.z≠0)(fx:x.few)(fy:y.few):AK C0 150 [x.D,y.D] (Jp x y).D:=by
 refine Ai.walk w1 Xi rfl λF=>?_
 have cg:=Lw y hy;have cn1:=NX x hx fx;have cn2:=NX y hy fy;obtain⟨x',hx'⟩:∃x',x'=if y.z<0 then AV (-x.z)else x:=⟨_,rfl⟩
 have wx':x'.wf:=by rw[hx'];split;exact CR _;exact hx
 have fx':x'.few:=by rw[hx'];split;exact WV fx;exact fx
 have hd:0<y.z.natAbs:=by omega
 have fd:(Aa y.z.natAbs).length<1000000:=fy;have fdg:=HN fd;have ey:y.z<0->AV (-y.z)=AV (y.z.natAbs:Int):=λh=>by congr 1;omega
 have ey':¬y.z<0->y=AV (y.z.natAbs:Int):=λh=>by
  rw[NW hy (by omega)];show AV y.z=AV (y.z.natAbs:Int)
  congr 1;omega
 unfold Jp;rw[<-hx'];generalize hdd:y.z.natAbs=d at*;have hpx:AA x.w:=AH;have hpy:AA y.w:=AH;have hpx':AA x'.w:=AH;have hpd:AA (AV (d:Int)).w:=AH;have hg:0<Nat.gcd x'.z.natAbs d:=N9 _ hd;have cc:=Z9 x' (AV (d:Int)) wx' (CR _) fx' fdg;rw[DU,D6]at cc;have fgg:(AV (Nat.gcd x'.z.natAbs d:Nat)).few:=HN (jn hd fd);have cq1:=Zz x' (AV (Nat.gcd x'.z.natAbs d:Nat)) wx' (CR _) (by show(0:Int)<(Nat.gcd x'.z.natAbs d:Nat);omega) fx' fgg;have cq2:=Zz (AV (d:Int)) (AV (Nat.gcd x'.z.natAbs d:Nat)) (CR _) (CR _) (by show(0:Int)<(Nat.gcd x'.z.natAbs d:Nat);omega) fdg fgg;rw[Vx hg]at cq2;have hpg:AA (AV ((Nat.gcd x'.z.natAbs d:Nat):Int)).w:=AH;have hpq1:AA (De x' (AV (Nat.gcd x'.z.natAbs d:Nat))).1.w:=AH;have hpq2:AA (AV ((d/Nat.gcd x'.z.natAbs d:Nat):Int)).w:=AH;unfold HX GF.D;dsimp only[GI.D]at*;refine fR 0 ?_;refine EB ⟨[(2,.optr 0 0 2 0 0),(3,.optr 1 1 2 0 0),(4,.optr 2 2 4 0 0)],[⟨2,2,141,4,[.agg [i64 0,CK,i64 0,CK]]⟩,⟨1,1,139,2,[.agg [i64 (AV (d:Int)).s,(AV (d:Int)).w]]⟩,⟨0,0,139,2,[.agg [i64 x'.s,x'.w]]⟩],90⟩ ?_ ?_
 ·by_cases h:y.z<0
  ·have e1:decide (max (-1) (min 1 y.z)<0)=true:=AZ (by omega)
   rw[AF h]at hx';subst hx';rw[<-ey h];refine fR 100 ?_;refine dI cg ?_;rw[e1];refine AI ?_;refine Bx w1 200 [0,1,2] [3,4,5] (by kernel_rfl) ?_;refine Bz ?_;refine BQ.same _ (cn1) AH ?_;refine Bz ?_;refine dI cn2 ?_;exact⟨rfl,AL⟩
  ·have e1:decide (max (-1) (min 1 y.z)<0)=false:=Ad (by omega)
   rw[AE h]at hx';subst hx';have ey:=ey' h;refine fR 100 ?_;refine dI cg ?_;rw[e1];refine AI ?_;refine Aj ?_;rw[<-ey];exact⟨rfl,AL⟩
 by_cases h1:d=1
 ·subst h1
  rw[AF rfl,Sd];refine AC.seq ?_;refine sZ 300 ?_
  repeat'(first|(refine And.intro (by exact B0) ?_;refine Ap ?_)|((refine Bn (λhb=>?_) (λhb=>?_))<;>(try simp only[Bc,Bk]at hb)<;>(try simp only[hb])<;>(refine Ap ?_)))
  refine AI ?_;refine fR 400 ?_;refine Ab ?_;exact AN rfl AA.out
 ·rw[AE h1]
  refine EB ⟨[(2,.optr 0 0 2 0 0),(3,.optr 1 1 2 0 0),(4,.optr 2 2 4 0 0)],[⟨2,2,141,4,[.agg [i64 0,CK,i64 0,CK]]⟩,⟨1,1,139,2,[.agg [i64 (AV (d:Int)).s,(AV (d:Int)).w]]⟩,⟨0,0,139,2,[.agg [i64 x'.s,x'.w]]⟩],98⟩ ?_ ?_
  ·by_cases hs:Sm (d:Int)
   ·obtain⟨a1,a2⟩:=QU hs
    rw[a1,a2];have e2:((d:Int)==1)=false:=Bv.2 (by omega);refine sZ 300 ?_
    repeat'(first|(refine And.intro (by exact B0) ?_;refine Ap ?_)|((refine Bn (λhb=>?_) (λhb=>?_))<;>(try simp only[Bc,Bk]at hb)<;>(try simp only[hb])<;>(refine Ap ?_)))
    try simp only[e2]
    refine AI ?_;refine Aj ?_;exact⟨rfl,⟨GS _,⟨.refl _,.refl _,.refl _,trivial⟩,Af _⟩⟩
   ·obtain⟨a1,a2,a3⟩:=TX hs
    rw[a1,a2];generalize(Aa d).map AQ=l at*;refine AC.seq ?_;refine Ak w1 300 (by kernel_rfl) ?_;refine AT (Ar (@ne_eq (List D)) a3 D8) ?_;refine AD kT ?_;refine AI ?_;refine Aj ?_;exact⟨rfl,⟨GS _,⟨.refl _,.refl _,.refl _,trivial⟩,Af _⟩⟩
  ·refine fR 500 ?_
   refine dI cc ?_;refine AC.seq ?_;refine Bx w1 600 [0,1,2,3,4] [5,6,7] (by kernel_rfl) ?_;refine Bz ?_;refine BQ.same _ (cq1) AH ?_;refine Bz ?_;refine dI cq2 ?_;refine Ab ?_;exact AN rfl AA.out
def rk (r:Rat)(k:Nat):Prop:=(Aa r.num.natAbs).length<=k/\(Aa r.den).length<=k
theorem rk.mono {r:Rat}{k l:Nat}(h:rk r k)(hl:k<=l):rk r l:=⟨BP h.1 hl,BP h.2 hl⟩
theorem Pc {n:Int}{d k:Nat}(hd:d≠0)(h1:(Aa n.natAbs).length<=k)(h2:(Aa d).length<=k):rk (Rat.normalize n d hd) k:=by
 rw[Rat.normalize_eq];exact⟨BP (Gq _ _ (Int.natAbs_ediv_le_natAbs _ _)) h1,BP (Gq _ _ (GH _ _)) h2⟩
theorem JP (a b:Int):(Aa (a*b).natAbs).length<=(Aa a.natAbs).length+(Aa b.natAbs).length:=by
 rw[MP];exact KM _ _
theorem Un (a b:Int):(Aa (a+b).natAbs).length<=max (Aa a.natAbs).length (Aa b.natAbs).length+1:=
 BP (Gq _ _ (Int.natAbs_add_le a b)) (VV _ _)
theorem ZM {a b:Rat}{i j:Nat}(ha:rk a i)(hb:rk b j):rk (a+b) (i+j+1):=by
 rw[Rat.add_def];have h1:=JP a.num b.den;have h2:=JP b.num a.den;have h3:=Un (a.num*b.den) (b.num*a.den);have h4:=KM a.den b.den;rw[D6]at h1 h2;obtain⟨a1,a2⟩:=ha;obtain⟨b1,b2⟩:=hb;exact Pc _ (by omega) (by omega)
theorem qM {a b:Rat}{i j:Nat}(ha:rk a i)(hb:rk b j):rk (a*b) (i+j):=by
 rw[Rat.mul_def];have h1:=JP a.num b.num;have h4:=KM a.den b.den;obtain⟨a1,a2⟩:=ha;obtain⟨b1,b2⟩:=hb;exact Pc _ (by omega) (by omega)
structure FR (r:Rat)(x:GF)(k:Nat):Prop where
 is:HG r x
 rk:rk r k
theorem FR.fn {r:Rat}{x:GF}{k:Nat}(h:FR r x k)(hk:k<1000000):x.n.few:=by
 show(Aa x.n.z.natAbs).length<1000000;rw[h.is.2.1];have:=h.rk.1;omega
theorem FR.ln {r:Rat}{x:GF}{k:Nat}(h:FR r x k):(Aa x.n.z.natAbs).length<=k:=by rw[h.is.2.1];exact h.rk.1
theorem FR.ld {r:Rat}{x:GF}{k:Nat}(h:FR r x k):(Aa x.d).length<=k:=by rw[h.is.2.2];exact h.rk.2
theorem FR.dpos {r:Rat}{x:GF}{k:Nat}(h:FR r x k):0<x.d:=by rw[h.is.2.2];exact r.den_pos
theorem Nt (x:GI)(d:Nat)(hx:x.wf)(fx:(Aa x.z.natAbs).length<400000)(fd:(Aa d).length<400000):AK C0 151 [x.D,(AV (d:Int)).D] (AV (x.z*d)).D:=by
 have:=Zv x (AV (d:Int)) hx (CR _) fx (by rw[DU,D6];exact fd)
 rwa [DU]at this
theorem TY (c d:Nat)(fc:(Aa c).length<400000)(fd:(Aa d).length<400000):AK C0 151 [(AV (c:Int)).D,(AV (d:Int)).D] (AV ((c*d:Nat):Int)).D:=by
 have:=Nt (AV (c:Int)) d (CR _) (by rw[DU,D6];exact fc) fd
 rw[DU,<-FW]at this;exact this
theorem Vk (x:GI)(d:Nat)(hx:x.wf)(hd:0<d)(fx:x.few)(fd:(Aa d).length<1000000):AK C0 150 [x.D,(AV (d:Int)).D] (HX x d).D:=by
 have:=Yb x (AV (d:Int)) hx (CR _) (by rw[DU];omega) fx (HN fd)
 unfold Jp at this;rw[DU,AE (by omega),D6]at this;exact this
theorem RN (x:GF)(hd:0<x.d):AK C0 153 [x.D] (Aq (decide (x.d=1))):=by
 refine Ai.walk w1 Xk rfl λF=>?_
 obtain⟨y,d⟩:=x;dsimp only[GF.D]at hd⊢;have hpy:AA y.w:=AH;generalize y.s=ys at*;generalize y.w=yw at*
 by_cases hs:Sm (d:Int)
 ·obtain⟨a1,a2⟩:=QU hs
  rw[a1,a2];have e2:((d:Int)==1)=decide (d=1):=by
   rw[FU,Dt,decide_eq_true_iff];omega
  refine fR 0 ?_;refine sZ 100 ?_
  repeat'(first|(refine And.intro (by exact B0) ?_;refine Ap ?_)|((refine Bn (λhb=>?_) (λhb=>?_))<;>(try simp only[Bc,Bk]at hb)<;>(try simp only[hb])<;>(refine Ap ?_)))
  try simp only[e2]
  refine Ab ?_;exact AN rfl AA.out
 ·obtain⟨a1,a2,a3⟩:=TX hs
  rw[a1,a2];have e2:decide (d=1)=false:=Ad λh=>hs (by rw[h];exact⟨by decide,by decide⟩)
  rw[e2];generalize(Aa d).map AQ=l at*;refine fR 0 ?_;refine AC.seq ?_;refine Ak w1 100 (by kernel_rfl) ?_;refine AT (Ar (@ne_eq (List D)) a3 D8) ?_;refine AD kT ?_;refine Ab ?_;exact AN rfl AA.out
def Iw (x y:GF):GF:=if x.d=1/\y.d=1 then⟨Ds x.n y.n,1⟩else HX (Ds (AV (x.n.z*y.d)) (AV (y.n.z*x.d))) (x.d*y.d)
theorem jB {a b:Rat}{x y:GF}(hx:HG a x)(hy:HG b y):HG (a+b) (Iw x y):=by
 obtain⟨x1,x2,x3⟩:=hx;obtain⟨y1,y2,y3⟩:=hy;rw[Rat.add_def,Rat.normalize_eq_mkRat,<-x2,<-x3,<-y2,<-y3];unfold Iw;split
 ·rename_i h
  rw[h.1,h.2];refine⟨LW _ _,?_,?_⟩
  ·dsimp only
   rw[Lh];show _=(mkRat (x.n.z*1+y.n.z*1) 1).num;rw[Int.mul_one,Int.mul_one,Rat.mkRat_one,Rat.num_intCast]
  ·dsimp only
   show _=(mkRat (x.n.z*1+y.n.z*1) 1).den;rw[Rat.mkRat_one,Rat.den_intCast]
 ·have:=PB (Ds (AV (x.n.z*y.d)) (AV (y.n.z*x.d))) (x.d*y.d) (LW _ _) (Gm (by rw[x3];exact a.den_pos) (by rw[y3];exact b.den_pos))
  rw[Lh,DU,DU]at this;exact this
theorem XN (x:GI):AK C0 148 [x.D] (⟨x,1⟩:GF).D:=by
 refine Ai.walk w1 SQ rfl λF=>?_
 have hpx:AA x.w:=AH;unfold GF.D;rw[Sd];dsimp only[GI.D]at*;refine fR 0 ?_;refine AC.seq ?_;refine Bx w1 100 [0,1] [2,3] (by kernel_rfl) ?_;refine Bz ?_;refine BQ.same _ (NY 1) AH ?_;refine Bz ?_;refine Ab ?_;exact AN rfl AA.out
theorem Pg {a b:Rat}{x y:GF}{i j:Nat}(hx:FR a x i)(hy:FR b y j)(hk:i+j<300000):AK C0 106 [x.D,y.D] (Iw x y).D:=by
 refine Ai.walk w1 XR rfl λF=>?_
 have v1:=RN x hx.dpos;have v2:=RN y hy.dpos;have l1:=hx.ln;have l2:=hy.ln;have l3:=hx.ld;have l4:=hy.ld;have dp:=Gm hx.dpos hy.dpos;have m1:=Nt x.n y.d hx.is.1 (by omega) (by omega);have m2:=Nt y.n x.d hy.is.1 (by omega) (by omega);have m3:=TY x.d y.d (by omega) (by omega);have z1:=JP x.n.z y.d;have z2:=JP y.n.z x.d;rw[D6]at z1 z2;have z3:=Un (x.n.z*y.d) (y.n.z*x.d);have z4:=KM x.d y.d;have s1:=NV (AV (x.n.z*y.d)) (AV (y.n.z*x.d)) (CR _) (CR _) (by show(Aa (x.n.z*y.d).natAbs).length<1000000;omega) (by show(Aa (y.n.z*x.d).natAbs).length<1000000;omega);have s0:=NV x.n y.n hx.is.1 hy.is.1 (hx.fn (by omega)) (hy.fn (by omega));have mk:=Vk (Ds (AV (x.n.z*y.d)) (AV (y.n.z*x.d))) (x.d*y.d) (LW _ _) dp (by
  show(Aa (Ds (AV (x.n.z*y.d)) (AV (y.n.z*x.d))).z.natAbs).length<1000000;rw[Lh,DU,DU];omega) (by omega)
 have wg:=XN (Ds x.n y.n);have hp1:AA x.n.w:=AH;have hp2:AA y.n.w:=AH;have hp3:AA (AV (x.d:Int)).w:=AH;have hp4:AA (AV (y.d:Int)).w:=AH;have hp5:AA (Ds x.n y.n).w:=AH;have hp6:AA (Ds (AV (x.n.z*y.d)) (AV (y.n.z*x.d))).w:=AH;have hp7:AA (AV (x.n.z*y.d)).w:=AH;have hp8:AA (AV (y.n.z*x.d)).w:=AH;have hp9:AA (AV ((x.d*y.d:Nat):Int)).w:=AH;have hq1:AA (HX (Ds (AV (x.n.z*y.d)) (AV (y.n.z*x.d))) (x.d*y.d)).n.w:=AH;have hq2:AA (AV ((HX (Ds (AV (x.n.z*y.d)) (AV (y.n.z*x.d))) (x.d*y.d)).d:Int)).w:=AH;have hq3:AA (AV ((1:Nat):Int)).w:=AH;unfold Iw;clear z1 z2 z3 z4 l1 l2 l3 l4 dp hk hx hy;dsimp only[GI.D,GF.D]at*
 by_cases e1:x.d=1
 ·have fb:decide (x.d=1)=true:=AZ e1
  rw[fb]at v1
  by_cases e2:y.d=1
  ·have fd:decide (y.d=1)=true:=AZ e2
   rw[fd]at v2;rw[AF ⟨e1,e2⟩];refine fR 0 ?_;refine AC.seq ?_;refine fR 100 ?_;refine dI v1 ?_;dsimp only[Ly];refine Bz ?_;dsimp only[Ly];refine Bz ?_;refine dI v2 ?_;refine AI ?_;refine fR 200 ?_;refine dI s0 ?_;refine dI wg ?_;refine Ab ?_;exact AN rfl AA.out
  ·have fd:decide (y.d=1)=false:=Ad e2
   rw[fd]at v2;rw[AE λh=>e2 h.2];refine fR 0 ?_;refine AC.seq ?_;refine fR 100 ?_;refine dI v1 ?_;dsimp only[Ly];refine Bz ?_;dsimp only[Ly];refine Bz ?_;refine dI v2 ?_;refine AI ?_;refine Aj ?_;refine AC.seq ?_;refine Bx w1 300 [0,1,2,3,4,5,6,7,8,9,10,11,12,13,14] [15,16,17] (by kernel_rfl) ?_;refine Bz ?_;refine BQ.same _ (m1) AH ?_;refine Bz ?_;refine BQ.same _ (m2) AH ?_;refine Bz ?_;refine BQ.same _ (s1) AH ?_;refine Bz ?_;refine dI m3 ?_;refine dI mk ?_;refine Ab ?_;exact AN rfl AA.out
 ·have fb:decide (x.d=1)=false:=Ad e1
  rw[fb]at v1;rw[AE λh=>e1 h.1];refine fR 0 ?_;refine AC.seq ?_;refine fR 100 ?_;refine dI v1 ?_;dsimp only[P9];refine Bz ?_;dsimp only[P9];refine Bz ?_;refine AI ?_;refine Aj ?_;refine AC.seq ?_;refine Bx w1 300 [0,1,2,3,4,5,6,7,8,9,10,11,12,13,14] [15,16,17] (by kernel_rfl) ?_;refine Bz ?_;refine BQ.same _ (m1) AH ?_;refine Bz ?_;refine BQ.same _ (m2) AH ?_;refine Bz ?_;refine BQ.same _ (s1) AH ?_;refine Bz ?_;refine dI m3 ?_;refine dI mk ?_;refine Ab ?_;exact AN rfl AA.out
theorem PJ {a b:Rat}{x y:GF}{i j:Nat}(hx:FR a x i)(hy:FR b y j):FR (a+b) (Iw x y) (i+j+1):=⟨jB hx.is hy.is,ZM hx.rk hy.rk⟩
def Hh (x y:GF):GF:=HX (AV (x.n.z*y.n.z)) (x.d*y.d)
theorem jW {a b:Rat}{x y:GF}(hx:HG a x)(hy:HG b y):HG (a*b) (Hh x y):=by
 obtain⟨x1,x2,x3⟩:=hx;obtain⟨y1,y2,y3⟩:=hy;rw[Rat.mul_def,Rat.normalize_eq_mkRat,<-x2,<-x3,<-y2,<-y3]
 have:=PB (AV (x.n.z*y.n.z)) (x.d*y.d) (CR _) (Gm (by rw[x3];exact a.den_pos) (by rw[y3];exact b.den_pos))
 rw[DU]at this;exact this
theorem R2 {a b:Rat}{x y:GF}{i j:Nat}(hx:FR a x i)(hy:FR b y j):FR (a*b) (Hh x y) (i+j):=⟨jW hx.is hy.is,qM hx.rk hy.rk⟩
theorem SP {a b:Rat}{x y:GF}{i j:Nat}(hx:FR a x i)(hy:FR b y j)(hk:i+j<300000):AK C0 104 [x.D,y.D] (Hh x y).D:=by
 refine Ai.walk w1 YC rfl λF=>?_
 have l1:=hx.ln;have l2:=hy.ln;have l3:=hx.ld;have l4:=hy.ld;have dp:=Gm hx.dpos hy.dpos;have z1:=JP x.n.z y.n.z;have z4:=KM x.d y.d;have m1:=Zv x.n y.n hx.is.1 hy.is.1 (by omega) (by omega);have m3:=TY x.d y.d (by omega) (by omega);have mk:=Vk (AV (x.n.z*y.n.z)) (x.d*y.d) (CR _) dp (by show(Aa (x.n.z*y.n.z).natAbs).length<1000000;omega) (by omega);have p1:AA x.n.w:=AH;have p2:AA y.n.w:=AH;have p3:AA (AV (x.d:Int)).w:=AH;have p4:AA (AV (y.d:Int)).w:=AH;have p5:AA (AV (x.n.z*y.n.z)).w:=AH;have p6:AA (AV ((x.d*y.d:Nat):Int)).w:=AH;have p7:AA (HX (AV (x.n.z*y.n.z)) (x.d*y.d)).n.w:=AH;have p8:AA (AV ((HX (AV (x.n.z*y.n.z)) (x.d*y.d)).d:Int)).w:=AH;unfold Hh;clear l1 l2 l3 l4 dp z1 z4 hx hy;dsimp only[GI.D,GF.D]at*;refine fR 0 ?_;refine AC.seq ?_;refine Bx w1 100 [0,1,2,3,4,5,6,7,8] [9,10,11] (by kernel_rfl) ?_;refine Bz ?_;refine BQ.same _ (m1) AH ?_;refine Bz ?_;refine dI m3 ?_;refine dI mk ?_;refine Ab ?_;exact AN rfl AA.out
def I5 (x:GF):GF:=Jp (AV (x.d:Int)) x.n
theorem jP {a:Rat}{x:GF}(hx:HG a x)(h0:a≠0):HG a⁻¹ (I5 x):=by
 obtain⟨x1,x2,x3⟩:=hx;have hn:x.n.z≠0:=by
  rw[x2];intro h;exact h0 (Rat.num_eq_zero.1 h)
 rw[Rat.inv_def,<-x2,<-x3];exact io (AV (x.d:Int)) x.n (CR _) hn
theorem qL {a:Rat}{k:Nat}(h:rk a k)(h0:a≠0):rk a⁻¹ k:=by
 rw[Rat.inv_def];obtain⟨h1,h2⟩:=h;have hn:a.num≠0:=λh=>h0 (Rat.num_eq_zero.1 h)
 rcases Int.lt_or_gt_of_ne hn with h|h
 ·obtain⟨m,hm⟩:∃m,a.num=Int.negSucc m:=by
   cases hy:a.num with
   |ofNat n=>rw[hy]at h;simp at h;omega
   |negSucc k=>exact⟨k,rfl⟩
  rw[hm]at h1⊢;exact Pc (n:=-(a.den:Int)) (d:=m+1) (by omega) (by rw[K7,D6];exact h2) h1
 ·obtain⟨m,hm⟩:∃m:Nat,a.num=(m:Int):=⟨a.num.natAbs,by omega⟩
  rw[hm]at h1 h⊢;rw[Rat.divInt_ofNat,<-Rat.normalize_eq_mkRat (by omega)];exact Pc _ (by rw[D6];exact h2) (by rw[D6]at h1;exact h1)
theorem Wx {a:Rat}{x:GF}{k:Nat}(h:FR a x k)(h0:a≠0):FR a⁻¹ (I5 x) k:=⟨jP h.is h0,qL h.rk h0⟩
theorem mU {a:Rat}{x:GF}{k:Nat}(h:FR a x k)(h0:a≠0)(hk:k<1000000):AK C0 158 [x.D] (I5 x).D:=by
 refine Ai.walk w1 Xl rfl λF=>?_
 have l3:=h.ld;have hn:x.n.z≠0:=by
  rw[h.is.2.1];intro h;exact h0 (Rat.num_eq_zero.1 h)
 have mk:=Yb (AV (x.d:Int)) x.n (CR _) h.is.1 hn (HN (by omega)) (h.fn hk);have p1:AA x.n.w:=AH;have p3:AA (AV (x.d:Int)).w:=AH;have p7:AA (Jp (AV (x.d:Int)) x.n).n.w:=AH;have p8:AA (AV ((Jp (AV (x.d:Int)) x.n).d:Int)).w:=AH;unfold I5;dsimp only[GI.D,GF.D]at*;refine fR 0 ?_;refine fR 100 ?_;refine dI mk ?_;refine Ab ?_;exact AN rfl AA.out
def QO (x y:GF):GF:=Hh x (I5 y)
theorem jg {a b:Rat}{x y:GF}{i j:Nat}(hx:FR a x i)(hy:FR b y j)(h0:b≠0):FR (a/b) (QO x y) (i+j):=by
 rw[Rat.div_def];exact R2 hx (Wx hy h0)
theorem mT {a b:Rat}{x y:GF}{i j:Nat}(hx:FR a x i)(hy:FR b y j)(h0:b≠0)(hk:i+j<300000):AK C0 110 [x.D,y.D] (QO x y).D:=by
 refine Ai.walk w1 XV rfl λF=>?_
 have c1:=mU hy h0 (by omega);have c2:=SP hx (Wx hy h0) hk;have p1:AA x.n.w:=AH;have p2:AA y.n.w:=AH;have p3:AA (AV (x.d:Int)).w:=AH;have p4:AA (AV (y.d:Int)).w:=AH;have p5:AA (I5 y).n.w:=AH;have p6:AA (AV ((I5 y).d:Int)).w:=AH;have p7:AA (Hh x (I5 y)).n.w:=AH;have p8:AA (AV ((Hh x (I5 y)).d:Int)).w:=AH;unfold QO;dsimp only[GI.D,GF.D]at*;refine fR 0 ?_;refine AC.seq ?_;refine Bx w1 100 [0,1,2] [3,4] (by kernel_rfl) ?_;refine Bz ?_;refine BQ.same _ (c1) AH ?_;refine Bz ?_;refine dI c2 ?_;refine Ab ?_;exact AN rfl AA.out
def K0 (a b:Rat):Int:=if a<b then -1 else if b<a then 1 else 0
theorem lJ (a b:Rat):Dd (a.num*b.den) (b.num*a.den)=K0 a b:=by
 unfold Dd K0;simp only[Rat.lt_iff]
theorem lT {a b:Rat}{x y:GF}{i j:Nat}(hx:FR a x i)(hy:FR b y j)(hk:i+j<300000):AK C0 232 [x.D,y.D] (i64 (K0 a b)):=by
 refine Ai.walk w1 Y2 rfl λF=>?_
 have l1:=hx.ln;have l2:=hy.ln;have l3:=hx.ld;have l4:=hy.ld;have m1:=Nt x.n y.d hx.is.1 (by omega) (by omega);have m2:=Nt y.n x.d hy.is.1 (by omega) (by omega);have z1:=JP x.n.z y.d;have z2:=JP y.n.z x.d;rw[D6]at z1 z2;have cm:=rV (AV (x.n.z*y.d)) (AV (y.n.z*x.d)) (CR _) (CR _) (by show(Aa (x.n.z*y.d).natAbs).length<1000000;omega) (by show(Aa (y.n.z*x.d).natAbs).length<1000000;omega);have e:Dd (AV (x.n.z*y.d)).z (AV (y.n.z*x.d)).z=K0 a b:=by
  rw[DU,DU,<-lJ,hx.is.2.1,hx.is.2.2,hy.is.2.1,hy.is.2.2]
 rw[e]at cm;have p1:AA x.n.w:=AH;have p2:AA y.n.w:=AH;have p3:AA (AV (x.d:Int)).w:=AH;have p4:AA (AV (y.d:Int)).w:=AH;have p5:AA (AV (x.n.z*y.d)).w:=AH;have p6:AA (AV (y.n.z*x.d)).w:=AH;clear l1 l2 l3 l4 z1 z2 e hx hy;dsimp only[GI.D,GF.D]at*;refine fR 0 ?_;refine AC.seq ?_;refine Bx w1 100 [0,1,2,3,4,5,6,7,8] [9,10,11] (by kernel_rfl) ?_;refine Bz ?_;refine BQ.same _ (m1) AH ?_;refine Bz ?_;refine dI m2 ?_;refine dI cm ?_;refine Ab ?_;exact AN rfl AA.out
def GE (a:Rat):Int:=max (-1) (min 1 a.num)
theorem Wa {a:Rat}{x:GF}(hx:HG a x):AK C0 183 [x.D] (i64 (GE a)):=by
 refine Ai.walk w1 Yd rfl λF=>?_
 have cg:=Lw x.n hx.1;rw[hx.2.1]at cg;have p1:AA x.n.w:=AH;have p3:AA (AV (x.d:Int)).w:=AH;unfold GE;dsimp only[GI.D,GF.D]at*;refine fR 0 ?_;refine fR 100 ?_;refine dI cg ?_;refine Ab ?_;exact AN rfl AA.out
abbrev sb (l:List UInt8):ByteArray:=⟨l.toArray⟩
theorem CS (l:List UInt8):(sb l).size=l.length:=by simp[ByteArray.size]
theorem EZ (l:List UInt8)(i j:Nat):(sb l).extract i j=sb ((l.take j).drop i):=by
 apply ByteArray.ext;rw[ByteArray.data_extract];simp[List.drop_take]
theorem XJ (l:List UInt8):(sb l).toList=l:=by
 rw[ByteArray.toList_eq]
theorem Eb (l m:List UInt8):BM (sb l) (sb m)=decide (l=m):=by
 unfold BM;rw[XJ,XJ,FU,Dt,decide_eq_true_iff]
def C4 (l:List UInt8):Bool:=match l with
 | []=>false
 |c::_=>c==45
def Bf (l:List UInt8):List UInt8:=if C4 l then l.drop 1 else l
def BF (l:List UInt8):Nat:=(l.takeWhile (· != 47)).length
theorem KR (l:List UInt8):BF l<=l.length:=by
 unfold BF;exact(List.takeWhile_sublist _).length_le
theorem bZ (l:List UInt8):Lib.indexByte l 47=if BF l<l.length then(BF l:Int)else -1:=by
 induction l with
 |nil=>rfl
 |cons c l ih=>
  unfold Lib.indexByte
  by_cases h:c=47
  ·subst h
   simp[BF]
  ·have e1:BF (c::l)=BF l+1:=by
    unfold BF;rw[N5,AF (by simpa using h),Bj]
   have hb:(c==47)=false:=by simpa using h
   rw[hb,ih,e1,Bj]
   by_cases h2:BF l<l.length
   ·have h3:BF l+1<l.length+1:=by omega
    have h4:(((BF l:Nat):Int) == -1)=false:=Bv.2 (by omega);simp only[h2,h3,h4,if_true,HF,if_false];omega
   ·have h3:¬BF l+1<l.length+1:=by omega
    simp only[h2,h3,HF,if_false];rfl
theorem Uj (l:List UInt8)(hl:l.length<=1000000000):AK C0 235 [str (sb l),str (sb [45])] (Aq (C4 l)):=by
 refine Ai.walk w1 YF rfl λF=>?_
 have hsz:=CS l;have hs1:=CS [45];refine sR 0 ?_;refine AC.seq ?_;cases l with
 |nil=>
  have e1:decide (((sb []).size:Int)>=((sb [45]).size:Int))=false:=rfl;refine Ak w1 100 (by kernel_rfl) ?_;refine AT e1 ?_;refine AD e1 ?_;refine AD e1 ?_;refine Ab ?_;exact AN rfl AA.out
 |cons c l=>
  have e1:decide (((sb (c::l)).size:Int)>=((sb [45]).size:Int))=true:=AZ (by rw[hsz,hs1];simp only[Bj,HD];omega);have e2:(sb (c::l)).extract 0 ((((sb [45]).size:Nat):Int)).toNat=sb [c]:=by rw[EZ];rfl
  have e3:BM (sb [c]) (sb [45])=C4 (c::l):=by
   rw[Eb,C4,FU,decide_eq_true_iff,Dt];simp
  have h0:(0:Int)<=((sb [45]).size:Int):=by omega
  have h1:((sb [45]).size:Int)<=((sb (c::l)).size:Int):=by rw[hsz,hs1];simp only[Bj,HD];omega
  refine Ak w1 100 (by kernel_rfl) ?_;refine AT e1 ?_;refine AD (Ar e1 e2 e3) ?_;refine AD (Ar e1 e2 e3) ?_;refine Ab ?_;exact AN rfl AA.out
theorem bY (l:List UInt8)(hl:l.length<=1000000000):AK C0 189 [str (sb l),str (sb [45])] (Aq (C4 l)):=by
 refine Ai.walk w1 Yj rfl λF=>?_
 have c1:=Uj l hl;generalize sb l=s at*;generalize C4 l=b at*;refine fR 0 ?_;refine fR 100 ?_;refine dI c1 ?_;refine Ab ?_;exact AN rfl AA.out
theorem bt (l:List UInt8)(hl:l.length<=1000000000):AK C0 236 [str (sb l),str (sb [45])] (str (sb (Bf l))):=by
 refine Ai.walk w1 YG rfl λF=>?_
 have c1:=Uj l hl;have hsz:=CS l;unfold Bf;refine sR 0 ?_;refine AC.seq ?_;refine sR 100 ?_;refine cI c1 ?_;rcases hb:C4 l with _|_
 ·rw[AE (by simp)]
  refine AI ?_;refine Aj ?_;refine sR 300 ?_;refine Ab ?_;exact AN rfl AA.out
 ·rw[AF rfl]
  have h1:(0:Int)<=((sb [45]).size:Int):=by omega
  have h2:((sb [45]).size:Int)<=((sb l).size:Int):=by
   rw[hsz];show(1:Int)<=_;cases l with
   |nil=>cases hb
   |cons c l=>simp only[Bj];omega
  have e2:(sb l).extract (((sb [45]).size:Nat):Int).toNat (sb l).size=sb (l.drop 1):=by
   rw[EZ,hsz,B5 (Af _)];rfl
  refine AI ?_;refine sZ 200 ?_;refine AT e2 ?_;refine Ab ?_;exact AN rfl AA.out
theorem Qz (l:List UInt8)(hl:l.length<=1000000000):AK C0 190 [str (sb l),str (sb [45])] (str (sb (Bf l))):=by
 refine Ai.walk w1 Yk rfl λF=>?_
 have c1:=bt l hl;generalize sb l=s at*;generalize sb (Bf l)=t at*;refine fR 0 ?_;refine fR 100 ?_;refine dI c1 ?_;refine Ab ?_;exact AN rfl AA.out
theorem cq (l:List UInt8):AK C0 273 [str (sb l),.prim (.int .u8 47)] (i64 (if BF l<l.length then(BF l:Int)else -1)):=by
 refine Ai.walk w1 YN rfl λF=>?_
 have e1:firstIdx (sb l) (((47:Int)).toNat.toUInt8)=(if BF l<l.length then(BF l:Int)else -1):=by
  rw[Lib.firstIdx_eq];exact bZ l
 generalize(if BF l<l.length then(BF l:Int)else -1)=r at*;refine fR 0 ?_;refine AC.seq ?_;refine Ak w1 100 (by kernel_rfl) ?_;refine AT e1 ?_;refine Ab ?_;exact AN rfl AA.out
theorem i7 (l:List UInt8)(hl:l.length<=1000000000):AK C0 234 [str (sb l),str (sb [47])] (i64 (if BF l<l.length then(BF l:Int)else -1)):=by
 refine Ai.walk w1 YE rfl λF=>?_
 have c1:=cq l;have eS:=Eb [47] l;have hr:[47]=l->(if BF l<l.length then(BF l:Int)else -1)=0:=λh=>by subst h;rfl
 generalize(if BF l<l.length then(BF l:Int)else -1)=r at*;have e0:(((sb [47]).size:Int)==0)=false:=rfl;have e1:(((sb [47]).size:Int)==1)=true:=rfl;have hx:(((sb [47]).data.toList.getD ((0:Int)).toNat 0).toNat:Int)=47:=rfl;refine sR 0 ?_;refine sR 100 ?_;refine AC.seq ?_;refine AC.block ?_
 by_cases h:[47]=l
 ·rw[AZ h]at eS
  have hr:=hr h;subst hr;refine sZ 200 ?_;refine AT e0 ?_;refine AD (Ar e0 kF eS) ?_;refine AD (Ar e0 kF eS) ?_;refine AI ?_;refine sR 300 ?_;refine Ab ?_;exact AN rfl AA.out
 ·rw[Ad h]at eS
  refine sZ 200 ?_;refine AT e0 ?_;refine AD (Ar e0 kF eS) ?_;refine AD (Ar e0 kF eS) ?_;refine AI ?_;refine sZ 400 ?_;refine AT e1 ?_;refine AI ?_;refine sZ 500 ?_;refine AT hx ?_;refine cI c1 ?_;refine Ab ?_;exact AN rfl AA.out
theorem tN (l:List UInt8)(hl:l.length<=1000000000):AK C0 188 [str (sb l),str (sb [47])] (.tup [str (sb (l.take (BF l))),str (sb (l.drop (BF l+1))),Aq (decide (BF l<l.length))]):=by
 refine Ai.walk w1 Yi rfl λF=>?_
 have c1:=i7 l hl;have hsz:=CS l;have hle:=KR l;refine sR 0 ?_
 by_cases h:BF l<l.length
 ·rw[AF h]at c1
  have e1:decide (((BF l:Nat):Int)>=0)=true:=AZ (by omega);have e2:(sb l).extract 0 (((BF l:Nat):Int)).toNat=sb (l.take (BF l)):=by rw[EZ];rfl
  have w3:IntKind.i64.wrap (((BF l:Nat):Int)+((sb [47]).size:Int))=((BF l+1:Nat):Int):=by
   show IntKind.i64.wrap (((BF l:Nat):Int)+1)=_;rw[wI (by omega) (by omega)];omega
  have e3:(sb l).extract (((BF l+1:Nat):Int)).toNat (sb l).size=sb (l.drop (BF l+1)):=by
   rw[EZ,hsz,B5 (Af _)];rfl
  rw[AZ h];refine AC.seq ?_;refine sR 100 ?_;refine cI c1 ?_;refine sZ 200 ?_;refine AT e1 ?_;refine AI ?_;refine AC.seq ?_;refine Bx w1 300 [0,1,2,3,4,5,6,7,8,9] [10,11] (by kernel_rfl) ?_;refine AD (Ar w3 e2 e3) ?_;refine Ab ?_;exact AN rfl AA.out
 ·rw[AE h]at c1
  have hk:BF l=l.length:=by omega
  have e1:decide (((-1:Int))>=0)=false:=rfl;rw[Ad h,hk,B5 (Af _),Gj (by omega)];refine AC.seq ?_;refine sR 100 ?_;refine cI c1 ?_;refine sZ 200 ?_;refine AT e1 ?_;refine AI ?_;refine Aj ?_;refine sR 400 ?_;refine Ab ?_;exact AN rfl AA.out
theorem Xy (l:List UInt8)(hl:l.length<=1000000000):AK C0 147 [str (sb l),str (sb [47])] (.tup [str (sb (l.take (BF l))),str (sb (l.drop (BF l+1))),Aq (decide (BF l<l.length))]):=by
 refine Ai.walk w1 Xg rfl λF=>?_
 have c1:=tN l hl;generalize sb l=s at*;generalize sb (l.take (BF l))=t at*;generalize sb (l.drop (BF l+1))=u at*;generalize decide (BF l<l.length)=b at*;refine fR 0 ?_;refine fR 100 ?_;refine dI c1 ?_;refine Ab ?_;exact AN rfl AA.out
theorem kg (a b:Nat)(ha:a<=9223372036854775807)(hb:b<=9223372036854775807):AK C0 171 [i64 a,i64 b] (i64 (Nat.gcd a b:Nat)):=by
 refine Ai.walk w1 mE rfl λF=>?_
 refine fR 0 ?_;refine AC.seq ?_;refine AC.block ?_;refine AC.loop (α:=Nat×Nat×Nat) (λp=>⟨[(0,i64 p.1),(1,i64 p.2.1)],[],p.2.2⟩) (λp=>p.2.1) (λp=>Nat.gcd p.1 p.2.1=Nat.gcd a b/\p.1<=9223372036854775807/\p.2.1<=9223372036854775807) (a,b,_) ⟨rfl,ha,hb⟩ AL ?_;rintro⟨x,y,n⟩ F ⟨h1,h2,h3⟩;dsimp only at h1 h2 h3⊢;refine AC.seq ?_;refine fR 100 ?_;refine AI ?_
 (refine Bn (λhy=>?_) (λhy=>?_))<;>(try simp only[Bc,Bk]at hy)<;>(try simp only[hy])
 ·have hy':(y:Int)>0:=by simpa using hy
  refine Aj ?_;refine AC.block ?_;refine Bx w1 200 [0,1,2,3,4] [5] (by kernel_rfl) ?_;refine Bz ?_
  have:(x:Int).tmod y=((x%y:Nat):Int):=rfl
  rw[this];refine⟨(y,x%y,_),⟨?_,h3,?_⟩,?_,AL⟩
  ·rw[<-h1,MT x y,Nat.gcd_rec y x,MT]
  ·have:=Bs x (show y>0 by omega);dsimp only;omega
  ·exact Bs x (show y>0 by omega)
 ·have hy':y=0:=by simp at hy;omega
  subst hy';refine By ?_;refine fR 300 ?_;refine Ab ?_;refine AN ?_ AA.out;rw[<-h1,Nat.gcd_zero_right]
def K4 (least:Nat)(l:List UInt8):List UInt8:=List.replicate (least-l.length) 48++l
def EY (least m:Nat)(s:List UInt8):List UInt8:=K4 least (if m=0 then s else Lib.decDigits m++s)
theorem UD (least m:Nat)(s:List UInt8)(h:0<m\/s.length<least):EY least (m/10) (UInt8.ofNat (48+m%10)::s)=EY least m s:=by
 unfold EY
 by_cases h0:m=0
 ·subst h0
  have hl:s.length<least:=h.resolve_left (by omega);rw[AF (by omega),AF rfl];unfold K4;obtain⟨k,hk⟩:∃k,least-s.length=k+1:=⟨least-s.length-1,by omega⟩
  rw[hk,show least-(UInt8.ofNat (48+0%10)::s).length=k from by simp;omega,List.replicate_succ'];simp
 ·rw[AE h0]
  by_cases h1:m<10
  ·rw[AF (by omega)]
   have:Lib.decDigits m=[UInt8.ofNat (48+m)]:=by unfold Lib.decDigits;rw[dif_pos h1]
   rw[this,show m%10=m from by omega];rfl
  ·rw[AE (by omega)]
   have:Lib.decDigits m=Lib.decDigits (m/10)++[UInt8.ofNat (48+m%10)]:=by rw[Lib.decDigits];rw[dif_neg h1]
   rw[this,D2];rfl
theorem gU (k:Nat)(hk:k<10):(⟨#[48,49,50,51,52,53,54,55,56,57]⟩:ByteArray).extract k (k+1)=⟨([UInt8.ofNat (48+k)]:List UInt8).toArray⟩:=by
 match k,hk with
 | 0,_=>rfl
 | 1,_=>rfl
 | 2,_=>rfl
 | 3,_=>rfl
 | 4,_=>rfl
 | 5,_=>rfl
 | 6,_=>rfl
 | 7,_=>rfl
 | 8,_=>rfl
 | 9,_=>rfl
theorem Ol (a least:Nat)(ha:a+least<=9223372036854775807):AK C0 172 [i64 a,i64 least] (str ⟨(EY least a []).toArray⟩):=by
 refine Ai.walk w1 mG rfl λF=>?_
 refine fR 0 ?_;refine fR 100 ?_;refine AC.seq ?_;refine AC.block ?_;refine AC.loop (α:=Nat×List UInt8×Nat) (λp=>⟨[(0,i64 p.1),(1,i64 least),(5,str ⟨p.2.1.toArray⟩)],[],p.2.2⟩) (λp=>p.1+(least-p.2.1.length))
  (λp=>EY least p.1 p.2.1=EY least a []/\p.1+p.2.1.length<=a+least) (a,[],_) ⟨rfl,by simp⟩ AL ?_
 rintro⟨m,s,n⟩ F ⟨h1,h2⟩;dsimp only at h1 h2⊢;have hsz:=NE s;refine AC.seq ?_;refine EB ⟨[(0,i64 m),(1,i64 least),(5,str ⟨s.toArray⟩),(13,Aq (decide ((m:Int)>0)||decide ((s.length:Int)<least)))],[],n+30⟩ (Ak w1 200 (by kernel_rfl) ?_) ?_
 ·repeat'(first|(refine And.intro (by exact B0) ?_;refine Ap ?_)|((refine Bn (λhb=>?_) (λhb=>?_))<;>(try simp only[Bc,Bk]at hb)<;>(try simp only[hb])<;>(refine Ap ?_)))
  all_goals exact AL
 refine AI ?_
 (refine Bn (λhc=>?_) (λhc=>?_))<;>(try simp only[Bc,Bk]at hc)<;>(try simp only[hc])
 ·have hc:0<m\/s.length<least:=by
   simp at hc;omega
  refine Aj ?_;refine AC.block ?_;refine AC.seq ?_;have hm:(m:Int).tmod 10=((m%10:Nat):Int):=rfl;have e2:IntKind.i64.wrap (((m%10:Nat):Int)+1)=((m%10+1:Nat):Int):=wI (by omega) (by omega);have hd:=gU (m%10) (by omega);have hs1:(⟨([UInt8.ofNat (48+m%10)]:List UInt8).toArray⟩:ByteArray).size=1:=rfl;have hlen:s.length+1<=9223372036854775807:=by omega
  have hs10:(⟨#[48,49,50,51,52,53,54,55,56,57]⟩:ByteArray).size=10:=rfl;refine Ak w1 300 (by kernel_rfl) ?_;refine JH (Ba hm e2 kN hd) ?_;refine fI 400 ?_;have hm4:(m:Int).tdiv 10=((m/10:Nat):Int):=rfl;have hm5:m/10<=9223372036854775807:=by omega
  rw[hm4,wN hm5,IG,EP,GG];refine⟨(m/10,UInt8.ofNat (48+m%10)::s,_),⟨(UD least m s hc).trans h1,?_⟩,?_,AL⟩
  ·simp only[Bj];omega
  ·simp only[Bj];omega
 ·have hc:m=0/\least<=s.length:=by
   simp at hc;omega
  obtain⟨rfl,hl⟩:=hc;refine By ?_;refine fR 500 ?_;refine Ab ?_;refine AN ?_ AA.out;rw[<-h1];unfold EY K4;rw[AF rfl,Nat.sub_eq_zero_of_le hl];rfl
theorem Wh (a:Nat):EY 1 a []=Lib.decDigits a:=by
 unfold EY K4
 by_cases h:a=0
 ·subst h
  have:Lib.decDigits 0=[48]:=by unfold Lib.decDigits;rw[dif_pos (by decide)];rfl
  rw[AF rfl,this];rfl
 ·rw[AE h,DN]
  have:(Lib.decDigits a).length≠0:=by
   unfold Lib.decDigits;split<;>simp
  rw[show 1-(Lib.decDigits a).length=0 from by omega];rfl
def Dc (K g sz:Nat):List D->D
 | []=>CK
 |_::l=>.osl K g sz 0 (l.length+1)
def DW (K g T sz:Nat):List D->Hp
 | []=>[]
 |x::l=>[⟨K,g,T,sz,x::l⟩]
theorem IA (K g sz:Nat):Dc K g sz []=CK:=rfl
theorem Gu (K g sz:Nat)(x:D)(l:List D):Dc K g sz (x::l)=.osl K g sz 0 (l.length+1):=rfl
theorem IB (K g T sz:Nat):DW K g T sz []=[]:=rfl
theorem Gv (K g T sz:Nat)(x:D)(l:List D):DW K g T sz (x::l)=[⟨K,g,T,sz,x::l⟩]:=rfl
theorem Mk (K g sz:Nat)(x y:D)(l:List D):Dc K g sz (x::l++[y])=.osl K g sz 0 (l.length+1+1):=by simp[Dc]
theorem Po (K g T sz:Nat)(l:List D):Fz (DW K g T sz l) [] (Dc K g sz l) (.sl false sz l):=by
 cases l with
 |nil=>exact .nil sz
 |cons x l=>
  refine .osl (e:=⟨K,g,T,sz,x::l⟩) (by simp[DW,Hp.get]) rfl rfl rfl (by simp) (by simp) (λj d d' h1 h2=>?_) λj d d' q c c' h1 h2 h3 h4=>?_
  ·rw[BT]at h1;rw[h1]at h2;cases h2;rfl
  ·rw[BT]at h1;rw[h1]at h2;cases h2;rw[h3]at h4;cases h4;exact Fz.refl _
def spot (a b c d:Nat):D:=.agg [i64 (a/Nat.gcd a b:Nat),CK,i64 (b/Nat.gcd a b:Nat),CK,i64 (c/Nat.gcd c d:Nat),CK,i64 (d/Nat.gcd c d:Nat),CK]
instance  (a b c d:Nat):Ag (spot a b c d):=by unfold spot;exact AH
instance  {α:Type}(f:α->List D)(l:List α)[h:∀x,BU (f x)]:BU (l.flatMap f):=⟨λe he=>by
 obtain⟨x,_,hx⟩:=List.mem_flatMap.1 he;exact(h x).out e hx⟩
theorem HO {H Hf:Hp}{a a' b b':D}(h1:Fz H Hf a a')(h2:Fz H Hf b b'):Fz H Hf (.tup [a,b]) (.tup [a',b']):=.tup rfl λi d d' hd hd'=>by
 match i with
 | 0=>simp at hd hd';subst hd;subst hd';exact h1
 | 1=>simp at hd hd';subst hd;subst hd';exact h2
 |n+2=>simp at hd
set_option allowUnsafeReducibility true in
attribute [local irreducible] BM
inductive Kd where
 |line|zig|grid|quin
def Kd.most:Kd->Int
 | .line | .zig=>64
 | .grid=>8
 | .quin=>5
end Go.Ide
