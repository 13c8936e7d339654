/- The layer of own lemmas and contracts, part 7. -/
import Derived.Test.YteeceibhhdapaaaGreatDoorP5
import Derived.Test.YteeceibhhdapaaaGreatDoorP3
import Derived.Test.YteeceibhhdapaaaGreatDoorP6
import Derived.Lib.AppendIntMem
import Derived.Lib.SmallJoins
import Derived.Shelf.Spec.BitsCarry
import Derived.Laws.StandIn
import Derived.Lib.Bytealg
set_option linter.unusedVariables false
set_option linter.unusedSimpArgs false
namespace Go.Ide
open Go Go.Ide Go.Proofs Go.RowKit
set_option maxRecDepth 100000
def G0 (w:World):Prop:=Lib.TabIs Tryz.prog w "internal/strconv.uint64pow10" .u64 Lib.pow10Tab
theorem j8:Tryz.prog.globalNamed "internal/strconv.uint64pow10" = some 5:=by kernel_rfl
theorem ip {w w':World}(h:G0 w)(b:Below (5+1) w w'):G0 w':=by
 unfold G0 Lib.TabIs World.var? at h⊢;rw[j8]at h⊢;simp only[Option.bind_some]at h⊢;rw[b.block _ (by decide)];exact h
noncomputable def C0:A9:={P:=Tryz.prog,G:=G0,nG:=5+1,hG:=λ_ _=>ip}
theorem ad {ρ:Lk}{O:Nat->Prop}{w:World}{a b c:Value}{vs:Array Value}(hn:vs.size=3)(h:∀(i:Nat) (x:D),[D.prim a,.prim b,.prim c][i]?=some x->AU ρ O w x (vs.getD i undef)):vs = #[a,b,c]:=by
 match vs,hn with
 |⟨[u,v,x]⟩,_=>
  have h0:=h 0 _ rfl;have h1:=h 1 _ rfl;have h2:=h 2 _ rfl;simp at h0 h1 h2;cases h0;cases h1;cases h2;rfl
theorem fY (x y c:Nat)(hc:c<=1):Jc C0 241 [.prim (.int .u64 x),.prim (.int .u64 y),.prim (.int .u64 c)]
  (.tup [.prim (.int .u64 (((x+y+c)%18446744073709551616:Nat):Int)),.prim (.int .u64 (((x+y+c)/18446744073709551616:Nat):Int))]):=λρ O w vs hn h=>by
 have:=ad hn h
 subst this;refine⟨.tuple #[.int .u64 (((x+y+c)%18446744073709551616:Nat):Int),.int .u64 (((x+y+c)/18446744073709551616:Nat):Int)],?_,.tup rfl λi d hd=>?_⟩
 ·show(callFunc 241 _).run Tryz.prog w=_
  rw[run_callFunc_extern Tryz.func241 (by kernel_rfl) (by kernel_rfl) (by kernel_rfl) (e:=add64Entry) (by kernel_rfl),run_add64 x y c (by omega) (by omega) (by omega) (by omega)];simp only[Result.andThen]
  congr 5<;>omega
 ·match i with
  | 0=>simp at hd;subst hd;exact .prim _
  | 1=>simp at hd;subst hd;exact .prim _
  |n+2=>simp at hd
theorem td {ρ:Lk}{O:Nat->Prop}{w:World}{a b:Value}{vs:Array Value}(hn:vs.size=2)(h:∀(i:Nat) (x:D),[D.prim a,.prim b][i]?=some x->AU ρ O w x (vs.getD i undef)):vs = #[a,b]:=by
 match vs,hn with
 |⟨[u,v]⟩,_=>
  have h0:=h 0 _ rfl;have h1:=h 1 _ rfl;simp at h0 h1;cases h0;cases h1;rfl
theorem bt (s:ByteArray)(c:Int):Jc C0 297 [.prim (.string s),.prim (.int .u8 c)] (.prim (.int .i64 (firstIdx s c.toNat.toUInt8))):=λρ O w vs hn h=>by
 have:=td hn h
 subst this;refine⟨_,?_,.prim _⟩;show(callFunc 297 _).run Tryz.prog w=_;rw[run_callFunc_indexByte Tryz.func297 (by kernel_rfl) (by kernel_rfl) (by kernel_rfl) (by kernel_rfl),run_indexByte_string];rfl
theorem iK (x y b:Nat)(hb:b<=1):Jc C0 243 [.prim (.int .u64 x),.prim (.int .u64 y),.prim (.int .u64 b)]
  (.tup [.prim (.int .u64 (((x+18446744073709551616-y-b)%18446744073709551616:Nat):Int)),.prim (.int .u64 ((if x<y+b then 1 else 0:Nat):Int))]):=λρ O w vs hn h=>by
 have:=ad hn h
 subst this;refine⟨.tuple #[.int .u64 (((x+18446744073709551616-y-b)%18446744073709551616:Nat):Int),.int .u64 ((if x<y+b then 1 else 0:Nat):Int)],?_,.tup rfl λi d hd=>?_⟩
 ·show(callFunc 243 _).run Tryz.prog w=_
  rw[run_callFunc_extern Tryz.func243 (by kernel_rfl) (by kernel_rfl) (by kernel_rfl) (e:=sub64Entry) (by kernel_rfl),run_sub64 x y b hb];rfl
 ·match i with
  | 0=>simp at hd;subst hd;exact .prim _
  | 1=>simp at hd;subst hd;exact .prim _
  |n+2=>simp at hd
theorem PR {O:Nat->Prop}{w:World}{v:Value}{vs:Array Value}(hn:vs.size=1)(h:∀(i:Nat) (x:D),[D.prim v][i]?=some x->AU nol O w x (vs.getD i undef)):vs = #[v]:=by
 match vs,hn with
 |⟨[u]⟩,_=>
  have h0:=h 0 _ rfl;simp at h0;cases h0;rfl
theorem lI (n:Int)(h0 : -9223372036854775808<=n)(h1:n<=9223372036854775807):AI C0 208 [i64 n] (str ⟨(Lib.itoa n).toArray⟩):=by
 refine⟨⟨_,_,Tryz.func208,rfl,by kernel_rfl⟩,λY w vs hG hnG hX hvs hr=>?_⟩
 have:=PR hvs hr
 subst this;refine(Tryz.strconv_Itoa n h0 h1 w hG).mono ?_;rintro e w' ⟨rfl,k,os,rfl⟩;exact⟨_,_,rfl,Lib.below_grow _ _ (Ae _) _ _,rfl,.prim _⟩
theorem kO (s:ByteArray)(n:Int)(hl:s.size<=18)(h:Lib.atoi s.data.toList=some n):AI C0 191 [str s] (.tup [i64 n,.prim .nilIface]):=by
 refine⟨⟨_,_,Tryz.func191,rfl,by kernel_rfl⟩,λY w vs hG hnG hX hvs hr=>?_⟩
 have:=PR hvs hr
 subst this;refine(Tryz.strconv_Atoi s n hl h w).mono ?_;rintro e w' ⟨rfl,t,rfl⟩;exact⟨_,_,rfl,Joins.below_bytesWorld _ _ _ _ (Ae _),rfl,.tup rfl λi d hd=>by
  match i with
  | 0=>simp at hd;subst hd;exact .prim _
  | 1=>simp at hd;subst hd;exact .prim _
  |n+2=>simp at hd⟩
def Jz (f:Nat)(ds:List D):Option D:=match Nat.beq f 241 with
 |true=>match ds with
  | [.prim (.int .u64 (.ofNat a)),.prim (.int .u64 (.ofNat b)),.prim (.int .u64 (.ofNat c))]=>match Nat.ble c 1 with
   |true=>some (.tup [.prim (.int .u64 (((a+b+c)%18446744073709551616:Nat):Int)),.prim (.int .u64 (((a+b+c)/18446744073709551616:Nat):Int))])
   |false=>none
  |_=>none
 |false=>match Nat.beq f 243 with
  |true=>match ds with
   | [.prim (.int .u64 (.ofNat a)),.prim (.int .u64 (.ofNat b)),.prim (.int .u64 (.ofNat c))]=>match Nat.ble c 1 with
    |true=>some (.tup [.prim (.int .u64 (((a+18446744073709551616-b-c)%18446744073709551616:Nat):Int)),.prim (.int .u64 ((if a<b+c then 1 else 0:Nat):Int))])
    |false=>none
   |_=>none
  |false=>match Nat.beq f 297 with
   |true=>match ds with
    | [.prim (.string s),.prim (.int .u8 c)]=>some (.prim (.int .i64 (firstIdx s c.toNat.toUInt8)))
    |_=>none
   |false=>none
theorem Pq (f:Nat)(ds:List D)(d:D)(h:Jz f ds=some d):Jc C0 f ds d:=by
 unfold Jz at h;split at h
 ·rename_i hf
  obtain rfl:=By hf;split at h<;>try(cases h;done)
  split at h<;>try(cases h;done)
  rename_i hc;cases h;exact fY _ _ _ (Bc hc)
 ·split at h
  ·rename_i hf
   obtain rfl:=By hf;split at h<;>try(cases h;done)
   split at h<;>try(cases h;done)
   rename_i hc;cases h;exact iK _ _ _ (Bc hc)
  ·split at h
   ·rename_i hf
    obtain rfl:=By hf;split at h<;>try(cases h;done)
    cases h;exact bt _ _
   ·cases h
noncomputable def X1:EV:=⟨OY.get,LN.get,Mg.get,λ_=>false,λ_ _=>none,λ_ _=>none,Jz⟩
theorem DJ:Et C0 X1:=⟨ba,Qa,JI,λ_ _ _ h=>by simp[X1]at h,by kernel_rfl,λ_ _ _ h=>by simp[X1]at h,Pq⟩
theorem w1:C6 C0 X1:=DJ.w
theorem wI {z:Int}(h1 : -9223372036854775808<=z)(h2:z<=9223372036854775807):IntKind.i64.wrap z=z:=by
 have e1:(2:Int)^IntKind.i64.bits=18446744073709551616:=rfl;have e2:(2:Int)^(IntKind.i64.bits-1)=9223372036854775808:=rfl;unfold IntKind.wrap;simp only[e1,e2];have e3:IntKind.i64.signed=true:=rfl;rw[e3];simp only[IU,Gs];split<;>omega
theorem wN {n:Nat}(h:n<=9223372036854775807):IntKind.i64.wrap (n:Int)=n:=wI (by omega) (by omega)
set_option maxRecDepth 20000
theorem Np (n:Int):AI C0 152 [i64 n] (Cp n):=by
 refine Ah.walk w1 Y3 rfl λF=>?_
 refine fR 0 ?_;refine fR 100 ?_;refine Ab ?_;exact AO rfl (AA.out (d:=Cp n))
theorem LO:∀(k u:Nat),u<10^(k+1)->(Lib.decDigits u).length<=k+1
 | 0,u,h=>by
  unfold Lib.decDigits;rw[dif_pos (by simpa using h)];simp
 |k+1,u,h=>by
  unfold Lib.decDigits;split
  ·simp
  ·rw[Bo]
   have:=LO k (u/10) (by
    rw[CE]at h;omega)
   simp only[Bk,GL];omega
theorem II (a b:List UInt8):(⟨a.toArray⟩:ByteArray)++⟨b.toArray⟩=⟨(a++b).toArray⟩:=by
 apply ByteArray.ext;simp[ByteArray.data_append]
theorem NF (l:List UInt8):(⟨l.toArray⟩:ByteArray).size=l.length:=by simp[ByteArray.size]
def Sm (z:Int):Prop:=-9223372036854775808<z/\z<9223372036854775808
theorem wS {z:Int}(h:Sm z):IntKind.i64.wrap z=z:=wI (by have:=h.1;omega) (by have:=h.2;omega)
theorem al {z:Int}(h:Sm z):(z != -9223372036854775808)=true:=by
 have:=h.1
 simp only[bne_iff_ne,ne_eq];omega
theorem wU {z:Int}(h1:0<=z)(h2:z<18446744073709551616):IntKind.u64.wrap z=z:=by
 have e1:(2:Int)^IntKind.u64.bits=18446744073709551616:=rfl;unfold IntKind.wrap;simp only[e1];have e3:IntKind.u64.signed=false:=rfl;rw[e3];simp only[KA,HO,if_false];omega
theorem lx (z:Int)(h:Sm z):AI C0 198 [i64 z] (u64 (z.natAbs:Nat)):=by
 refine Ah.walk w1 YW rfl λF=>?_
 obtain⟨h1,h2⟩:=h;refine fR 0 ?_;refine AC.seq ?_;refine fR 100 ?_;refine AJ ?_
 (refine Bq (λh4=>?_) (λh4=>?_))<;>(try simp only[Bd,Bn]at h4)<;>(try simp only[h4])
 ·have hz:z<0:=by simpa using h4
  have e1:IntKind.i64.wrap (0-z)=(z.natAbs:Nat):=by rw[wI (by omega) (by omega)];omega
  have e2:IntKind.u64.wrap ((z.natAbs:Nat):Int)=(z.natAbs:Nat):=wU (by omega) (by omega);refine sZ 200 ?_;refine JK (Ac e1 e2) ?_;refine Ab ?_;exact AO rfl AA.out
 ·have hz:¬z<0:=by simpa using h4
  have e2:IntKind.u64.wrap z=(z.natAbs:Nat):=by rw[wU (by omega) (by omega)];omega
  refine Ak ?_;refine sZ 300 ?_;refine JK e2 ?_;refine Ab ?_;exact AO rfl AA.out
theorem rN (z:Int)(h:Sm z):AI C0 193 [Cp z] (Cp (-z)):=by
 refine Ah.walk w1 Sz rfl λF=>?_
 refine fR 0 ?_;refine AC.seq ?_;refine sZ 100 ?_
 repeat'(first|(refine And.intro (by exact B4) ?_;refine At ?_)|((refine Bq (λhb=>?_) (λhb=>?_))<;>(try simp only[Bd,Bn]at hb)<;>(try simp only[hb])<;>(refine At ?_)))
 rw[al h];refine AJ ?_;have e1:IntKind.i64.wrap (0-z) = -z:=by
  have:=h.1;have:=h.2
  rw[wI (by omega) (by omega)];omega
 refine sZ 200 ?_;refine JK e1 ?_;refine Ab ?_;exact AO rfl AA.out
theorem M9 (x y:Nat)(hx:x<18446744073709551616)(hy:y<18446744073709551616):AI C0 197 [u64 x,u64 y] (.tup [u64 (x*y/18446744073709551616:Nat),u64 (x*y%18446744073709551616:Nat)]):=by
 refine⟨⟨_,_,Tryz.func197,rfl,by kernel_rfl⟩,λY w vs hG hnG hX hvs hr=>?_⟩;obtain⟨v1,v2,rfl⟩:∃a b,vs = #[a,b]:=by
  match vs,hvs with
  |⟨[a,b]⟩,_=>exact⟨a,b,rfl⟩
 have h0:=hr 0 _ rfl;have h1:=hr 1 _ rfl;simp at h0 h1;cases h0;cases h1;refine(Tryz.bits_Mul64 x y hx hy w).mono ?_;rintro e w' ⟨rfl,rfl⟩;exact⟨_,_,rfl,.refl _ _,rfl,.tup rfl λi d hd=>by
  match i with
  | 0=>simp at hd;subst hd;exact .prim _
  | 1=>simp at hd;subst hd;exact .prim _
  |n+2=>simp at hd⟩
theorem mG {a b:Int}(hb:0<b):(a.tmod b<0->a.tdiv b-1=a/b/\a.tmod b+b=a%b)/\(¬a.tmod b<0->a.tdiv b=a/b/\a.tmod b=a%b):=by
 have h1:=Int.mul_tdiv_add_tmod a b;have h2:=Int.tmod_lt_of_pos a hb;have h3:=Int.lt_tmod_of_pos a hb;constructor
 ·intro h
  have:=(Int.ediv_emod_unique (a:=a) (r:=a.tmod b+b) (q:=a.tdiv b-1) hb).2 ⟨by rw[Int.mul_sub,Int.mul_one];omega,by omega,by omega⟩
  exact⟨this.1.symm,this.2.symm⟩
 ·intro h
  have:=(Int.ediv_emod_unique (a:=a) (r:=a.tmod b) (q:=a.tdiv b) hb).2 ⟨by omega,by omega,by omega⟩
  exact⟨this.1.symm,this.2.symm⟩
theorem Xh {a b:Int}(ha:Sm a):Sm (a.tdiv b):=by
 have h:(a.tdiv b).natAbs<=a.natAbs:=by rw[Int.natAbs_tdiv];exact GP _ _
 have:=ha.1;have:=ha.2
 exact⟨by omega,by omega⟩
theorem fN (a b:Int)(hb0:0<b)(ha:Sm a)(hb:Sm b):AI C0 240 [Cp a,Cp b] (.tup [Cp (a/b),Cp (a%b)]):=by
 refine Ah.walk w1 S0 rfl λF=>?_
 obtain⟨t1,t2⟩:=mG (a:=a) hb0;have h2:=Int.tmod_lt_of_pos a hb0;have h3:=Int.lt_tmod_of_pos a hb0;have q1:=wS (Xh (b:=b) ha);have q2:IntKind.i64.wrap (a.tmod b)=a.tmod b:=wI (by have:=hb.2;omega) (by have:=hb.2;omega);have q0:=Xh (b:=b) ha;refine fR 0 ?_;refine AC.seq ?_;refine sZ 100 ?_
 repeat'(first|(refine And.intro (by exact B4) ?_;refine At ?_)|((refine Bq (λhb=>?_) (λhb=>?_))<;>(try simp only[Bd,Bn]at hb)<;>(try simp only[hb])<;>(refine At ?_)))
 rw[al ha];refine AJ ?_;refine AC.seq ?_;refine B5 w1 200 [0,1,2,3,4,5,6,7,8,9,10] [11] (by kernel_rfl) ?_;refine And.intro (by(refine At ?_);(try simp only[q1,q2]);all_goals exact B4) ?_;refine At ?_
 try simp only[q1,q2]
 refine AC.seq ?_;refine fR 300 ?_;refine AJ ?_
 (refine Bq (λh40=>?_) (λh40=>?_))<;>(try simp only[Bd,Bn]at h40)<;>(try simp only[h40])
 ·obtain⟨e1,e2⟩:=t1 (by simpa using h40)
  have q3:IntKind.i64.wrap (a.tdiv b-1)=a/b:=by rw[wI (by have:=q0.1;omega) (by have:=q0.2;omega)];exact e1
  have q4:IntKind.i64.wrap (a.tmod b+b)=a%b:=by rw[wI (by have:=hb.2;omega) (by have:=hb.2;omega)];exact e2
  refine B5 w1 400 [0,1,2,3,4,5,6] [7] (by kernel_rfl) ?_;refine And.intro (by(refine At ?_);(try simp only[q3,q4]);all_goals exact B4) ?_;refine At ?_
  try simp only[q3,q4]
  refine fR 500 ?_;refine Ab ?_;exact AO rfl AA.out
 ·obtain⟨e1,e2⟩:=t2 (by simpa using h40)
  refine Ak ?_;refine AC.seq ?_;rw[e1,e2];refine fI 500 ?_;refine Ab ?_;exact AO rfl AA.out
structure Q2 where
 n:Int
 d:Int
theorem jS (z:Int):AI C0 148 [Cp z] (LM z 1):=by
 refine Ah.walk w1 Sv rfl λF=>?_
 refine fR 0 ?_;refine AC.seq ?_;refine B5 w1 100 [0,1] [2,3] (by kernel_rfl) ?_;refine B7 ?_;refine BQ.same _ (Np 1) AG ?_;refine B7 ?_;refine Ab ?_;exact AO rfl AA.out
theorem uZ (z:Int):AI C0 105 [i64 z] (LM z 1):=by
 refine Ah.walk w1 Yh rfl λF=>?_
 refine fR 0 ?_;refine fR 100 ?_;refine dI (Np z) ?_;refine dI (jS z) ?_;refine Ab ?_;exact AO rfl AA.out
def Dh (a b:Int):Int:=if a<b then -1 else if b<a then 1 else 0
theorem lE (a b:Int):AI C0 272 [Cp a,Cp b] (i64 (Dh a b)):=by
 refine Ah.walk w1 S1 rfl λF=>?_
 unfold Dh;refine fR 0 ?_;refine AC.seq ?_;refine sZ 100 ?_
 repeat'(first|(refine And.intro (by exact B4) ?_;refine At ?_)|((refine Bq (λhb=>?_) (λhb=>?_))<;>(try simp only[Bd,Bn]at hb)<;>(try simp only[hb])<;>(refine At ?_)))
 refine AJ ?_;refine AC.seq ?_;refine AC.block ?_;refine fR 200 ?_;refine AJ ?_
 (refine Bq (λh13=>?_) (λh13=>?_))<;>(try simp only[Bd,Bn]at h13)<;>(try simp only[h13])
 ·have h1:a<b:=by simpa using h13
  rw[AH h1];refine fR 300 ?_;refine Ab ?_;exact AO rfl AA.out
 ·have h1:¬a<b:=by simpa using h13
  rw[AE h1];refine fR 400 ?_;refine AJ ?_
  (refine Bq (λh19=>?_) (λh19=>?_))<;>(try simp only[Bd,Bn]at h19)<;>(try simp only[h19])
  ·have h2:b<a:=by simpa using h19
   rw[AH h2];refine fR 500 ?_;refine Ab ?_;exact AO rfl AA.out
  ·have h2:¬b<a:=by simpa using h19
   rw[AE h2];refine Ak ?_;refine fR 600 ?_;refine Ab ?_;exact AO rfl AA.out
theorem X0 {n k:Nat}(h:Nat.blt n k=true):n<k:=by rw[Nat.blt_eq]at h;exact h
def wB:Int->Bool
 | .ofNat n=>Nat.blt n 9223372036854775808
 | .negSucc n=>Nat.blt n 9223372036854775807
theorem rC {z:Int}(h:wB z=true):Sm z:=by
 cases z with
 |ofNat n=>have:=X0 h;exact⟨by rw[Int.ofNat_eq_natCast];omega,by rw[Int.ofNat_eq_natCast];omega⟩
 |negSucc n=>have:=X0 h;exact⟨by omega,by omega⟩
abbrev BB:Nat:=18446744073709551616
def Ad (n:Nat):List Nat:=if _h:n=0 then[]else(n%BB)::Ad (n/BB)
termination_by n
decreasing_by exact HM (Do _h) (by decide)
def AS:List Nat->Nat
 | []=>0
 |a::l=>a+BB*AS l
def Wd (l:List Nat):Prop:=∀a∈l,a<BB
theorem FL:Ad 0=[]:=by unfold Ad;rfl
theorem Fk {n:Nat}(h:n≠0):Ad n=(n%BB)::Ad (n/BB):=by rw[Ad,dif_neg h]
theorem En (n:Nat):Wd (Ad n):=by
 induction n using Nat.strongRecOn with
 |ind n ih=>
  by_cases h:n=0
  ·subst h;rw[FL];intro a ha;cases ha
  ·rw[Fk h]
   intro a ha;rcases A0.1 ha with rfl|ha
   ·exact Bz _ (by decide)
   ·exact ih _ (HM (Do h) (by decide)) a ha
theorem EX (n:Nat):AS (Ad n)=n:=by
 induction n using Nat.strongRecOn with
 |ind n ih=>
  by_cases h:n=0
  ·subst h;rw[FL];rfl
  ·rw[Fk h,AS,ih _ (HM (Do h) (by decide))]
   exact ET n BB
theorem JR (l m:List Nat):AS (l++m)=AS l+BB^l.length*AS m:=by
 induction l with
 |nil=>simp[AS]
 |cons a l ih=>
  simp only[ED,AS,ih,Bk,CE,BJ];rw[BP (BB^l.length) BB,Br,EI]
theorem Wd.tail {a:Nat}{l:List Nat}(h:Wd (a::l)):Wd l:=λb hb=>h b (Cn _ hb)
theorem Wd.head {a:Nat}{l:List Nat}(h:Wd (a::l)):a<BB:=h a Cf
theorem Wd.append {l m:List Nat}(h:Wd l)(k:Wd m):Wd (l++m):=λa ha=>(List.mem_append.1 ha).elim (h a) (k a)
theorem Wd.take {l:List Nat}(h:Wd l)(n:Nat):Wd (l.take n):=λa ha=>h a (H4 ha)
theorem Gz:∀ {l:List Nat},Wd l->AS l<BB^l.length
 | [],_=>by simp[AS]
 |a::l,h=>by
  have h1:=Gz h.tail;have h2:=h.head;rw[AS,Bk,CE]
  calc a+BB*AS l<BB+BB*AS l:=by omega
   _=BB*(AS l+1):=by rw[BJ,Dy,KH]
   _<=BB*BB^l.length:=CS _ h1
   _=_:=BP _ _
theorem VZ:∀ {l:List Nat},Wd l->(∀a∈l.getLast?,a≠0)->Ad (AS l)=l
 | [],_,_=>FL
 | [a],h,hl=>by
  have ha:a≠0:=hl a (by simp);have hb:=h.head;rw[show AS [a]=a from by simp[AS],Fk ha,DR hb,Gt hb,FL]
 |a::b::l,h,hl=>by
  have ih:=VZ h.tail (λx hx=>hl x (by simpa using hx));have hb:=h.head;have hv:AS (b::l)≠0:=by
   intro h0;rw[h0,FL]at ih;cases ih
  have e1:AS (a::b::l)%BB=a:=by rw[AS,Qx,DR hb]
  have e2:AS (a::b::l)/BB=AS (b::l):=by
   rw[AS,Qr _ _ (by decide),Gt hb,BM]
  have hne:AS (a::b::l)≠0:=by
   intro h0;rw[h0]at e2;exact hv (by rw[<-e2];rfl)
  rw[Fk hne,e1,e2,ih]
theorem Ov:∀(k:Nat),AS (List.replicate k 0)=0
 | 0=>rfl
 |k+1=>by rw[List.replicate_succ,AS,Ov k,EJ]
theorem VR {l:List Nat}(h:Wd l)(n:Nat)(hz:∀j,n<=j->∀a,l[j]?=some a->a=0)(hn:n<=l.length)(hl:∀m,n=m+1->∀a,l[m]?=some a->a≠0):l.take n=Ad (AS l):=by
 have hd:l.drop n=List.replicate (l.length-n) 0:=by
  refine OK λi=>?_
  rw[Gr,List.getElem?_replicate];split
  ·rename_i hi
   rw[BF (by omega)]
   congr 1
   exact hz _ (Nat.le_add_right _ _) _ (BF (by omega))
  ·exact DS (by omega)
 have hv:AS l=AS (l.take n):=by
  conv=>lhs;rw[<-Ef n l]
  rw[JR,hd,Ov,EJ,DL]
 rw[hv];refine(VZ (h.take n) λa ha=>?_).symm
 match n,hl,hn with
 | 0,_,_=>simp at ha
 |m+1,hl,hn=>
  refine hl m rfl a ?_;rw[List.getLast?_eq_getElem?,Bf,E2 hn,ES,AH (by omega)]at ha;simpa using ha
abbrev AR (n:Nat):D:=u64 (n:Int)
def wL (l:List Nat):D:=.sl false 1 (l.map AR)
def wD (n:Nat):D:=wL (Ad n)
theorem Jg (l:List Nat):B0 (wL l):=.sl λe he d hd=>by
 obtain⟨a,_,rfl⟩:=List.mem_map.1 he;simp only[D.cells,A0,DC,or_false]at hd;subst hd;exact .prim _
instance  (l:List Nat):AA (wL l):=⟨Jg l⟩
instance  (n:Nat):AA (wD n):=⟨Jg _⟩
theorem DF {l:List Nat}{i a:Nat}(h:l[i]?=some a):(l.map AR)[i]?=some (AR a):=by rw[BG,h];rfl
theorem trim_ok (l:List Nat)(h:Wd l)(hlen:l.length<4000000000):AI C0 242 [wL l] (wD (AS l)):=by
 refine Ah.walk w1 Zb rfl λF=>?_
 unfold wL;refine sR 0 ?_;refine sR 100 ?_;refine AC.seq ?_;refine AC.block ?_;have hml:((l.map AR).length:Int)=(l.length:Int):=by rw[Ap]
 rw[hml];refine AC.loop (α:=Nat×Nat) (λp=>⟨[(0,.sl false 1 (l.map AR)),(3,i64 p.1)],[],p.2⟩) (λp=>p.1)
  (λp=>p.1<=l.length/\∀j,p.1<=j->∀a,l[j]?=some a->a=0) (l.length,_) ⟨Ae _,λj hj a ha=>by rw[DS hj]at ha;cases ha⟩ AL ?_
 rintro⟨n,m⟩ F ⟨h1,h2⟩;dsimp only at h1 h2⊢;refine AC.seq ?_;refine AC.seq ?_;rcases n with _|n
 ·have z0:decide (((0:Nat):Int)>0)=false:=rfl
  refine Am w1 200 (by kernel_rfl) ?_;refine AD z0 ?_;refine AJ ?_;refine B6 ?_;have ht:=VR h 0 h2 (BT _) (by simp);refine sR 400 ?_;refine Ab ?_;refine AO (d0:=wL (l.take 0)) ?_ AA.out;rw[ht];rfl
 ·obtain⟨a,ha⟩:∃a,l[n]?=some a:=⟨l[n],BF (by omega)⟩
  have hx:=DF ha;have z1:decide (((n+1:Nat):Int)>0)=true:=AZ (by omega);have w2:IntKind.i64.wrap (((n+1:Nat):Int)-1)=(n:Int):=by rw[wI (by omega) (by omega)];omega
  refine Am w1 200 (by kernel_rfl) ?_;refine AD (Ac z1 w2) ?_;refine Bl z1 hx ?_;refine AD (Ac z1 w2) ?_;refine AJ ?_
  (refine Bq (λh15=>?_) (λh15=>?_))<;>(try simp only[Bd,Bn]at h15)<;>(try simp only[h15])
  ·have ha0:a=0:=by
    have:(a:Int)=0:=by simpa using h15
    omega
   subst ha0;refine Ak ?_;refine AC.block ?_;refine Am w1 300 (by kernel_rfl) ?_;refine AT w2 ?_;refine⟨(n,_),⟨by dsimp only;omega,λj hj b hb=>?_⟩,by dsimp only;omega,AL⟩;rcases Nat.eq_or_lt_of_le hj with rfl|hlt
   ·exact Ff (hb.symm.trans ha)
   ·exact h2 j hlt b hb
  ·have ha0:a≠0:=by
    intro h0;subst h0;simp at h15
   refine B6 ?_;have ht:=VR h (n+1) h2 h1 (λm hm b hb=>by
    obtain rfl:n=m:=by omega
    rw[ha]at hb;cases hb;exact ha0)
   refine sR 400 ?_;refine Ab ?_;have e4:List.take ((((n+1:Nat):Int)).toNat-0) (List.drop 0 (l.map AR))=(l.take (n+1)).map AR:=by
    rw[List.map_take];simp
   rw[e4];refine AO (d0:=wL (l.take (n+1))) ?_ AA.out;rw[ht];rfl
theorem Gx (b:Nat):∀a,b<=a->(Ad b).length<=(Ad a).length:=by
 induction b using Nat.strongRecOn with
 |ind b ih=>
  intro a h
  by_cases hb:b=0
  ·subst hb;rw[FL];exact BT _
  ·rw[Fk hb,Fk (n:=a) (by omega),Bk,Bk]
   exact Nat.succ_le_succ (ih _ (HM (Do hb) (by decide)) _ (Nat.div_le_div_right h))
theorem UX {a b:Nat}(h:(Ad a).length<(Ad b).length):a<b:=by
 rcases BH a b with h1|h1
 ·exact h1
 ·have:=Gx b a h1;omega
theorem Jb {l:List Nat}{k a:Nat}(h:l[k]?=some a):AS l=AS (l.take k)+BB^k*(a+BB*AS (l.drop (k+1))):=by
 have hk:k<l.length:=(List.getElem?_eq_some_iff.1 h).1
 conv=>lhs;rw[<-Ef k l]
 rw[JR,Bf,E2 (by omega)]
 have:l.drop k=a::l.drop (k+1):=by
  rw[EU hk]
  congr 1
  exact(List.getElem?_eq_some_iff.1 h).2
 rw[this,AS]
theorem VB {l m:List Nat}{k a b:Nat}(hl:Wd l)(ha:l[k]?=some a)(hb:m[k]?=some b)(hd:l.drop (k+1)=m.drop (k+1))(hab:a<b):AS l<AS m:=by
 have hk:k<l.length:=(List.getElem?_eq_some_iff.1 ha).1;rw[Jb ha,Jb hb,hd];have h1:=Gz (hl.take k);rw[Bf,E2 (by omega)]at h1;generalize AS (m.drop (k+1))=r;have h2:BB^k*(a+BB*r)+BB^k<=BB^k*(b+BB*r):=by
  rw[<-Nat.mul_succ];exact CS _ (by omega)
 omega
theorem Pk (a b:Nat)(ha:(Ad a).length<4000000000)(hb:(Ad b).length<4000000000):AI C0 203 [wD a,wD b] (i64 (Dh a b)):=by
 refine Ah.walk w1 Yb rfl λF=>?_
 have hwa:=En a;have hwb:=En b;have va:=EX a;have vb:=EX b;have hlt:=@UX a b;have hgt:=@UX b a;unfold wD wL Dh;generalize Ad a=la at*;generalize Ad b=lb at*;have ea:(((la.map AR).length:Nat):Int)=(la.length:Int):=by rw[Ap]
 have eb:(((lb.map AR).length:Nat):Int)=(lb.length:Int):=by rw[Ap]
 refine sR 0 ?_;refine AC.seq ?_;refine sZ 100 ?_;refine AT (Ac ea eb) ?_;refine AJ ?_
 (refine Bq (λh10=>?_) (λh10=>?_))<;>(try simp only[Bd,Bn]at h10)<;>(try simp only[h10])
 ·have hne:la.length≠lb.length:=by
   have:(la.length:Int)≠lb.length:=by simpa using h10
   omega
  refine AC.seq ?_;refine sZ 200 ?_;refine AT (Ac ea eb) ?_;refine AJ ?_
  (refine Bq (λh15=>?_) (λh15=>?_))<;>(try simp only[Bd,Bn]at h15)<;>(try simp only[h15])
  ·have h1:la.length<lb.length:=by
    have:(la.length:Int)<lb.length:=by simpa using h15
    omega
   rw[AH (by have:=hlt h1;omega)];refine sR 300 ?_;refine Ab ?_;exact AO rfl AA.out
  ·have h1:lb.length<la.length:=by
    have:¬(la.length:Int)<lb.length:=by simpa using h15
    omega
   have h2:=hgt h1;rw[AE (by omega),AH (by omega)];refine Ak ?_;refine sR 400 ?_;refine Ab ?_;exact AO rfl AA.out
 ·have hl:la.length=lb.length:=by
   have:(la.length:Int)=lb.length:=by simpa using h10
   omega
  clear hlt hgt;refine Ak ?_;refine AC.seq ?_;refine sZ 500 ?_;refine AT ea ?_;refine AC.block ?_;have w0:IntKind.i64.wrap ((la.length:Int)-1)=(la.length:Int)-1:=wI (by omega) (by omega);rw[w0];refine AC.loop (α:=Nat×Nat) (λp=>⟨[(0,.sl false 1 (la.map AR)),(1,.sl false 1 (lb.map AR)),(5,i64 ((p.1:Int)-1))],[],p.2⟩) (λp=>p.1)
   (λp=>p.1<=la.length/\la.drop p.1=lb.drop p.1) (la.length,_) ⟨Ae _,by rw[KC,hl,KC]⟩ AL ?_
  rintro⟨k,m⟩ F ⟨h1,h2⟩;dsimp only at h1 h2⊢;refine AC.seq ?_;refine sR 600 ?_;refine AJ ?_
  (refine Bq (λh20=>?_) (λh20=>?_))<;>(try simp only[Bd,Bn]at h20)<;>(try simp only[h20])
  ·obtain⟨j,rfl⟩:∃j,k=j+1:=⟨k-1,by
    have:(k:Int)-1>=0:=by simpa using h20
    omega⟩
   have wj:((j+1:Nat):Int)-1=(j:Int):=by omega
   obtain⟨x,hx⟩:∃x,la[j]?=some x:=⟨la[j],BF (by omega)⟩
   obtain⟨y,hy⟩:∃y,lb[j]?=some y:=⟨lb[j],BF (by omega)⟩
   have hx':=DF hx;have hy':=DF hy;rw[wj];refine Ak ?_;refine AC.seq ?_;refine AC.block ?_;refine AC.seq ?_;refine B5 w1 800 [0,1,2,3,4,5,6,7] [8] (by kernel_rfl) ?_;refine AD kN ?_;refine Bl kT hx' ?_;refine AD kN ?_;refine Bl kT hy' ?_;refine AD kN ?_;refine AD kN ?_;refine AJ ?_
   (refine Bq (λh31=>?_) (λh31=>?_))<;>(try simp only[Bd,Bn]at h31)<;>(try simp only[h31])
   ·have hne:x≠y:=by
     intro h0;subst h0;simp at h31
    refine AC.seq ?_;refine AC.seq ?_;refine B5 w1 900 [0,1,2,3,4,5,6,7] [8] (by kernel_rfl) ?_;refine AD kN ?_;refine Bl kT hx' ?_;refine AD kN ?_;refine Bl kT hy' ?_;refine AD kN ?_;refine AD kN ?_;refine AJ ?_
    (refine Bq (λh40=>?_) (λh40=>?_))<;>(try simp only[Bd,Bn]at h40)<;>(try simp only[h40])
    ·have hxy:x<y:=by
      have:(x:Int)<y:=by simpa using h40
      omega
     have:=VB hwa hx hy h2 hxy
     rw[AH (by omega)];refine sR 1000 ?_;refine Ab ?_;exact AO rfl AA.out
    ·have hxy:y<x:=by
      have:¬(x:Int)<y:=by simpa using h40
      omega
     have:=VB hwb hy hx h2.symm hxy
     rw[AE (by omega),AH (by omega)];refine Ak ?_;refine sR 1100 ?_;refine Ab ?_;exact AO rfl AA.out
   ·have hxy:x=y:=by
     have:(x:Int)=y:=by simpa using h31
     omega
    subst hxy;have w5:IntKind.i64.wrap ((j:Int)-1)=(j:Int)-1:=wI (by omega) (by omega);refine Ak ?_;refine Am w1 700 (by kernel_rfl) ?_;refine AT w5 ?_;have hj:=(List.getElem?_eq_some_iff.1 hx)
    have hj':=(List.getElem?_eq_some_iff.1 hy)
    refine⟨(j,_),⟨by dsimp only;omega,?_⟩,by dsimp only;omega,AL⟩;dsimp only;rw[EU hj.1,EU hj'.1,hj.2,hj'.2,h2]
  ·have hk:k=0:=by
    have:¬((k:Int)-1>=0):=by simpa using h20
    omega
   subst hk;have hab:a=b:=by
    rw[<-va,<-vb]
    have:la=lb:=by simpa using h2
    rw[this]
   subst hab;rw[AE (by omega),AE (by omega)];refine B6 ?_;refine sR 1200 ?_;refine Ab ?_;exact AO rfl AA.out
theorem WA {a b c:Nat}(hc:c<=1):Jz 241 [AR a,AR b,AR c]=some (.tup [AR ((a+b+c)%BB),AR ((a+b+c)/BB)]):=by
 show(match Nat.ble c 1 with
  |true=>some (D.tup [.prim (.int .u64 (((a+b+c)%18446744073709551616:Nat):Int)),.prim (.int .u64 (((a+b+c)/18446744073709551616:Nat):Int))])
  |false=>none)=_
 have h1:Nat.ble c 1=true:=by rw[Nat.ble_eq];exact hc
 rw[h1]
theorem El {l:List Nat}{i a:Nat}(h:l[i]?=some a):l.take (i+1)=l.take i++[a]:=by rw[Dx,h];rfl
theorem PT {l:List Nat}{i a:Nat}(h:i<l.length):(l.set i a).take (i+1)=l.take i++[a]:=by
 rw[El (l:=l.set i a) (i:=i) (a:=a) (by simp[h]),List.take_set_of_le (Ae _)]
theorem GD {l:List Nat}{i a:Nat}(hi:l.length=i):AS (l++[a])=AS l+BB^i*a:=by rw[JR,hi];simp[AS]
theorem map_set {l:List Nat}{i a:Nat}:(l.map AR).set i (AR a)=(l.set i a).map AR:=List.map_set.symm
theorem Wd.set {l:List Nat}(h:Wd l){i a:Nat}(ha:a<BB):Wd (l.set i a):=λb hb=>by
 rcases List.mem_or_eq_of_mem_set hb with h1|rfl
 ·exact h b h1
 ·exact ha
theorem Lc (n:Nat):Wd (List.replicate n 0):=λa ha=>by rw[OH ha];decide
theorem TQ {env:An}{t K g n N:Nat}{z:List Nat}{T:Nat}(hl:z.length=N)(he:env.get t=.osl K g 1 0 N:=by exact rfl):Wk ⟨env,[⟨K,g,T,1,z.map AR⟩],n⟩ ⟨[(t,.sl false 1 (z.map AR))],[],n⟩:=by
 subst hl;refine⟨.drop .nil,⟨?_,trivial⟩,Ae _⟩;dsimp only;rw[he]
 have:=QD K g T 1 (z.map AR)
 rwa [Ap]at this
theorem kM (la lb:List Nat)(ha:Wd la)(hb:Wd lb)(hla:la.length<4000000)(hlb:lb.length<4000000):AI C0 202 [wL la,wL lb] (wD (AS la+AS lb)):=by
 refine Ah.walk w1 Ya rfl λF=>?_
 unfold wL;have ea:(((la.map AR).length:Nat):Int)=(la.length:Int):=by rw[Ap]
 have eb:(((lb.map AR).length:Nat):Int)=(lb.length:Int):=by rw[Ap]
 obtain⟨x,y,hsw,hle,hx,hy,hlx,hv⟩:∃x y:List Nat,(la.length<lb.length/\x=lb/\y=la\/¬la.length<lb.length/\x=la/\y=lb)/\y.length<=x.length/\Wd x/\Wd y/\x.length<4000000/\AS la+AS lb=AS x+AS y:=by
  by_cases h:la.length<lb.length
  ·exact⟨lb,la,.inl ⟨h,rfl,rfl⟩,by omega,hb,ha,hlb,by omega⟩
  ·exact⟨la,lb,.inr ⟨h,rfl,rfl⟩,by omega,ha,hb,hla,rfl⟩
 rw[hv];refine sR 0 ?_;refine FF ⟨[(0,.sl false 1 (x.map AR)),(1,.sl false 1 (y.map AR)),(4,CD)],[],20⟩ ?_ ?_
 ·refine sZ 100 ?_
  refine AT (Ac ea eb) ?_;refine AJ ?_;rcases hsw with⟨h,rfl,rfl⟩|⟨h,rfl,rfl⟩
  ·have e1:decide ((y.length:Int)<(x.length:Int))=true:=AZ (by omega)
   rw[e1];refine rI 200 ?_;exact And.intro (by trivial) (AL)
  ·have e1:decide ((x.length:Int)<(y.length:Int))=false:=Ag (by omega)
   rw[e1];refine Ak ?_;exact And.intro (by trivial) (AL)
 clear hsw ea eb;have ex:(((x.map AR).length:Nat):Int)=(x.length:Int):=by rw[Ap]
 have ey:(((y.map AR).length:Nat):Int)=(y.length:Int):=by rw[Ap]
 have w3:IntKind.i64.wrap ((x.length:Int)+1)=((x.length+1:Nat):Int):=by rw[wI (by omega) (by omega)];omega
 have r3:List.replicate (x.length+1) (ofV (.int .u64 0))=(List.replicate (x.length+1) 0).map AR:=by rw[JD];rfl
 refine sZ 300 ?_;refine AT (Au ex w3 kN) ?_;refine sR 400 ?_;refine AC.seq ?_;refine sZ 500 ?_;refine AT ex ?_;refine AC.block ?_;refine AC.loop (α:=Nat×Nat×List Nat×Nat) (λp=>⟨[(0,.sl false 1 (x.map AR)),(1,.sl false 1 (y.map AR)),(4,CD),(5,.osl 303 23 1 0 (x.length+1)),(6,AR p.2.1),(21,i64 x.length),(22,i64 p.1)],[⟨303,23,225,1,p.2.2.1.map AR⟩],p.2.2.2⟩) (λp=>x.length-p.1)
  (λp=>p.1<=x.length/\p.2.1<=1/\p.2.2.1.length=x.length+1/\Wd p.2.2.1/\AS (p.2.2.1.take p.1)+BB^p.1*p.2.1=AS (x.take p.1)+AS (y.take p.1)) (0,0,List.replicate (x.length+1) 0,_)
  ⟨BT _,BT _,by simp,Lc _,by simp[AS]⟩ (by rw[<-r3];exact AL) ?_
 rintro⟨i,c,o,m⟩ F ⟨h1,h2,h3,h4,h5⟩;dsimp only at h1 h2 h3 h4 h5⊢;refine sR 600 ?_;refine AC.seq ?_;refine AJ ?_
 (refine Bq (λh23=>?_) (λh23=>?_))<;>(try simp only[Bd,Bn]at h23)<;>(try simp only[h23])
 ·have hi:i<x.length:=by simpa using h23
  obtain⟨a,hxa⟩:∃a,x[i]?=some a:=⟨x[i],BF hi⟩
  have ha:=DF hxa;obtain⟨v,hvl,hvv⟩:∃v,v<BB/\(i<y.length/\y[i]?=some v\/y.length<=i/\v=0):=by
   by_cases h:i<y.length
   ·exact⟨y[i],hy _ (List.getElem_mem h),.inl ⟨h,BF h⟩⟩
   ·exact⟨0,by decide,.inr ⟨by omega,rfl⟩⟩
  have hal:a<BB:=hx a (BA hxa);have hyv:AS (y.take (i+1))=AS (y.take i)+BB^i*v:=by
   rcases hvv with⟨h,hh⟩|⟨h,rfl⟩
   ·rw[El hh,GD (i:=i) (by rw[Bf];omega)]
   ·rw[B1 (by omega),B1 h];simp
  have hoi:i<o.length:=by omega
  obtain⟨oi,hoa⟩:∃a,o[i]?=some a:=⟨o[i],BF hoi⟩
  have hob:=DF hoa;have hadd:=WA (a:=a) (b:=v) h2;have wi:IntKind.i64.wrap ((i:Int)+1)=((i+1:Nat):Int):=wI (by omega) (by omega);refine Ak ?_;refine AC.seq ?_;refine AC.block ?_;refine sR 700 ?_;refine sR 800 ?_;refine FF ⟨[(0,.sl false 1 (x.map AR)),(1,.sl false 1 (y.map AR)),(4,CD),(5,.osl 303 23 1 0 (x.length+1)),(6,AR c),(7,i64 i),(8,AR v),(21,i64 x.length),(22,i64 i)],[⟨303,23,225,1,o.map AR⟩],m+30⟩ ?_ ?_
  ·refine sZ 900 ?_
   refine AT ey ?_;refine AJ ?_;rcases hvv with⟨h,hh⟩|⟨h,rfl⟩
   ·have hy':=DF hh
    have e1:decide ((i:Int)<(y.length:Int))=true:=AZ (by omega);rw[e1];refine rI 1000 ?_;refine AD kN ?_;refine Bl kT hy' ?_;refine BK ?_;exact And.intro (by trivial) (AL)
   ·have e1:decide ((i:Int)<(y.length:Int))=false:=Ag (by omega)
    rw[e1];refine Ak ?_;exact And.intro (by trivial) (AL)
  refine rI 1100 ?_;refine AD kN ?_;refine Bl kT ha ?_;refine AD kN ?_
  first|(refine Dt rfl rfl ?_;refine Pi rfl rfl (hadd) ?_)|(refine EM rfl rfl ?_;refine NO rfl rfl (hadd) ?_)
  refine AD (Au kN BM hob) ?_;have hs:(a+v+c)%BB<BB:=Bz _ (by decide);have hc':(a+v+c)/BB<=1:=by
   have:a+v+c<2*BB:=by omega
   exact Md (Eg (by rw[BP];exact this))
  rw[map_set];refine Am w1 1200 (by kernel_rfl) ?_;refine AT wi ?_;refine⟨(i+1,(a+v+c)/BB,o.set i ((a+v+c)%BB),_),⟨hi,hc',by dsimp only;rw[DK];exact h3,h4.set hs,?_⟩,by dsimp only;omega,AL⟩;dsimp only;rw[PT hoi,GD (i:=i) (by rw[Bf];omega),El hxa,GD (i:=i) (by rw[Bf];omega),hyv];have hm:=ET (a+v+c) BB;rw[CE,Br,EI,<-BJ,hm,BJ,BJ];omega
 ·have hi:i=x.length:=by
   have:¬i<x.length:=by simpa using h23
   omega
  subst hi;obtain⟨oi,hoa⟩:∃a,o[x.length]?=some a:=⟨o[x.length],BF (by omega)⟩
  have hob:=DF hoa;refine B6 ?_;refine sZ 1300 ?_;refine AD (Bh ex kN BM hob) ?_;rw[map_set];have ho:o.set x.length c=o.take x.length++[c]:=by
   have:=PT (l:=o) (i:=x.length) (a:=c) (by omega)
   rwa [B1 (by rw[DK];omega)]at this
  have hov:AS (o.set x.length c)=AS x+AS y:=by
   rw[ho,GD (i:=x.length) (by rw[Bf];omega),h5,B1 (Ae _),B1 hle]
  have how:Wd (o.set x.length c):=h4.set (DB h2 (by decide));have hol:(o.set x.length c).length=x.length+1:=by rw[DK];exact h3
  generalize o.set x.length c=z at*;refine AC.weak ⟨[(5,.sl false 1 (z.map AR))],[],_⟩ (TQ hol) ?_;refine sR 1400 ?_;refine Az.same _ (trim_ok z how (by omega)) AG ?_;refine BK ?_;refine Ab ?_;exact AO (by rw[hov]) AA.out
theorem Rz {a b c:Nat}(hc:c<=1):Jz 243 [AR a,AR b,AR c]=some (.tup [AR ((a+BB-b-c)%BB),AR (if a<b+c then 1 else 0)]):=by
 show(match Nat.ble c 1 with
  |true=>some (D.tup [.prim (.int .u64 (((a+18446744073709551616-b-c)%18446744073709551616:Nat):Int)),.prim (.int .u64 ((if a<b+c then 1 else 0:Nat):Int))])
  |false=>none)=_
 have h1:Nat.ble c 1=true:=by rw[Nat.ble_eq];exact hc
 rw[h1]
theorem Rk {a v c:Nat}(ha:a<BB)(hv:v<BB)(hc:c<=1):(a+BB-v-c)%BB+v+c=a+BB*(if a<v+c then 1 else 0):=by
 by_cases h:a<v+c
 ·rw[AH h,DR (by omega)];omega
 ·rw[AE h]
  have:a+BB-v-c=(a-v-c)+BB:=by omega
  rw[this,Nat.add_mod_right,DR (by omega)];omega
theorem mD (x y:List Nat)(hx:Wd x)(hy:Wd y)(hlx:x.length<4000000)(hle:y.length<=x.length)(hv:AS y<=AS x):AI C0 204 [wL x,wL y] (wD (AS x-AS y)):=by
 refine Ah.walk w1 Yc rfl λF=>?_
 unfold wL;have ex:(((x.map AR).length:Nat):Int)=(x.length:Int):=by rw[Ap]
 have ey:(((y.map AR).length:Nat):Int)=(y.length:Int):=by rw[Ap]
 have r3:List.replicate x.length (ofV (.int .u64 0))=(List.replicate x.length 0).map AR:=by rw[JD];rfl
 refine sR 0 ?_;refine sZ 100 ?_;refine AT (Ac ex kN) ?_;refine sR 200 ?_;refine AC.seq ?_;refine sZ 300 ?_;refine AT ex ?_;refine AC.block ?_;refine AC.loop (α:=Nat×Nat×List Nat×Nat) (λp=>⟨[(0,.sl false 1 (x.map AR)),(1,.sl false 1 (y.map AR)),(4,CD),(5,.osl 102 3 1 0 x.length),(6,AR p.2.1),(13,i64 x.length),(14,i64 p.1)],[⟨102,3,225,1,p.2.2.1.map AR⟩],p.2.2.2⟩) (λp=>x.length-p.1)
  (λp=>p.1<=x.length/\p.2.1<=1/\p.2.2.1.length=x.length/\Wd p.2.2.1/\AS (p.2.2.1.take p.1)+AS (y.take p.1)=AS (x.take p.1)+BB^p.1*p.2.1) (0,0,List.replicate x.length 0,_)
  ⟨BT _,BT _,by simp,Lc _,by simp[AS]⟩ (by rw[<-r3];exact AL) ?_
 rintro⟨i,c,o,m⟩ F ⟨h1,h2,h3,h4,h5⟩;dsimp only at h1 h2 h3 h4 h5⊢;refine sR 400 ?_;refine AC.seq ?_;refine AJ ?_
 (refine Bq (λh23=>?_) (λh23=>?_))<;>(try simp only[Bd,Bn]at h23)<;>(try simp only[h23])
 ·have hi:i<x.length:=by simpa using h23
  obtain⟨a,hxa⟩:∃a,x[i]?=some a:=⟨x[i],BF hi⟩
  have ha:=DF hxa;obtain⟨v,hvl,hvv⟩:∃v,v<BB/\(i<y.length/\y[i]?=some v\/y.length<=i/\v=0):=by
   by_cases h:i<y.length
   ·exact⟨y[i],hy _ (List.getElem_mem h),.inl ⟨h,BF h⟩⟩
   ·exact⟨0,by decide,.inr ⟨by omega,rfl⟩⟩
  have hal:a<BB:=hx a (BA hxa);have hyv:AS (y.take (i+1))=AS (y.take i)+BB^i*v:=by
   rcases hvv with⟨h,hh⟩|⟨h,rfl⟩
   ·rw[El hh,GD (i:=i) (by rw[Bf];omega)]
   ·rw[B1 (by omega),B1 h];simp
  have hoi:i<o.length:=by omega
  obtain⟨oi,hoa⟩:∃a,o[i]?=some a:=⟨o[i],BF hoi⟩
  have hob:=DF hoa;have hsub:=Rz (a:=a) (b:=v) h2;have hdig:=Rk hal hvl h2;have hc':(if a<v+c then 1 else 0)<=1:=by split<;>decide
  have hs:(a+BB-v-c)%BB<BB:=Bz _ (by decide);generalize(if a<v+c then 1 else 0)=c' at*;generalize(a+BB-v-c)%BB=d at*;have wi:IntKind.i64.wrap ((i:Int)+1)=((i+1:Nat):Int):=wI (by omega) (by omega);refine Ak ?_;refine AC.seq ?_;refine AC.block ?_;refine sR 500 ?_;refine sR 600 ?_;refine FF ⟨[(0,.sl false 1 (x.map AR)),(1,.sl false 1 (y.map AR)),(4,CD),(5,.osl 102 3 1 0 x.length),(6,AR c),(7,i64 i),(8,AR v),(13,i64 x.length),(14,i64 i)],[⟨102,3,225,1,o.map AR⟩],m+30⟩ ?_ ?_
  ·refine sZ 700 ?_
   refine AT ey ?_;refine AJ ?_;rcases hvv with⟨h,hh⟩|⟨h,rfl⟩
   ·have hy':=DF hh
    have e1:decide ((i:Int)<(y.length:Int))=true:=AZ (by omega);rw[e1];refine rI 800 ?_;refine AD kN ?_;refine Bl kT hy' ?_;refine BK ?_;exact And.intro (by trivial) (AL)
   ·have e1:decide ((i:Int)<(y.length:Int))=false:=Ag (by omega)
    rw[e1];refine Ak ?_;exact And.intro (by trivial) (AL)
  refine rI 900 ?_;refine AD kN ?_;refine Bl kT ha ?_;refine AD kN ?_
  first|(refine Dt rfl rfl ?_;refine Pi rfl rfl (hsub) ?_)|(refine EM rfl rfl ?_;refine NO rfl rfl (hsub) ?_)
  refine AD (Au kN BM hob) ?_;rw[map_set];refine Am w1 1000 (by kernel_rfl) ?_;refine AT wi ?_;refine⟨(i+1,c',o.set i d,_),⟨hi,hc',by dsimp only;rw[DK];exact h3,h4.set hs,?_⟩,by dsimp only;omega,AL⟩;dsimp only;rw[PT hoi,GD (i:=i) (by rw[Bf];omega),El hxa,GD (i:=i) (by rw[Bf];omega),hyv];have h6:BB^i*d+BB^i*v+BB^i*c=BB^i*a+BB^(i+1)*c':=by
   rw[CE,Br,<-BJ,<-BJ,<-BJ,hdig]
  omega
 ·have hi:i=x.length:=by
   have:¬i<x.length:=by simpa using h23
   omega
  subst hi;rw[B1 (Nat.le_of_eq h3),B1 (Ae _),B1 hle]at h5;have hlt:=Gz h4;rw[h3]at hlt;have hc0:c=0:=by
   rcases DU c with h|h
   ·exact h
   ·have:c=1:=by omega
    subst this;rw[Dy]at h5;omega
  subst hc0;have hov:AS o=AS x-AS y:=by
   rw[EJ]at h5;omega
  refine B6 ?_;refine AC.weak ⟨[(5,.sl false 1 (o.map AR))],[],_⟩ (TQ h3) ?_;refine sR 1100 ?_;refine Az.same _ (trim_ok o h4 (by omega)) AG ?_;refine BK ?_;refine Ab ?_;exact AO (by rw[hov]) AA.out
theorem Il:∀ {l:List Nat} {k o d:Nat},l[k]?=some o->AS (l.set k d)+BB^k*o=AS l+BB^k*d
 |a::l,0,o,d,h=>by
  simp only[Qz,BI]at h;subst h;simp only[List.set_cons_zero,AS,LE,IZ];omega
 |a::l,k+1,o,d,h=>by
  simp only[JF]at h;have ih:=Il (d:=d) h;simp only[List.set_cons_succ,AS];have h1:BB^(k+1)*o=BB*(BB^k*o):=by rw[CE,BP (BB^k) BB,Br]
  have h2:BB^(k+1)*d=BB*(BB^k*d):=by rw[CE,BP (BB^k) BB,Br]
  have h3:BB*AS (l.set k d)+BB*(BB^k*o)=BB*AS l+BB*(BB^k*d):=by rw[<-BJ,<-BJ,ih]
  omega
theorem g8 {x y o c:Nat}(hx:x<BB)(hy:y<BB)(ho:o<BB)(hc:c<BB):
  ∃hi lo c1 lo1 hi1 c2 lo2 c',hi=x*y/BB/\lo=x*y%BB/\lo1=(lo+o+0)%BB/\c1=(lo+o+0)/BB/\hi1=hi+c1/\hi1<BB/\lo2=(lo1+c+0)%BB/\c2=(lo1+c+0)/BB/\c'=hi1+c2/\c'<BB/\lo2<BB /\
   lo2+BB*c'=x*y+o+c:=by
 refine⟨_,_,_,_,_,_,_,_,rfl,rfl,rfl,rfl,rfl,?_,rfl,rfl,rfl,?_,Bz _ (by decide),?_⟩
 all_goals
  unfold BB at*;have e1:=ET (x*y) 18446744073709551616;have e2:=ET (x*y%18446744073709551616+o+0) 18446744073709551616;have e3:=ET ((x*y%18446744073709551616+o+0)%18446744073709551616+c+0) 18446744073709551616;have hxy:x*y<=(18446744073709551616-1)*(18446744073709551616-1):=Hz (by omega) (by omega);have hk:(18446744073709551616-1)*(18446744073709551616-1)=340282366920938463426481119284349108225:=by decide
  rw[hk]at hxy;have l1:=Bz (x*y) (show 18446744073709551616>0 by decide);have l2:=Bz (x*y%18446744073709551616+o+0) (show 18446744073709551616>0 by decide);have l3:=Bz ((x*y%18446744073709551616+o+0)%18446744073709551616+c+0) (show 18446744073709551616>0 by decide);generalize x*y=p at*;generalize hA:p/18446744073709551616=A at*;generalize hB:p%18446744073709551616=B at*;generalize hC:(B+o+0)/18446744073709551616=C at*;generalize hD:(B+o+0)%18446744073709551616=D at*;generalize hE:(D+c+0)/18446744073709551616=E at*;generalize hF:(D+c+0)%18446744073709551616=F at*;omega
theorem UL {n:Nat}(h:n<BB):IntKind.u64.wrap (n:Int)=(n:Int):=wU (by omega) (by unfold BB at h;omega)
theorem lT (a b:List Nat)(ha:Wd a)(hb:Wd b)(hla:a.length<1000000)(hlb:b.length<1000000):AI C0 201 [wL a,wL b] (wD (AS a*AS b)):=by
 refine Ah.walk w1 YZ rfl λF=>?_
 unfold wL;have ea:(((a.map AR).length:Nat):Int)=(a.length:Int):=by rw[Ap]
 have eb:(((b.map AR).length:Nat):Int)=(b.length:Int):=by rw[Ap]
 have wl:IntKind.i64.wrap ((a.length:Int)+(b.length:Int))=((a.length+b.length:Nat):Int):=by rw[wI (by omega) (by omega)];omega
 have r3:List.replicate (a.length+b.length) (ofV (.int .u64 0))=(List.replicate (a.length+b.length) 0).map AR:=by rw[JD];rfl
 refine sR 0 ?_;refine sZ 100 ?_;refine AT (Bh ea eb wl kN) ?_;refine AC.seq ?_;refine sZ 200 ?_;refine AT ea ?_;refine AC.block ?_;refine AC.loop (α:=Nat×List Nat×Nat) (λp=>⟨[(0,.sl false 1 (a.map AR)),(1,.sl false 1 (b.map AR)),(4,CD),(5,.osl 105 6 1 0 (a.length+b.length)),(20,.sl false 1 (a.map AR)),(21,i64 a.length),(22,i64 p.1)],[⟨105,6,225,1,p.2.1.map AR⟩],p.2.2⟩) (λp=>a.length-p.1)
  (λp=>p.1<=a.length/\p.2.1.length=a.length+b.length/\Wd p.2.1/\AS p.2.1=AS (a.take p.1)*AS b/\∀k,p.1+b.length<=k->∀d,p.2.1[k]?=some d->d=0) (0,List.replicate (a.length+b.length) 0,_)
  ⟨BT _,by simp,Lc _,by simp[AS,Ov],λk _ d hd=>OH (BA hd)⟩ (by rw[<-r3];exact AL) ?_
 rintro⟨i,o,m⟩ F ⟨h1,h2,h3,h4,h5⟩;dsimp only at h1 h2 h3 h4 h5⊢;refine sR 300 ?_;refine AC.seq ?_;refine AJ ?_
 (refine Bq (λh23=>?_) (λh23=>?_))<;>(try simp only[Bd,Bn]at h23)<;>(try simp only[h23])
 ·have hi:i<a.length:=by simpa using h23
  obtain⟨x,hx⟩:∃x,a[i]?=some x:=⟨a[i],BF hi⟩
  have hx':=DF hx;have hxl:x<BB:=ha x (BA hx);have wi:IntKind.i64.wrap ((i:Int)+1)=((i+1:Nat):Int):=wI (by omega) (by omega);have hax:AS (a.take (i+1))=AS (a.take i)+BB^i*x:=by rw[El hx,GD (i:=i) (by rw[Bf];omega)]
  refine Ak ?_;refine AC.seq ?_;refine AC.block ?_;refine sR 400 ?_;refine Bl kT hx' ?_;refine BK ?_;refine sR 500 ?_;refine AC.seq ?_;refine sZ 600 ?_;refine AT eb ?_;refine AC.block ?_;refine AC.loop (α:=Nat×Nat×List Nat×Nat) (λp=>⟨[(0,.sl false 1 (a.map AR)),(1,.sl false 1 (b.map AR)),(4,CD),(5,.osl 105 6 1 0 (a.length+b.length)),(6,i64 i),(7,AR x),(8,AR p.2.1),(20,.sl false 1 (a.map AR)),(21,i64 a.length),(22,i64 i),(27,.sl false 1 (b.map AR)),(28,i64 b.length),(29,i64 p.1)],[⟨105,6,225,1,p.2.2.1.map AR⟩],p.2.2.2⟩) (λp=>b.length-p.1)
   (λp=>p.1<=b.length/\p.2.1<BB/\p.2.2.1.length=a.length+b.length/\Wd p.2.2.1/\AS p.2.2.1+BB^(i+p.1)*p.2.1=AS (a.take i)*AS b+BB^i*x*AS (b.take p.1)/\∀k,i+b.length<=k->∀d,p.2.2.1[k]?=some d->d=0) (0,0,o,_)
   ⟨BT _,show 0<BB by decide,h2,h3,by simp[AS,h4],h5⟩ AL ?_
  rintro⟨j,c,q,m2⟩ F ⟨g1,g2,g3,g4,g5,g6⟩;dsimp only at g1 g2 g3 g4 g5 g6⊢;clear h2 h3 h4 h5 r3 wl;refine sR 700 ?_;refine AC.seq ?_;refine AJ ?_
  (refine Bq (λh30=>?_) (λh30=>?_))<;>(try simp only[Bd,Bn]at h30)<;>(try simp only[h30])
  ·have hj:j<b.length:=by simpa using h30
   obtain⟨y,hy⟩:∃y,b[j]?=some y:=⟨b[j],BF hj⟩
   have hy':=DF hy;have hyl:y<BB:=hb y (BA hy);obtain⟨z,hz⟩:∃z,q[i+j]?=some z:=⟨q[i+j],BF (by omega)⟩
   have hz':=DF hz;have hzl:z<BB:=g4 z (BA hz);have wj:IntKind.i64.wrap ((j:Int)+1)=((j+1:Nat):Int):=wI (by omega) (by omega);have wij:IntKind.i64.wrap ((i:Int)+(j:Int))=((i+j:Nat):Int):=by rw[wI (by omega) (by omega)];omega
   have hbx:AS (b.take (j+1))=AS (b.take j)+BB^j*y:=by rw[El hy,GD (i:=j) (by rw[Bf];omega)]
   have cm:=M9 x y hxl hyl;obtain⟨hi',lo,c1,lo1,hi1,c2,lo2,c',e1,e2,e3,e4,e5,e6,e7,e8,e9,e10,e11,e12⟩:=g8 hxl hyl hzl g2;rw[show x*y/18446744073709551616=hi' from e1.symm,show x*y%18446744073709551616=lo from e2.symm]at cm;have e3':(lo+z+0)%18446744073709551616=lo1:=e3.symm;have e4':(lo+z+0)/18446744073709551616=c1:=e4.symm;have e7':(lo1+c+0)%18446744073709551616=lo2:=e7.symm;have e8':(lo1+c+0)/18446744073709551616=c2:=e8.symm;have w6:IntKind.u64.wrap ((hi':Int)+(c1:Int))=(hi1:Int):=by rw[<-Int.natCast_add,<-e5];exact UL e6
   have w7:IntKind.u64.wrap ((hi1:Int)+(c2:Int))=(c':Int):=by rw[<-Int.natCast_add,<-e9];exact UL e10
   refine Ak ?_;refine AC.seq ?_;refine AC.block ?_;refine sR 800 ?_;refine Bl kT hy' ?_;refine BK ?_;refine sR 900 ?_;refine Az.same _ cm AG ?_;refine BK ?_;refine sR 1000 ?_;refine sZ 1100 ?_;refine AD (E7 wij kN BM hz' e3' e4') ?_;refine sZ 1200 ?_;refine AT w6 ?_;refine sZ 1300 ?_;refine AT (Ac e7' e8') ?_;refine Am w1 1400 (by kernel_rfl) ?_;refine AD (C5 wij w7 kN BM hz') ?_;rw[show(D.prim (Value.int IntKind.u64 (lo2:Int)))=AR lo2 from rfl,map_set];refine Am w1 1500 (by kernel_rfl) ?_;refine AT wj ?_;refine⟨(j+1,c',q.set (i+j) lo2,_),⟨hj,e10,by dsimp only;rw[DK];exact g3,g4.set e11,?_,λk hk d hd=>?_⟩,by dsimp only;omega,AL⟩
   ·dsimp only
    have hs:=Il (d:=lo2) hz;rw[hbx,BJ,<-EI (AS (a.take i)*AS b),<-g5];have h6:BB^(i+j)*lo2+BB^(i+(j+1))*c'=BB^i*x*(BB^j*y)+BB^(i+j)*z+BB^(i+j)*c:=by
     have:BB^i*x*(BB^j*y)=BB^(i+j)*(x*y):=by
      rw[Fd,Br,Br,Hx x]
     rw[this,<-EI i j 1,CE,Br,<-BJ,<-BJ,<-BJ,e12]
    omega
   ·dsimp only at hk hd
    rw[H3 (by omega)]at hd;exact g6 k hk d hd
  ·have hj:j=b.length:=by
    have:¬j<b.length:=by simpa using h30
    omega
   subst hj;obtain⟨z,hz⟩:∃z,q[i+b.length]?=some z:=⟨q[i+b.length],BF (by omega)⟩
   have hz0:z=0:=g6 _ (Ae _) _ hz;subst hz0;have hz':=DF hz;have wij:IntKind.i64.wrap ((i:Int)+(b.length:Int))=((i+b.length:Nat):Int):=by rw[wI (by omega) (by omega)];omega
   have wij0:IntKind.i64.wrap ((i:Int)+(((b.map AR).length:Nat):Int))=((i+b.length:Nat):Int):=by rw[eb];exact wij
   refine B6 ?_;refine Am w1 1600 (by kernel_rfl) ?_;refine AD (C5 eb wij kN BM hz') ?_;rw[map_set];refine Am w1 1700 (by kernel_rfl) ?_;refine AT wi ?_;refine⟨(i+1,q.set (i+b.length) c,_),⟨hi,by dsimp only;rw[DK];exact g3,g4.set g2,?_,λk hk d hd=>?_⟩,by dsimp only;omega,AL⟩
   ·dsimp only
    have hs:=Il (d:=c) hz;rw[B1 (Ae _)]at g5;rw[hax,Bp];omega
   ·dsimp only at hk hd
    rw[H3 (by omega)]at hd;exact g6 k (by omega) d hd
 ·have hi:i=a.length:=by
   have:¬i<a.length:=by simpa using h23
   omega
  subst hi;rw[B1 (Ae _)]at h4;refine B6 ?_;refine AC.weak ⟨[(5,.sl false 1 (o.map AR))],[],_⟩ (TQ h2) ?_;refine sR 1800 ?_;refine Az.same _ (trim_ok o h3 (by omega)) AG ?_;refine BK ?_;refine Ab ?_;exact AO (by rw[h4]) AA.out
structure GI where
 z:Int
 sm:Bool
def GI.wf (x:GI):Prop:=(x.sm=true→-9223372036854775808<=x.z/\x.z<9223372036854775808)/\(x.sm=false->¬Sm x.z)
def GI.s (x:GI):Int:=match x.sm with
 |true=>x.z
 |false=>if x.z<0 then -1 else 1
def GI.w (x:GI):D:=match x.sm with
 |true=>CD
 |false=>wD x.z.natAbs
abbrev GI.D (x:GI):D:=.agg [i64 x.s,x.w]
theorem qh (x:GI):B0 x.w:=by
 unfold GI.w;split
 ·exact .prim _
 ·exact Jg _
instance  (x:GI):AA x.w:=⟨qh x⟩
instance  (z:Int):Decidable (Sm z):=inferInstanceAs (Decidable (_/\_))
def AV (z:Int):GI:=⟨z,decide (Sm z)⟩
theorem CV (z:Int):(AV z).wf:=by
 refine⟨λh=>?_,λh=>?_⟩
 ·have h:Sm z:=Cw h
  exact⟨Int.le_of_lt h.1,h.2⟩
 ·exact Cz h
theorem Iq {z:Int}(h:Sm z):AV z=⟨z,true⟩:=by unfold AV;rw[AZ h]
theorem TC {z:Int}(h:¬Sm z):AV z=⟨z,false⟩:=by unfold AV;rw[Ag h]
theorem LW {n:Nat}(h0:n≠0)(h:n<BB):Ad n=[n]:=by
 rw[Fk h0,DR h,Gt h,FL]
theorem G4 {n:Nat}(h:n≠0):(Ad n).map AR≠[]:=by rw[Fk h];simp
theorem ZM (x:GI)(h:x.wf):(x.s<0)=(x.z<0):=by
 obtain⟨z,sm⟩:=x;cases sm with
 |true=>rfl
 |false=>
  unfold GI.s;dsimp only;split<;>simp<;>omega
theorem sT {H Hf:Hp}(n:Nat)(h0:n≠0)(h:n<BB):Fz H Hf (.sl true 1 [AR n]) (wD n):=by
 unfold wD wL;rw[LW h0 h];exact .nn true 1 _
theorem Zs {H Hf:Hp}{a b c d:D}(h:Fz H Hf a c)(k:Fz H Hf b d):Fz H Hf (.tup [a,b]) (.tup [c,d]):=.tup rfl λi x y hx hy=>by
 match i with
 | 0=>simp at hx hy;subst hx;subst hy;exact h
 | 1=>simp at hx hy;subst hx;subst hy;exact k
 |i+2=>simp at hx
instance  (a b:Nat):AA (.tup [wD a,wD b]):=AG
theorem jk:AI C0 198 [i64 (-9223372036854775808)] (AR 9223372036854775808):=CA DJ 1000 40 (by kernel_rfl)
theorem NX {z:Int}(h1 : -9223372036854775808<=z)(h2:z<9223372036854775808):AI C0 198 [i64 z] (AR z.natAbs):=by
 by_cases h:z = -9223372036854775808
 ·subst h;exact jk
 ·exact lx z ⟨by omega,h2⟩
theorem Ik (x:GI)(h:x.wf):AI C0 199 [x.D] (.tup [Aq (decide (x.z<0)),wD x.z.natAbs]):=by
 refine Ah.walk w1 YX rfl λF=>?_
 obtain⟨z,sm⟩:=x;obtain⟨h1,h2⟩:=h;unfold GI.D GI.s GI.w;cases sm with
 |true=>
  obtain⟨h3,h4⟩:=h1 rfl;dsimp only at h3 h4⊢;have cs:=NX h3 h4;refine sR 0 ?_;refine AC.seq ?_;refine AC.block ?_;refine sR 100 ?_;refine AJ ?_;refine sR 300 ?_;refine AJ ?_
  (refine Bq (λh13=>?_) (λh13=>?_))<;>(try simp only[Bd,Bn]at h13)<;>(try simp only[h13])
  ·have hz:z=0:=by simpa using h13
   subst hz;refine sR 400 ?_;refine Ab ?_;refine⟨_,Zs (.refl _) (c:=Aq (decide ((0:Int)<0))) (d:=wD (Int.natAbs 0)) ?_,AA.out,rfl⟩;show Fz _ _ CD (wD 0);unfold wD wL;rw[FL];exact .nil 1
  ·have hz:z≠0:=by simpa using h13
   refine Ak ?_;refine AC.seq ?_;refine B5 w1 500 [0,1,2,3,4,5,6,7] [8] (by kernel_rfl) ?_;refine AD kN ?_;refine BQ.same _ cs AG ?_;refine BK ?_;refine Ab ?_;refine⟨_,Zs (.refl _) (c:=Aq (decide (z<0))) (sT z.natAbs (by omega) (by unfold BB;omega)),AA.out,rfl⟩
 |false=>
  have hb:=h2 rfl;have hs:=ZM ⟨z,false⟩ ⟨h1,h2⟩;unfold GI.s at hs;dsimp only at hb hs⊢;have hne:=G4 (n:=z.natAbs) (by intro h0;apply hb;exact⟨by omega,by omega⟩);have hp:B0 (.sl false 1 ((Ad z.natAbs).map AR)):=Jg _;unfold wD wL;generalize(Ad z.natAbs).map AR=l at*;generalize(if z<0 then(-1:Int)else 1)=sg at*;refine sR 0 ?_;refine AC.seq ?_;refine AC.block ?_;refine sZ 100 ?_;refine AT (Au (@ne_eq (List D)) hne EC) ?_;refine AJ ?_;refine AC.seq ?_;refine B5 w1 200 [0,1,2,3,4,5] [6] (by kernel_rfl) ?_;refine BK ?_;refine Ab ?_;refine AO ?_ (.tup λd hd=>?_)
  ·simp only[hs]
  ·simp only[A0,DC,or_false]at hd
   rcases hd with rfl|rfl
   ·exact .prim _
   ·exact hp
def Dj (neg:Bool)(n:Nat):Int:=match neg with
 |true=>-(n:Int)
 |false=>n
theorem Ki (neg:Bool)(n:Nat)(hlen:(Ad n).length<4000000):AI C0 200 [Aq neg,wD n] (AV (Dj neg n)).D:=by
 refine Ah.walk w1 YY rfl λF=>?_
 by_cases h0:n=0
 ·subst h0
  have e:AV (Dj neg 0)=⟨0,true⟩:=by cases neg<;>exact Iq ⟨by decide,by decide⟩
  rw[e];unfold wD wL GI.D GI.s GI.w;rw[FL];dsimp only[List.map];refine sR 0 ?_;refine AC.seq ?_;refine AC.block ?_;refine sR 100 ?_;refine AJ ?_;refine sR 200 ?_;refine Ab ?_;exact AO rfl AA.out
 ·by_cases h1:n<BB
  ·have hl:=LW h0 h1
   have b1:(((1:Nat):Int)==0)=false:=rfl;have b2:(((1:Nat):Int)==1)=true:=rfl;have hx:[AR n][(0:Int).toNat]?=some (AR n):=rfl
   by_cases h2:n<=9223372036854775807
   ·have b3:decide ((n:Int)<=9223372036854775807)=true:=AZ (by omega)
    have hsm:Sm (Dj neg n):=by unfold Dj;split<;>exact⟨by omega,by omega⟩
    rw[Iq hsm];unfold wD wL GI.D GI.s GI.w;rw[hl];dsimp only[List.map];have w1':IntKind.i64.wrap (n:Int)=(n:Int):=wN h2;have w2':IntKind.i64.wrap (0-(n:Int)) = -(n:Int):=by rw[wI (by omega) (by omega)];omega
    cases neg with
    |true=>
     unfold Dj;dsimp only;refine sR 0 ?_;refine AC.seq ?_;refine AC.block ?_;refine sZ 100 ?_;refine AT b1 ?_;refine AJ ?_;refine sZ 300 ?_;refine AD (Ac b2 b3) ?_;refine AD (Ac b2 b3) ?_;refine Bl b2 hx ?_;refine AD (Ac b2 b3) ?_;refine AD (Ac b2 b3) ?_;refine AJ ?_;refine sZ 400 ?_;refine AD b2 ?_;refine Bl b2 hx ?_;refine AD (Ac w1' w2') ?_;refine Ab ?_;exact AO rfl AA.out
    |false=>
     unfold Dj;dsimp only;refine sR 0 ?_;refine AC.seq ?_;refine AC.block ?_;refine sZ 100 ?_;refine AT b1 ?_;refine AJ ?_;refine sZ 300 ?_;refine AD (Ac b2 b3) ?_;refine AD (Ac b2 b3) ?_;refine Bl b2 hx ?_;refine AD (Ac b2 b3) ?_;refine AD (Ac b2 b3) ?_;refine AJ ?_;refine sZ 500 ?_;refine AD (Ac b2 b3) ?_;refine AD (Ac b2 b3) ?_;refine Bl b2 hx ?_;refine AD (Ac b2 b3) ?_;refine AD (Ac b2 b3) ?_;refine AJ ?_;refine sZ 600 ?_;refine AD b2 ?_;refine Bl b2 hx ?_;refine AD (Ac w1' w2') ?_;refine Ab ?_;exact AO rfl AA.out
   ·have b3:decide ((n:Int)<=9223372036854775807)=false:=Ag (by omega)
    have hsm:¬Sm (Dj neg n):=by
     intro hs;have h3:=hs.1;have h4:=hs.2
     revert h3 h4
     unfold Dj;split<;>intro h3 h4<;>omega
    rw[TC hsm];have ha:(Dj neg n).natAbs=n:=by unfold Dj;split<;>omega
    unfold GI.D GI.s GI.w;dsimp only;rw[ha];unfold wD wL;rw[hl];dsimp only[List.map];cases neg with
    |true=>
     have hs:(if Dj true n<0 then(-1:Int)else 1) = -1:=AH (by show -(n:Int)<0;omega);rw[hs];refine sR 0 ?_;refine AC.seq ?_;refine AC.block ?_;refine sZ 100 ?_;refine AT b1 ?_;refine AJ ?_;refine sZ 300 ?_;refine AD (Ac b2 b3) ?_;refine AD (Ac b2 b3) ?_;refine Bl b2 hx ?_;refine AD (Ac b2 b3) ?_;refine AD (Ac b2 b3) ?_;refine AJ ?_;refine sZ 500 ?_;refine AD (Ac b2 b3) ?_;refine AD (Ac b2 b3) ?_;refine Bl b2 hx ?_;refine AD (Ac b2 b3) ?_;refine AD (Ac b2 b3) ?_;refine AJ ?_;refine sR 700 ?_;refine AJ ?_;refine sR 800 ?_;refine Ab ?_;exact AO rfl AA.out
    |false=>
     have hs:(if Dj false n<0 then(-1:Int)else 1)=1:=AE (by show ¬(n:Int)<0;omega);rw[hs];refine sR 0 ?_;refine AC.seq ?_;refine AC.block ?_;refine sZ 100 ?_;refine AT b1 ?_;refine AJ ?_;refine sZ 300 ?_;refine AD (Ac b2 b3) ?_;refine AD (Ac b2 b3) ?_;refine Bl b2 hx ?_;refine AD (Ac b2 b3) ?_;refine AD (Ac b2 b3) ?_;refine AJ ?_;refine sZ 500 ?_;refine AD (Ac b2 b3) ?_;refine AD (Ac b2 b3) ?_;refine Bl b2 hx ?_;refine AD (Ac b2 b3) ?_;refine AD (Ac b2 b3) ?_;refine AJ ?_;refine sR 700 ?_;refine AJ ?_;refine Ak ?_;refine sR 900 ?_;refine Ab ?_;exact AO rfl AA.out
  ·have hl2:2<=(Ad n).length:=by
    rw[Fk h0,Fk (n:=n/BB) (by
     intro h
     have:=EH n BB
     have:=Bz n (show BB>0 by decide)
     rw[h]at*;omega)]
    simp
   have hsm:¬Sm (Dj neg n):=by
    intro hs;have h3:=hs.1;have h4:=hs.2;have h5:BB<=n:=by omega
    unfold BB at h5
    revert h3 h4
    unfold Dj;split<;>intro h3 h4<;>omega
   rw[TC hsm];have ha:(Dj neg n).natAbs=n:=by unfold Dj;split<;>omega
   have hp:AA (.sl false 1 ((Ad n).map AR)):=⟨Jg _⟩
   unfold GI.D GI.s GI.w;dsimp only;rw[ha];unfold wD wL;have hel:((((Ad n).map AR).length:Nat):Int)=((Ad n).length:Int):=by rw[Ap]
   generalize(Ad n).map AR=l at*;generalize hL:(Ad n).length=L at*;have b1:((L:Int)==0)=false:=B3.2 (by omega);have b2:((L:Int)==1)=false:=B3.2 (by omega);cases neg with
   |true=>
    have hs:(if Dj true n<0 then(-1:Int)else 1) = -1:=AH (by show -(n:Int)<0;omega);rw[hs];refine sR 0 ?_;refine AC.seq ?_;refine AC.block ?_;refine sZ 100 ?_;refine AT (Ac hel b1) ?_;refine AJ ?_;refine sZ 300 ?_;refine AT (Ac hel b2) ?_;refine AD (Ac hel b2) ?_;refine AD (Ac hel b2) ?_;refine AJ ?_;refine sZ 500 ?_;refine AT (Ac hel b2) ?_;refine AD (Ac hel b2) ?_;refine AJ ?_;refine sR 700 ?_;refine AJ ?_;refine sR 800 ?_;refine Ab ?_;exact AO rfl AA.out
   |false=>
    have hs:(if Dj false n<0 then(-1:Int)else 1)=1:=AE (by show ¬(n:Int)<0;omega);rw[hs];refine sR 0 ?_;refine AC.seq ?_;refine AC.block ?_;refine sZ 100 ?_;refine AT (Ac hel b1) ?_;refine AJ ?_;refine sZ 300 ?_;refine AT (Ac hel b2) ?_;refine AD (Ac hel b2) ?_;refine AD (Ac hel b2) ?_;refine AJ ?_;refine sZ 500 ?_;refine AT (Ac hel b2) ?_;refine AD (Ac hel b2) ?_;refine AJ ?_;refine sR 700 ?_;refine AJ ?_;refine Ak ?_;refine sR 900 ?_;refine Ab ?_;exact AO rfl AA.out
theorem Lw (x:GI)(h:x.wf):AI C0 194 [x.D] (i64 (max (-1) (min 1 x.z))):=by
 refine Ah.walk w1 YT rfl λF=>?_
 have e:max (-1) (min 1 x.s)=max (-1) (min 1 x.z):=by
  obtain⟨z,sm⟩:=x;cases sm with
  |true=>rfl
  |false=>
   have hb:=h.2 rfl;unfold GI.s;dsimp only at hb⊢;unfold Sm at hb;split<;>omega
 refine fR 0 ?_;refine fR 100 ?_;rw[e];refine Ab ?_;exact AO rfl AA.out
theorem ji (z:Int):Dj (!decide (z<0)) z.natAbs = -z:=by
 by_cases h:z<0
 ·rw[AZ h];show((z.natAbs:Nat):Int) = -z;omega
 ·rw[Ag h];show -((z.natAbs:Nat):Int) = -z;omega
def GI.few (x:GI):Prop:=(Ad x.z.natAbs).length<1000000
theorem No (x:GI)(h:x.wf)(hf:x.few):AI C0 193 [x.D] (AV (-x.z)).D:=by
 by_cases hs:x.sm=true/\x.z ≠ -9223372036854775808
 ·obtain⟨z,sm⟩:=x
  obtain⟨rfl,hz⟩:=hs;have h1:=h.1 rfl;dsimp only at h1 hz⊢;have hsm:Sm z:=⟨by omega,h1.2⟩
  have:=rN z hsm
  rw[Iq ⟨by have:=hsm.2;omega,by have:=hsm.1;omega⟩];exact this
 ·refine Ah.walk w1 Sz rfl λF=>?_
  have cp:=Ik x h;have cm:=Ki (!decide (x.z<0)) x.z.natAbs (Fc hf (by decide));rw[ji]at cm;have hpr:AA (AV (-x.z)).w:=AG;dsimp only[GI.D]at cp cm⊢;generalize(AV (-x.z)).s=rs at*;generalize(AV (-x.z)).w=rw at*;obtain⟨z,sm⟩:=x;unfold GI.s GI.w at*;cases sm with
  |true=>
   have hz:z = -9223372036854775808:=Cq λh0=>hs ⟨rfl,h0⟩
   subst hz;dsimp only at cp cm⊢;refine fR 0 ?_;refine AC.seq ?_;refine sZ 100 ?_
   repeat'(first|(refine And.intro (by exact B4) ?_;refine At ?_)|((refine Bq (λhb=>?_) (λhb=>?_))<;>(try simp only[Bd,Bn]at hb)<;>(try simp only[hb])<;>(refine At ?_)))
   refine AJ ?_;refine Ak ?_;refine fR 300 ?_;refine dI cp ?_;refine fR 400 ?_;refine dI cm ?_;refine Ab ?_;exact AO rfl AA.out
  |false=>
   have hne:=G4 (n:=z.natAbs) (by
    intro h0
    have:=h.2 rfl
    apply this;exact⟨by dsimp only;omega,by dsimp only;omega⟩)
   dsimp only at cp cm⊢;unfold wD wL at*;have hp:AA (.sl false 1 ((Ad z.natAbs).map AR)):=⟨Jg _⟩
   generalize(Ad z.natAbs).map AR=l at*;generalize(if z<0 then(-1:Int)else 1)=sg at*;generalize decide (z<0)=nb at*;refine fR 0 ?_;refine AC.seq ?_;refine AC.seq ?_;refine Am w1 100 (by kernel_rfl) ?_;refine AT (Au (@ne_eq (List D)) hne EC) ?_;refine AD kT ?_;refine AD kT ?_;refine AJ ?_;refine Ak ?_;refine fR 300 ?_;refine dI cp ?_;refine fR 400 ?_;refine dI cm ?_;refine Ab ?_;exact AO rfl AA.out
theorem tU (a b:Nat)(ha:(Ad a).length<1000000)(hb:(Ad b).length<1000000):AI C0 202 [wD a,wD b] (wD (a+b)):=by
 have:=kM (Ad a) (Ad b) (En a) (En b) (Fc ha (by decide)) (Fc hb (by decide))
 rwa [EX,EX]at this
theorem bE (a b:Nat)(h:b<=a)(ha:(Ad a).length<1000000):AI C0 204 [wD a,wD b] (wD (a-b)):=by
 have:=mD (Ad a) (Ad b) (En a) (En b) (Fc ha (by decide)) (Gx b a h) (by rw[EX,EX];exact h)
 rwa [EX,EX]at this
theorem ul (a b:Nat)(ha:(Ad a).length<1000000)(hb:(Ad b).length<1000000):AI C0 201 [wD a,wD b] (wD (a*b)):=by
 have:=lT (Ad a) (Ad b) (En a) (En b) ha hb
 rwa [EX,EX]at this
theorem GA {n k:Nat}(h:n<BB^k):(Ad n).length<=k:=by
 induction k generalizing n with
 |zero=>
  have:n=0:=by simpa using h
  subst this;rw[FL];exact Ae _
 |succ k ih=>
  by_cases h0:n=0
  ·subst h0;rw[FL];exact BT _
  ·rw[Fk h0,Bk]
   exact Nat.succ_le_succ (ih (Eg (by rw[BP,<-CE];exact h)))
theorem Ij (n:Nat):n<BB^(Ad n).length:=by
 have:=Gz (En n)
 rwa [EX]at this
theorem VX (a b:Nat):(Ad (a+b)).length<=max (Ad a).length (Ad b).length+1:=by
 refine GA ?_;have h1:=Ij a;have h2:=Ij b;have m1:BB^(Ad a).length<=BB^max (Ad a).length (Ad b).length:=Ez (by decide) (Nat.le_max_left _ _);have m2:BB^(Ad b).length<=BB^max (Ad a).length (Ad b).length:=Ez (by decide) (Nat.le_max_right _ _);rw[CE];generalize BB^max (Ad a).length (Ad b).length=q at*;unfold BB;omega
theorem VY (a b:Nat):(Ad (a-b)).length<=(Ad a).length:=Gx _ _ (Nat.sub_le _ _)
def Dw (x y:GI):GI:=if x.sm=true/\y.sm=true/\x.z+y.z = -9223372036854775808 then⟨x.z+y.z,true⟩else AV (x.z+y.z)
theorem L4 (x y:GI):(Dw x y).z=x.z+y.z:=by unfold Dw;split<;>rfl
theorem Lj (x y:GI):(Dw x y).wf:=by
 unfold Dw;split
 ·rename_i h
  refine⟨λ_=>?_,λh=>by cases h⟩;dsimp only;rw[h.2.2];decide
 ·exact CV _
theorem fe (x y:GI)(hx:x.sm=true)(hy:y.sm=true)(h1 : -9223372036854775808<=x.z+y.z)(h2:x.z+y.z<9223372036854775808):AI C0 154 [x.D,y.D] (Dw x y).D:=by
 obtain⟨a,sa⟩:=x;obtain⟨b,sb⟩:=y;dsimp only at hx hy h1 h2;subst hx;subst hy;have e:(Dw ⟨a,true⟩ ⟨b,true⟩).D=Cp (a+b):=by
  unfold Dw;dsimp only;split
  ·rfl
  ·rename_i h
   have h3:¬a+b = -9223372036854775808:=λh0=>h ⟨rfl,rfl,h0⟩
   rw[Iq ⟨by omega,h2⟩];rfl
 rw[e];show AI C0 _ [Cp a,Cp b] _;refine Ah.walk w1 Sx rfl λF=>?_
 refine fR 0 ?_;refine AC.seq ?_;refine sZ 100 ?_
 repeat'(first|(refine And.intro (by exact B4) ?_;refine At ?_)|((refine Bq (λhb=>?_) (λhb=>?_))<;>(try simp only[Bd,Bn]at hb)<;>(try simp only[hb])<;>(refine At ?_)))
 refine AJ ?_;have e1:IntKind.i64.wrap (a+b)=a+b:=wI (by omega) (by omega);have e2:(decide (a+b>a)==decide (b>0))=true:=by
  rw[Dp,Co];omega
 refine sZ 200 ?_;refine JK e1 ?_;refine fR 300 ?_;rw[e2];refine AJ ?_;refine fR 400 ?_;refine Ab ?_;exact AO rfl AA.out
theorem kL (x y:GI)(hx:x.wf)(hy:y.wf)(fx:x.few)(fy:y.few)(hn:¬(x.sm=true/\y.sm=true∧-9223372036854775808<=x.z+y.z/\x.z+y.z<9223372036854775808)):AI C0 154 [x.D,y.D] (AV (x.z+y.z)).D:=by
 refine Ah.walk w1 Sx rfl λF=>?_
 have cx:=Ik x hx;have cy:=Ik y hy;have hpr:AA (AV (x.z+y.z)).w:=AG;have hpx:AA x.w:=AG;have hpy:AA y.w:=AG;have la:=VX x.z.natAbs y.z.natAbs;have ls:=VY x.z.natAbs y.z.natAbs;have ls':=VY y.z.natAbs x.z.natAbs;unfold GI.few at fx fy;dsimp only[GI.D]at*;refine fR 0 ?_;refine FF ⟨[(2,.optr 0 0 2 0 0),(3,.optr 1 1 2 0 0),(4,.optr 2 2 2 0 0)],[⟨2,2,139,2,[Cp 0]⟩,⟨1,1,139,2,[.agg [i64 y.s,y.w]]⟩,⟨0,0,139,2,[.agg [i64 x.s,x.w]]⟩],60⟩ ?_ ?_
 ·obtain⟨a,sa⟩:=x
  obtain⟨b,sb⟩:=y;clear cx cy la ls ls' hpr;have nx:sa=false->(Ad a.natAbs).map AR≠[]:=λh=>G4 (by
   intro h0;subst h;exact hx.2 rfl ⟨by dsimp only;omega,by dsimp only;omega⟩)
  have ny:sb=false->(Ad b.natAbs).map AR≠[]:=λh=>G4 (by
   intro h0;subst h;exact hy.2 rfl ⟨by dsimp only;omega,by dsimp only;omega⟩)
  unfold GI.s GI.w wD wL at*;dsimp only at*;generalize(Ad a.natAbs).map AR=ka at*;generalize(Ad b.natAbs).map AR=kb at*;cases sa with
  |false=>
   have nx:=nx rfl;dsimp only at*;generalize(if a<0 then(-1:Int)else 1)=sg at*;generalize(match sb with|true=>b|false=>if b<0 then(-1:Int)else 1)=sh at*;generalize(match sb with|true=>CD|false=>D.sl false 1 kb)=wy at*;refine AC.seq ?_;refine Am w1 100 (by kernel_rfl) ?_;refine AT (Au (@ne_eq (List D)) nx EC) ?_;refine AD kT ?_;refine AD kT ?_;refine AJ ?_;refine Ak ?_;exact And.intro (by trivial) (AL)
  |true=>
   dsimp only at*;cases sb with
   |false=>
    have ny:=ny rfl;dsimp only at*;generalize(if b<0 then(-1:Int)else 1)=sh at*;refine AC.seq ?_;refine Am w1 100 (by kernel_rfl) ?_;refine AT (Au (@ne_eq (List D)) ny EC) ?_;refine AD (Bh kT (@ne_eq (List D)) ny EC) ?_;refine AD (Bh kT (@ne_eq (List D)) ny EC) ?_;refine AJ ?_;refine Ak ?_;exact And.intro (by trivial) (AL)
   |true=>
    have ra:=hx.1 rfl;have rb:=hy.1 rfl;dsimp only at*;have e2:(decide (IntKind.i64.wrap (a+b)>a)==decide (b>0))=false:=by
     have hov:¬(-9223372036854775808<=a+b/\a+b<9223372036854775808):=λh=>hn ⟨rfl,rfl,h.1,h.2⟩
     have ew:IntKind.i64.wrap (a+b)=a+b-18446744073709551616/\9223372036854775808<=a+b\/IntKind.i64.wrap (a+b)=a+b+18446744073709551616/\a+b < -9223372036854775808:=by
      have e1:(2:Int)^IntKind.i64.bits=18446744073709551616:=rfl;have e2:(2:Int)^(IntKind.i64.bits-1)=9223372036854775808:=rfl;have e3:IntKind.i64.signed=true:=rfl;unfold IntKind.wrap;simp only[e1,e2,e3,IU,Gs];split<;>omega
     rw[B3,ne_eq,Co];omega
    refine sZ 100 ?_
    repeat'(first|(refine And.intro (by exact B4) ?_;refine At ?_)|((refine Bq (λhb=>?_) (λhb=>?_))<;>(try simp only[Bd,Bn]at hb)<;>(try simp only[hb])<;>(refine At ?_)))
    refine AJ ?_;refine fR 200 ?_;refine fR 300 ?_;rw[e2];refine AJ ?_;refine Ak ?_;exact And.intro (by trivial) (AL)
 ·refine fR 500 ?_
  refine dI cx ?_;refine fR 600 ?_;refine dI cy ?_;refine AC.seq ?_;refine AC.block ?_;refine fR 700 ?_
  by_cases hs:(decide (x.z<0))=(decide (y.z<0))
  ·have e1:(decide (x.z<0)==decide (y.z<0))=true:=Dp.2 hs
   rw[e1];have ca:=tU x.z.natAbs y.z.natAbs fx fy;have cm:=Ki (decide (x.z<0)) (x.z.natAbs+y.z.natAbs) (by omega);have ez:Dj (decide (x.z<0)) (x.z.natAbs+y.z.natAbs)=x.z+y.z:=by
    rw[Co]at hs
    by_cases h:x.z<0
    ·rw[AZ h];have:=hs.1 h;show -(((x.z.natAbs+y.z.natAbs:Nat)):Int)=_;omega
    ·rw[Ag h];have:¬y.z<0:=λh0=>h (hs.2 h0);show(((x.z.natAbs+y.z.natAbs:Nat)):Int)=_;omega
   rw[ez]at cm;dsimp only[GI.D]at cm;refine AJ ?_;refine fR 800 ?_;refine dI ca ?_;refine dI cm ?_;refine Ab ?_;exact AO rfl AA.out
  ·have e1:(decide (x.z<0)==decide (y.z<0))=false:=B3.2 hs
   rw[e1];have cc:=Pk x.z.natAbs y.z.natAbs (by omega) (by omega);refine AJ ?_;refine fR 900 ?_;refine dI cc ?_
   by_cases hc:y.z.natAbs<=x.z.natAbs
   ·have e2:decide (Dh (x.z.natAbs:Nat) (y.z.natAbs:Nat)>=0)=true:=AZ (by unfold Dh;split<;>(try split)<;>omega)
    rw[e2];have ca:=bE x.z.natAbs y.z.natAbs hc fx;have cm:=Ki (decide (x.z<0)) (x.z.natAbs-y.z.natAbs) (by omega);have ez:Dj (decide (x.z<0)) (x.z.natAbs-y.z.natAbs)=x.z+y.z:=by
     rw[Co]at hs
     by_cases h:x.z<0
     ·rw[AZ h];have:¬y.z<0:=λh0=>hs ⟨λ_=>h0,λ_=>h⟩;show -(((x.z.natAbs-y.z.natAbs:Nat)):Int)=_;omega
     ·rw[Ag h];have:y.z<0:=Cq λh0=>hs ⟨λh1=>Aa h1 h,λh1=>Aa h1 h0⟩;show(((x.z.natAbs-y.z.natAbs:Nat)):Int)=_;omega
    rw[ez]at cm;dsimp only[GI.D]at cm;refine AJ ?_;refine fR 1000 ?_;refine dI ca ?_;refine dI cm ?_;refine Ab ?_;exact AO rfl AA.out
   ·have e2:decide (Dh (x.z.natAbs:Nat) (y.z.natAbs:Nat)>=0)=false:=Ag (by unfold Dh;split<;>(try split)<;>omega)
    rw[e2];have ca:=bE y.z.natAbs x.z.natAbs (by omega) fy;have cm:=Ki (decide (y.z<0)) (y.z.natAbs-x.z.natAbs) (by omega);have ez:Dj (decide (y.z<0)) (y.z.natAbs-x.z.natAbs)=x.z+y.z:=by
     rw[Co]at hs
     by_cases h:y.z<0
     ·rw[AZ h];have:¬x.z<0:=λh0=>hs ⟨λ_=>h,λ_=>h0⟩;show -(((y.z.natAbs-x.z.natAbs:Nat)):Int)=_;omega
     ·rw[Ag h];have:x.z<0:=Cq λh0=>hs ⟨λh1=>Aa h1 h0,λh1=>Aa h1 h⟩;show(((y.z.natAbs-x.z.natAbs:Nat)):Int)=_;omega
    rw[ez]at cm;dsimp only[GI.D]at cm;refine AJ ?_;refine Ak ?_;refine fR 1100 ?_;refine dI ca ?_;refine dI cm ?_;refine Ab ?_;exact AO rfl AA.out
theorem Ng (x y:GI)(hx:x.wf)(hy:y.wf)(fx:x.few)(fy:y.few):AI C0 154 [x.D,y.D] (Dw x y).D:=by
 by_cases h:x.sm=true/\y.sm=true∧-9223372036854775808<=x.z+y.z/\x.z+y.z<9223372036854775808
 ·exact fe x y h.1 h.2.1 h.2.2.1 h.2.2.2
 ·have:=kL x y hx hy fx fy h
  have e:Dw x y=AV (x.z+y.z):=by
   unfold Dw;rw[AE];rintro⟨h1,h2,h3⟩;exact h ⟨h1,h2,by omega,by omega⟩
  rw[e];exact this
theorem XP {z:Int}(h:(Ad z.natAbs).length<1000000):(AV (-z)).few:=by
 show(Ad (-z).natAbs).length<1000000;rw[LG];exact h
def Hv (x y:GI):GI:=Dw x (AV (-y.z))
theorem ZO (x y:GI):(Hv x y).z=x.z-y.z:=by unfold Hv;rw[L4];show x.z + -y.z=_;omega
theorem Xs (x y:GI):(Hv x y).wf:=Lj _ _
theorem ai (x y:GI)(hx:x.wf)(hy:y.wf)(fx:x.few)(fy:y.few):AI C0 282 [x.D,y.D] (Hv x y).D:=by
 refine Ah.walk w1 Zh rfl λF=>?_
 have c1:=No y hy fy;have c2:=Ng x (AV (-y.z)) hx (CV _) fx (XP fy);unfold Hv;refine fR 0 ?_;refine AC.seq ?_;refine B5 w1 100 [0,1,2] [3,4] (by kernel_rfl) ?_;refine B7 ?_;refine BQ.same _ (c1) AG ?_;refine B7 ?_;refine dI c2 ?_;refine Ab ?_;exact AO rfl AA.out
theorem rf (x y:GI)(hx:x.wf)(hy:y.wf)(fx:x.few)(fy:y.few):AI C0 272 [x.D,y.D] (i64 (Dh x.z y.z)):=by
 by_cases h:x.sm=true/\y.sm=true
 ·obtain⟨a,sa⟩:=x
  obtain⟨b,sb⟩:=y;obtain⟨h1,h2⟩:=h;dsimp only at h1 h2;subst h1;subst h2;exact lE a b
 ·have cs:=ai x y hx hy fx fy
  have cg:=Lw (Hv x y) (Xs x y);rw[ZO]at cg;have e:max (-1) (min 1 (x.z-y.z))=Dh x.z y.z:=by unfold Dh;split<;>(try split)<;>omega
  rw[e]at cg;have hpr:AA (Hv x y).w:=AG;have hpx:AA x.w:=AG;have hpy:AA y.w:=AG;dsimp only[GI.D]at*;generalize(Hv x y).s=rs at*;generalize(Hv x y).w=rw at*;generalize Dh x.z y.z=r at*;refine Ah.walk w1 S1 rfl λF=>?_
  obtain⟨a,sa⟩:=x;obtain⟨b,sb⟩:=y;have nx:sa=false->(Ad a.natAbs).map AR≠[]:=λh=>G4 (by
   intro h0;subst h;exact hx.2 rfl ⟨by dsimp only;omega,by dsimp only;omega⟩)
  have ny:sb=false->(Ad b.natAbs).map AR≠[]:=λh=>G4 (by
   intro h0;subst h;exact hy.2 rfl ⟨by dsimp only;omega,by dsimp only;omega⟩)
  unfold GI.s GI.w wD wL at*;dsimp only at*;generalize(Ad a.natAbs).map AR=ka at*;generalize(Ad b.natAbs).map AR=kb at*;cases sa with
  |false=>
   have nx:=nx rfl;dsimp only at*;generalize(if a<0 then(-1:Int)else 1)=sg at*;generalize(match sb with|true=>b|false=>if b<0 then(-1:Int)else 1)=sh at*;generalize(match sb with|true=>CD|false=>D.sl false 1 kb)=wy at*;refine fR 0 ?_;refine AC.seq ?_;refine AC.seq ?_;refine Am w1 100 (by kernel_rfl) ?_;refine AT (Au (@ne_eq (List D)) nx EC) ?_;refine AD kT ?_;refine AD kT ?_;refine AJ ?_;refine Ak ?_;refine fR 700 ?_;refine dI cs ?_;refine dI cg ?_;refine Ab ?_;exact AO rfl AA.out
  |true=>
   dsimp only at*;cases sb with
   |false=>
    have ny:=ny rfl;dsimp only at*;generalize(if b<0 then(-1:Int)else 1)=sh at*;refine fR 0 ?_;refine AC.seq ?_;refine AC.seq ?_;refine Am w1 100 (by kernel_rfl) ?_;refine AT (Au (@ne_eq (List D)) ny EC) ?_;refine AD (Bh kT (@ne_eq (List D)) ny EC) ?_;refine AD (Bh kT (@ne_eq (List D)) ny EC) ?_;refine AJ ?_;refine Ak ?_;refine fR 700 ?_;refine dI cs ?_;refine dI cg ?_;refine Ab ?_;exact AO rfl AA.out
   |true=>exact Aa ⟨rfl,rfl⟩ h
theorem KR (a b:Nat):(Ad (a*b)).length<=(Ad a).length+(Ad b).length:=by
 refine GA ?_;rw[Fd];exact Nat.mul_lt_mul'' (Ij a) (Ij b)
theorem jh (a b:Int):Dj (decide (a<0) != decide (b<0)) (a.natAbs*b.natAbs)=a*b:=by
 rw[<-MX]
 by_cases h1:a<0<;>by_cases h2:b<0
 ·rw[AZ h1,AZ h2]
  have:0<=a*b:=Int.mul_nonneg_of_nonpos_of_nonpos (by omega) (by omega)
  show(((a*b).natAbs:Nat):Int)=a*b;omega
 ·rw[AZ h1,Ag h2]
  have:a*b<=0:=Int.mul_nonpos_of_nonpos_of_nonneg (by omega) (by omega)
  show -(((a*b).natAbs:Nat):Int)=a*b;omega
 ·rw[Ag h1,AZ h2]
  have:a*b<=0:=Int.mul_nonpos_of_nonneg_of_nonpos (by omega) (by omega)
  show -(((a*b).natAbs:Nat):Int)=a*b;omega
 ·rw[Ag h1,Ag h2]
  have:0<=a*b:=Int.mul_nonneg (by omega) (by omega)
  show(((a*b).natAbs:Nat):Int)=a*b;omega
theorem lS (x y:GI)(hx:x.wf)(hy:y.wf)(fx:(Ad x.z.natAbs).length<400000)(fy:(Ad y.z.natAbs).length<400000)(hn:¬(x.sm=true/\y.sm=true/\(x.z*y.z).natAbs<=9223372036854775807)):AI C0 151 [x.D,y.D] (AV (x.z*y.z)).D:=by
 refine Ah.walk w1 Sw rfl λF=>?_
 have cx:=Ik x hx;have cy:=Ik y hy;have hpr:AA (AV (x.z*y.z)).w:=AG;have hpx:AA x.w:=AG;have hpy:AA y.w:=AG;have lm:=KR x.z.natAbs y.z.natAbs;have ca:=ul x.z.natAbs y.z.natAbs (by omega) (by omega);have cm:=Ki (decide (x.z<0) != decide (y.z<0)) (x.z.natAbs*y.z.natAbs) (by omega);rw[jh]at cm;dsimp only[GI.D]at*;refine fR 0 ?_;refine FF ⟨[(2,.optr 0 0 2 0 0),(3,.optr 1 1 2 0 0),(4,.optr 2 2 2 0 0)],[⟨2,2,139,2,[Cp 0]⟩,⟨1,1,139,2,[.agg [i64 y.s,y.w]]⟩,⟨0,0,139,2,[.agg [i64 x.s,x.w]]⟩],90⟩ ?_ ?_
 ·obtain⟨a,sa⟩:=x
  obtain⟨b,sb⟩:=y;clear cx cy lm ca cm hpr;have nx:sa=false->(Ad a.natAbs).map AR≠[]:=λh=>G4 (by
   intro h0;subst h;exact hx.2 rfl ⟨by dsimp only;omega,by dsimp only;omega⟩)
  have ny:sb=false->(Ad b.natAbs).map AR≠[]:=λh=>G4 (by
   intro h0;subst h;exact hy.2 rfl ⟨by dsimp only;omega,by dsimp only;omega⟩)
  unfold GI.s GI.w wD wL at*;dsimp only at*;generalize(Ad a.natAbs).map AR=ka at*;generalize(Ad b.natAbs).map AR=kb at*;cases sa with
  |false=>
   have nx:=nx rfl;dsimp only at*;generalize(if a<0 then(-1:Int)else 1)=sg at*;generalize(match sb with|true=>b|false=>if b<0 then(-1:Int)else 1)=sh at*;generalize(match sb with|true=>CD|false=>D.sl false 1 kb)=wy at*;refine AC.seq ?_;refine Am w1 100 (by kernel_rfl) ?_;refine AT (Au (@ne_eq (List D)) nx EC) ?_;refine AD kT ?_;refine AD kT ?_;refine AJ ?_;refine Ak ?_;exact And.intro (by trivial) (AL)
  |true=>
   dsimp only at*;cases sb with
   |false=>
    have ny:=ny rfl;dsimp only at*;generalize(if b<0 then(-1:Int)else 1)=sh at*;refine AC.seq ?_;refine Am w1 100 (by kernel_rfl) ?_;refine AT (Au (@ne_eq (List D)) ny EC) ?_;refine AD (Bh kT (@ne_eq (List D)) ny EC) ?_;refine AD (Bh kT (@ne_eq (List D)) ny EC) ?_;refine AJ ?_;refine Ak ?_;exact And.intro (by trivial) (AL)
   |true=>
    have ra:=hx.1 rfl;have rb:=hy.1 rfl;dsimp only at*;have sa:=NX ra.1 ra.2;have sb:=NX rb.1 rb.2;have la:a.natAbs<BB:=by unfold BB;omega
    have lb:b.natAbs<BB:=by unfold BB;omega
    have c0:=M9 a.natAbs b.natAbs la lb;have hab:a.natAbs*b.natAbs=(a*b).natAbs:=(MX a b).symm;have hbig:9223372036854775807<(a*b).natAbs:=Cq λh=>hn ⟨rfl,rfl,by omega⟩
    rw[hab]at c0;generalize(a*b).natAbs=p at*;refine sZ 100 ?_
    repeat'(first|(refine And.intro (by exact B4) ?_;refine At ?_)|((refine Bq (λhb=>?_) (λhb=>?_))<;>(try simp only[Bd,Bn]at hb)<;>(try simp only[hb])<;>(refine At ?_)))
    refine AJ ?_;refine AC.seq ?_;refine B5 w1 200 [0,1,2,3,4,5,6,7,8,9,10] [11] (by kernel_rfl) ?_;refine B7 ?_;refine BQ.same _ (sa) AG ?_;refine B7 ?_;refine BQ.same _ (sb) AG ?_;refine B7 ?_;refine BQ.same _ (c0) AG ?_;refine B7 ?_;refine AC.seq ?_
    by_cases h0:p/18446744073709551616=0
    ·rw[h0]
     have h1:p%18446744073709551616=p:=by omega
     rw[h1];have e3:decide ((p:Int)<=9223372036854775807)=false:=Ag (by omega);refine Am w1 300 (by kernel_rfl) ?_
     repeat'(first|(refine And.intro (by exact B4) ?_;refine At ?_)|((refine Bq (λhb=>?_) (λhb=>?_))<;>(try simp only[Bd,Bn]at hb)<;>(try simp only[hb])<;>(refine At ?_)))
     rw[e3];refine AJ ?_;refine Ak ?_;exact And.intro (by trivial) (AL)
    ·have e3:(((p/18446744073709551616:Nat):Int)==0)=false:=B3.2 (by omega)
     refine Am w1 300 (by kernel_rfl) ?_;refine AT e3 ?_;refine AD e3 ?_;refine AD e3 ?_;refine AJ ?_;refine Ak ?_;exact And.intro (by trivial) (AL)
 ·refine fR 700 ?_
  refine dI cx ?_;refine fR 800 ?_;refine dI cy ?_;refine fR 900 ?_;refine dI ca ?_;refine dI cm ?_;refine Ab ?_;exact AO rfl AA.out
theorem g9 (a b:Int)(hc:Sm (a*b))(ha : -9223372036854775808<=a/\a<9223372036854775808)(hb : -9223372036854775808<=b/\b<9223372036854775808):AI C0 151 [Cp a,Cp b] (Cp (a*b)):=by
 refine Ah.walk w1 Sw rfl λF=>?_
 have hab:a.natAbs*b.natAbs=(a*b).natAbs:=(MX a b).symm;have h1:a.natAbs*b.natAbs/18446744073709551616=0:=by rw[hab];have:=hc.1;have:=hc.2;omega
 have h2:a.natAbs*b.natAbs%18446744073709551616=(a*b).natAbs:=by rw[hab];have:=hc.1;have:=hc.2;omega
 have c0:=M9 a.natAbs b.natAbs (by omega) (by omega);rw[h1,h2]at c0;refine fR 0 ?_;refine AC.seq ?_;refine sZ 100 ?_
 repeat'(first|(refine And.intro (by exact B4) ?_;refine At ?_)|((refine Bq (λhb=>?_) (λhb=>?_))<;>(try simp only[Bd,Bn]at hb)<;>(try simp only[hb])<;>(refine At ?_)))
 refine AJ ?_;refine AC.seq ?_;refine B5 w1 200 [0,1,2,3,4,5,6,7,8,9,10] [11] (by kernel_rfl) ?_;refine B7 ?_;refine BQ.same _ (NX ha.1 ha.2) AG ?_;refine B7 ?_;refine BQ.same _ (NX hb.1 hb.2) AG ?_;refine B7 ?_;refine BQ.same _ (c0) AG ?_;refine B7 ?_;refine sZ 300 ?_
 repeat'(first|(refine And.intro (by exact B4) ?_;refine At ?_)|((refine Bq (λhb=>?_) (λhb=>?_))<;>(try simp only[Bd,Bn]at hb)<;>(try simp only[hb])<;>(refine At ?_)))
 have e3:decide ((((a*b).natAbs:Nat):Int)<=9223372036854775807)=true:=AZ (by have:=hc.1;have:=hc.2;omega);rw[e3];refine AJ ?_;refine AC.seq ?_;refine fR 400 ?_;refine AJ ?_;have e4:IntKind.i64.wrap (((a*b).natAbs:Nat):Int)=((a*b).natAbs:Nat):=wN (by have:=hc.1;have:=hc.2;omega)
 (refine Bq (λh41=>?_) (λh41=>?_))<;>(try simp only[Bd,Bn]at h41)<;>(try simp only[h41])
 ·have e5:IntKind.i64.wrap (0-(((a*b).natAbs:Nat):Int)) = -((a*b).natAbs:Nat):=by
   rw[wI (by have:=hc.1;have:=hc.2;omega) (by have:=hc.1;have:=hc.2;omega)];omega
  have e6 : -(((a*b).natAbs:Nat):Int)=a*b:=by
   have hs:(a<0)≠(b<0):=by simpa using h41
   have:a*b<=0:=by
    by_cases h1:a<0
    ·have h2:¬b<0:=λh2=>hs (by simp[h1,h2])
     exact Int.mul_nonpos_of_nonpos_of_nonneg (by omega) (by omega)
    ·have h2:b<0:=Cq λh2=>hs (by simp[h1,h2])
     exact Int.mul_nonpos_of_nonneg_of_nonpos (by omega) (by omega)
   omega
  refine sZ 500 ?_;refine JK (Au e4 e5 e6) ?_;refine Ab ?_;exact AO rfl AA.out
 ·have e6:(((a*b).natAbs:Nat):Int)=a*b:=by
   have hs:¬((a<0)≠(b<0)):=by simpa using h41
   have:0<=a*b:=by
    by_cases h1:a<0
    ·have h2:b<0:=Cq λh2=>hs (by simp[h1,h2])
     exact Int.mul_nonneg_of_nonpos_of_nonpos (by omega) (by omega)
    ·have h2:¬b<0:=λh2=>hs (by simp[h1,h2])
     exact Int.mul_nonneg (by omega) (by omega)
   omega
  rw[e6]at e4;refine Ak ?_;refine sZ 600 ?_;refine JK (Ac e6 e4) ?_;refine Ab ?_;exact AO rfl AA.out
theorem am (x y:GI)(hx:x.wf)(hy:y.wf)(fx:(Ad x.z.natAbs).length<400000)(fy:(Ad y.z.natAbs).length<400000):AI C0 151 [x.D,y.D] (AV (x.z*y.z)).D:=by
 by_cases h:x.sm=true/\y.sm=true/\(x.z*y.z).natAbs<=9223372036854775807
 ·obtain⟨a,sa⟩:=x
  obtain⟨b,sb⟩:=y;obtain⟨h1,h2,h3⟩:=h;dsimp only at h1 h2 h3;subst h1;subst h2;have hs:Sm (a*b):=⟨by omega,by omega⟩
  dsimp only;rw[Iq hs];exact g9 a b hs (hx.1 rfl) (hy.1 rfl)
 ·exact lS x y hx hy fx fy h
def K5 (x:GI):GI:=if x.z<0 then AV (-x.z)else x
theorem lg (x:GI):(K5 x).z=(x.z.natAbs:Nat):=by
 unfold K5;split
 ·show -x.z=_;omega
 ·omega
theorem kJ (x:GI)(h:x.wf):(K5 x).wf:=by
 unfold K5;split
 ·exact CV _
 ·exact h
theorem Zz (x:GI)(h:x.wf)(hf:x.few):AI C0 239 [x.D] (K5 x).D:=by
 refine Ah.walk w1 Za rfl λF=>?_
 have hs:=ZM x h;have cn:=No x h hf;have hpx:AA x.w:=AG;have hpr:AA (AV (-x.z)).w:=AG;unfold K5
 by_cases hz:x.z<0
 ·have e:decide (x.s<0)=true:=AZ (by rw[hs];exact hz)
  rw[AH hz];dsimp only[GI.D]at*;refine fR 0 ?_;refine AC.seq ?_;refine fR 100 ?_;rw[e];refine AJ ?_;refine fR 200 ?_;refine dI cn ?_;refine Ab ?_;exact AO rfl AA.out
 ·have e:decide (x.s<0)=false:=Ag (by rw[hs];exact hz)
  rw[AE hz];dsimp only[GI.D]at*;refine fR 0 ?_;refine AC.seq ?_;refine fR 100 ?_;rw[e];refine AJ ?_;refine Ak ?_;refine fR 300 ?_;refine Ab ?_;exact AO rfl AA.out
structure KX (B Y u1 u0:Nat)(q r:Nat):Prop where
 eq:q*(Y/B)+r=u1
 up:u1*B+u0<(q+1)*Y
 q2:q<=B+1
theorem Ul {B Y u1 u0:Nat}(hB:0<B)(hY:B*B<=2*Y)(hY2:Y<B*B)(hev:B%2=0)(hu:u1<Y)(h0:u0<B):
  KX B Y u1 u0 (u1/(Y/B)) (u1-u1/(Y/B)*(Y/B))/\u1-u1/(Y/B)*(Y/B)<B:=by
 have e:=EH Y B;have m:=Bz Y hB;generalize hg:Y/B=y1 at*;generalize Y%B=y0 at*;have hy1:y1<B:=by
  rcases BH y1 B with h|h
  ·exact h
  ·have:=CS B h
   omega
 have hy2:B<=2*y1:=by
  rcases BH (2*y1) B with h|h
  ·exfalso
   have h1:2*y1+2<=B:=by omega
   have h2:=CS B h1;have h3:B*(2*y1+2)=2*(B*y1)+2*B:=by
    rw[BJ,Hx,BP B 2]
   omega
  ·exact h
 have e1:=EH u1 y1;have m1:=Bz u1 (show 0<y1 by omega);have c1:y1*(u1/y1)=u1/y1*y1:=BP _ _;refine⟨⟨by rw[hg];omega,?_,?_⟩,by omega⟩
 ·generalize hq:u1/y1=q at*
  have h1:u1+1<=(q+1)*y1:=by rw[Bp];omega
  have h2:=CC B h1;have h3:(q+1)*Y=(q+1)*y1*B+(q+1)*y0:=by
   rw[<-e,BJ,BP B y1,Br]
  rw[Bp]at h2;omega
 ·rcases BH (B+1) (u1/y1)with h|h
  ·exfalso
   have h1:=CS y1 (show B+2<=u1/y1 by omega);have h2:y1*(B+2)=B*y1+2*y1:=by rw[BJ,BP y1 B,BP y1 2]
   omega
  ·exact h
theorem U7 {B Y u1 u0 q r:Nat}(hB:0<B)(hu:u1<Y)(h0:u0<B)(I:KX B Y u1 u0 q r)
  (c:B<=q\/B*r+u0<q*(Y%B)):0<q/\KX B Y u1 u0 (q-1) (r+Y/B):=by
 have e:=EH Y B;obtain⟨i1,i2,i3⟩:=I;generalize hg:Y/B=y1 at*;generalize Y%B=y0 at*;have hq:0<q:=by
  rcases c with c|c
  ·omega
  ·rcases DU q with h|h
   ·subst h;omega
   ·exact h
 obtain⟨p,rfl⟩:∃p,q=p+1:=⟨q-1,by omega⟩
 refine⟨hq,⟨?_,?_,?_⟩⟩
 ·rw[H5,hg,BP p];rw[Bp,BP p]at i1;omega
 ·rw[H5]
  rcases c with c|c
  ·have h1:=CC Y c
   have h2:(u1+1)*B<=Y*B:=CC B hu;rw[Bp]at h2;rw[BP Y B]at h2;omega
  ·have h3:(p+1)*Y=(p+1)*y1*B+(p+1)*y0:=by
    rw[<-e,BJ,BP B y1,Br]
   have h4:u1*B=(p+1)*y1*B+r*B:=by rw[<-i1,Bp]
   rw[BP r B]at h4;omega
 ·omega
theorem Re {B Y u1 u0 q r:Nat}(I:KX B Y u1 u0 q r)
  (c:q*(Y%B)<=B*r+u0):q=(u1*B+u0)/Y:=by
 have e:=EH Y B;obtain⟨i1,i2,i3⟩:=I;have h3:q*Y=q*(Y/B)*B+q*(Y%B):=by
  conv=>lhs;rw[<-e]
  rw[BJ,BP B (Y/B),Br]
 have h4:u1*B=q*(Y/B)*B+r*B:=by rw[<-i1,Bp]
 rw[BP r B]at h4;have h5:0<Y:=by
  rcases DU Y with h|h
  ·subst h;omega
  ·exact h
 symm
 apply Nat.div_eq_of_lt_le
 ·omega
 ·exact i2
theorem Ux {B Y u1 u0 q r:Nat}(hB:0<B)(I:KX B Y u1 u0 q r)(hq:q<=B)(hr:B<=r):
  q=(u1*B+u0)/Y:=by
 refine Re I ?_;have m:=Bz Y hB;have h1:q*(Y%B)<=B*B:=Hz hq (by omega);have h2:=CS B hr;omega
theorem dw {B N S y u32 u1 u0 v:Nat}(hS:0<S)(hy:0<y)(hN:N*S=u32*(B*B)+(u1*B+u0))(hv:v=(u32*B+u1)%(y*S)):
  (u32*B+u1)/(y*S)*B+(v*B+u0)/(y*S)=N/y/\(v*B+u0)%(y*S)/S=N%y:=by
 have hY0:0<y*S:=F6 hy hS;have e1:=EH (u32*B+u1) (y*S);have e2:=EH (v*B+u0) (y*S);have m2:=Bz (v*B+u0) hY0;rw[<-hv]at e1;have dY:N*S/(y*S)=N/y:=OP _ _ hS;have mY:N*S%(y*S)=N%y*S:=OQ _ _ _;generalize(u32*B+u1)/(y*S)=q1 at*;generalize(v*B+u0)/(y*S)=q0 at*;generalize(v*B+u0)%(y*S)=r at*;generalize y*S=Y at*;have hT:N*S=r+Y*(q1*B+q0):=by
  have c1:u32*(B*B)+u1*B=Y*q1*B+v*B:=by
   rw[<-Br,<-Bp,<-e1,Bp]
  rw[hN,BJ,<-Br Y q1 B];omega
 refine⟨?_,?_⟩
 ·rw[<-dY,hT,Qr _ _ hY0,Gt m2,BM]
 ·rw[hT,Qx,DR m2]at mY
  rw[mY,Nat.mul_div_cancel _ hS]
theorem jX {hi lo y s:Nat}(hs:s<=63)(h1:hi<y)(hlo:lo<18446744073709551616):
  lo/2^(64-s)<2^s/\hi*2^s+lo/2^(64-s)<y*2^s /\
   (hi*18446744073709551616+lo)*2^s=(hi*2^s+lo/2^(64-s))*18446744073709551616+lo*2^s%18446744073709551616:=by
 have hp:0<2^s:=GQ s;have hpp:2^(64-s)*2^s=18446744073709551616:=by
  rw[<-Fd,show 64-s+s=64 by omega]
 have hl:lo*2^s/18446744073709551616=lo/2^(64-s):=by
  rw[<-hpp,OP _ _ hp]
 have hl2:lo/2^(64-s)<2^s:=Eg (by rw[hpp];exact hlo);refine⟨hl2,?_,?_⟩
 ·have:(hi+1)*2^s<=y*2^s:=CC _ h1
  rw[Bp]at this;omega
 ·have e:=EH (lo*2^s) 18446744073709551616
  rw[hl]at e;rw[Bp,Bp,Nat.mul_right_comm];omega
theorem TJ {a b s:Nat}(h:b<2^s):(a*2^s) ||| b=a*2^s+b:=by
 rw[BP,Nat.two_pow_add_eq_or_of_lt h]
theorem ak (x:Nat)(hx:x<BB):AI C0 255 [AR x] (i64 (64-(Lib.bitLen x:Int))):=by
 refine⟨⟨_,_,Tryz.func255,rfl,by kernel_rfl⟩,λY w vs hG hnG hX hvs hr=>?_⟩
 have:=PR hvs hr
 subst this;refine(Tryz.bits_LeadingZeros64 x w (by omega) (by unfold BB at hx;omega)).mono ?_;rintro e w' ⟨rfl,rfl⟩;exact⟨_,_,rfl,.refl _ _,rfl,.prim _⟩
theorem VC {x:Nat}(h0:x≠0)(hx:x<BB):∃s,s<=63/\(64-(Lib.bitLen x:Int))=(s:Nat)/\9223372036854775808<=x*2^s/\x*2^s<18446744073709551616:=by
 obtain⟨h1,h2,h3⟩:=Lib.bitLenAux_bounds 64 x hx h0;have h4:=Lib.bitLen_le x 64 (Ae _) hx;have h5:Lib.bitLenAux 64 x=Lib.bitLen x:=rfl;rw[h5]at h1 h2 h3;refine⟨64-Lib.bitLen x,by omega,by omega,?_,?_⟩
 ·have:=CC (2^(64-Lib.bitLen x)) h2
  rw[<-Fd,show Lib.bitLen x-1+(64-Lib.bitLen x)=63 by omega]at this;exact this
 ·have:=(Nat.mul_lt_mul_right (GQ (64-Lib.bitLen x))).2 h3
  rw[<-Fd,show Lib.bitLen x+(64-Lib.bitLen x)=64 by omega]at this;exact this
theorem IC (n:Nat):IntKind.u64.wrap (n:Int)=((n%18446744073709551616:Nat):Int):=by
 have e1:(2:Int)^IntKind.u64.bits=18446744073709551616:=rfl;unfold IntKind.wrap;simp only[e1];have e3:IntKind.u64.signed=false:=rfl;rw[e3];simp only[KA,HO,if_false];omega
theorem Ns (x s:Nat)(hs:s<=63):J5 .u64 (x:Int) (s:Int)=((x*2^s%18446744073709551616:Nat):Int):=by
 have hm:min ((s:Int)).toNat (IntKind.bits .u64)=s:=by
  have:IntKind.bits .u64=64:=rfl
  rw[this];omega
 unfold J5;rw[hm]
 have:(x:Int)*2^s=((x*2^s:Nat):Int):=by simp
 rw[this];exact IC _
theorem MB (x s:Nat)(hs:s<=64):K8 .u64 (x:Int) (s:Int)=((x/2^s:Nat):Int):=by
 have hm:min ((s:Int)).toNat (IntKind.bits .u64)=s:=by
  have:IntKind.bits .u64=64:=rfl
  rw[this];omega
 unfold K8;rw[hm]
 have:(2:Int)^s=((2^s:Nat):Int):=by simp
 rw[this,Int.fdiv_eq_ediv_of_nonneg _ (Int.natCast_nonneg _)];exact(Int.natCast_ediv _ _).symm
theorem Qg (a:Nat)(ha:a<18446744073709551616):(BitVec.ofInt (IntKind.bits .u64) (a:Int)).toNat=a:=by
 rw[show IntKind.bits .u64=64 from rfl,BitVec.ofInt_natCast,BitVec.toNat_ofNat];exact DR ha
theorem Tv (a b:Nat)(ha:a<18446744073709551616)(hb:b<18446744073709551616):GX .or .u64 (a:Int) (b:Int)=((a ||| b:Nat):Int):=by
 have h:a ||| b<2^64:=Nat.or_lt_two_pow ha hb;show IntKind.u64.wrap ((BitVec.ofInt (IntKind.bits .u64) (a:Int) ||| BitVec.ofInt (IntKind.bits .u64) (b:Int)).toNat:Int)=_;rw[BitVec.toNat_or,Qg a ha,Qg b hb,IC];exact congrArg Nat.cast (DR h)
theorem Z0 (a:Nat)(ha:a<18446744073709551616):GX .and .u64 (a:Int) 4294967295=((a%4294967296:Nat):Int):=by
 show IntKind.u64.wrap ((BitVec.ofInt (IntKind.bits .u64) (a:Int) &&& BitVec.ofInt (IntKind.bits .u64) ((4294967295:Nat):Int)).toNat:Int)=_;rw[BitVec.toNat_and,Qg a ha,Qg _ (by decide),IC,show(4294967295:Nat)=2^32-1 from rfl,Nat.and_two_pow_sub_one_eq_mod];exact congrArg Nat.cast (DR (by omega))
theorem TM (a b:Nat):IntKind.u64.wrap ((a:Int).tdiv (b:Int))=((a/b%18446744073709551616:Nat):Int):=by
 rw[<-Int.ofNat_tdiv];exact IC _
theorem Zq {a b:Nat}(h:b<=a)(ha:a<18446744073709551616):IntKind.u64.wrap ((a:Int)-(b:Int))=((a-b:Nat):Int):=by
 rw[<-Int.natCast_sub h,IC];exact congrArg Nat.cast (DR (by omega))
section
variable {C:A9} {B F:AX} {s:St} {rd:Option Nat} {Q:Exit->AX->St->Prop}
theorem Qn {a b:Code}(S:Nat->St)(h1:AC C B rd F a s (λe F1 s1=>IP (F1=F/\∃n,Wk s1 (S n)) (λe=>Q e F1 s1) e))(h2:∀n,AC C B rd F b (S n) Q):AC C B rd F (.seq a b) s Q:=
 AC.seq (h1.mono λe F1 s1 h=>by
  cases e with
  |normal=>
   obtain⟨h0,n,h3⟩:=(show F1=F/\∃n,Wk s1 (S n)from h)
   rw[h0];exact AC.weak (S n) h3 (h2 n)
  |ret=>exact h
  |exit j=>exact h
  |goto l=>exact h
  |panic c=>exact h
  |outgrown=>exact h)
end
theorem Lh (z:Int):IntKind.u64.wrap z=z%18446744073709551616:=by
 have e1:(2:Int)^IntKind.u64.bits=18446744073709551616:=rfl;unfold IntKind.wrap;simp only[e1];have e3:IntKind.u64.signed=false:=rfl;rw[e3];simp only[KA,HO,if_false]
theorem dL (a b:Nat)(ha:a<4294967296)(hb:b<4294967296):IntKind.u64.wrap (IntKind.u64.wrap ((a:Int)*4294967296)+(b:Int))=((a*4294967296+b:Nat):Int):=by
 rw[Lh,Lh];omega
theorem VW (a c q Y:Nat)(hY:0<Y)(hY2:Y<18446744073709551616)(hq:q=(a*4294967296+c)/Y):
  IntKind.u64.wrap (IntKind.u64.wrap (IntKind.u64.wrap ((a:Int)*4294967296)+(c:Int))-IntKind.u64.wrap ((q:Int)*(Y:Int)))=(((a*4294967296+c)%Y:Nat):Int):=by
 have e:=EH (a*4294967296+c) Y;have m:=Bz (a*4294967296+c) hY;rw[<-hq,BP Y q]at e;generalize(a*4294967296+c)%Y=v at*;rw[<-EG q Y];generalize q*Y=Q at*;rw[Lh,Lh,Lh,Lh];omega
structure l6 (hi lo y s Y u u10:Nat):Prop where
 s63:s<=63
 eY:Y=y*2^s
 big:9223372036854775808<=Y
 Yl:Y<18446744073709551616
 uY:u<Y
 u10l:u10<18446744073709551616
 N:(hi*BB+lo)*2^s=u*18446744073709551616+u10
 e8:J5 .u64 (y:Int) (s:Int)=(Y:Int)
 e9:K8 .u64 (Y:Int) 32=((Y/4294967296:Nat):Int)
 e10:GX .and .u64 (Y:Int) 4294967295=((Y%4294967296:Nat):Int)
 ew:IntKind.u64.wrap (64-(s:Int))=((64-s:Nat):Int)
 e11:GX .or .u64 (J5 .u64 (hi:Int) (s:Int)) (K8 .u64 (lo:Int) ((64-s:Nat):Int))=(u:Int)
 e12:J5 .u64 (lo:Int) (s:Int)=(u10:Int)
 e13:K8 .u64 (u10:Int) 32=((u10/4294967296:Nat):Int)
 e14:GX .and .u64 (u10:Int) 4294967295=((u10%4294967296:Nat):Int)
theorem ij {hi lo y s:Nat}(h1:hi<y)(hlo:lo<BB)(hs:s<=63)(t1:9223372036854775808<=y*2^s)(t2:y*2^s<18446744073709551616):
  ∃Y u u10,l6 hi lo y s Y u u10:=by
 obtain⟨m1,m2,m3⟩:=jX hs h1 hlo;have hpos:0<2^s:=GQ s;have hh:hi*2^s<18446744073709551616:=DB (Nat.le_add_right _ _) (Fc m2 t2);have hl:lo/2^(64-s)<18446744073709551616:=DB (GP _ _) hlo;refine⟨_,_,_,hs,rfl,t1,t2,m2,Bz _ (by decide),m3,?_,MB _ 32 (by decide),Z0 _ t2,?_,?_,Ns lo s hs,MB _ 32 (by decide),Z0 _ (Bz _ (by decide))⟩
 ·rw[Ns y s hs,DR t2]
 ·rw[wU (by omega) (by omega)];omega
 ·rw[Ns hi s hs,DR hh,MB lo (64-s) (by omega),Tv _ _ hh hl,TJ m1]
theorem WH (hi lo y:Nat)(h1:hi<y)(hlo:lo<BB)(hy:y<BB):AI C0 254 [AR hi,AR lo,AR y] (.tup [AR ((hi*BB+lo)/y),AR ((hi*BB+lo)%y)]):=by
 refine Ah.walk w1 Zc rfl λF=>?_
 have y0:¬(y:Int)=0:=by omega
 have c1:((y:Int)==0)=false:=by simp;omega
 have c2:decide ((y:Int)<=(hi:Int))=false:=Ag (by omega);refine sR 0 ?_;refine AC.seq ?_;refine sZ 100 ?_;refine AT c1 ?_;refine AJ ?_;refine Ak ?_;refine AC.seq ?_;refine sZ 300 ?_;refine AT c2 ?_;refine AJ ?_;refine Ak ?_;refine AC.seq ?_;refine sR 500 ?_;refine AJ ?_
 (refine Bq (λh27=>?_) (λh27=>?_))<;>(try simp only[Bd,Bn]at h27)<;>(try simp only[h27])
 ·have hi0:hi=0:=by simpa using h27
  subst hi0;refine AC.seq ?_;refine B5 w1 600 [0,1,2,3,4,5,6] [7] (by kernel_rfl) ?_;refine BK ?_;refine Ab ?_;refine AO ?_ AA.out;have l1:lo/y<18446744073709551616:=DB (GP _ _) hlo;rw[TM,DR l1,GN,BM];rfl
 ·obtain⟨s,hs,es,t1,t2⟩:=VC (x:=y) (by omega) hy
  have cl:=ak y hy;rw[es]at cl;have ws:IntKind.u64.wrap (s:Int)=(s:Int):=wU (by omega) (by omega);obtain⟨Y,u,u10,L⟩:=ij h1 hlo hs t1 t2;have ew0:(0:Int)<=IntKind.u64.wrap (64-(s:Int)):=by rw[L.ew];omega
  refine Ak ?_;refine sR 700 ?_;refine cI cl ?_;rw[ws];refine sZ 800 ?_;refine AT L.e8 ?_;refine sZ 900 ?_;refine AT L.e9 ?_;refine sZ 1000 ?_;refine AT L.e10 ?_;refine sZ 1100 ?_;refine AD (Ac L.ew L.e11) ?_;refine sZ 1200 ?_;refine AT L.e12 ?_;refine sZ 1300 ?_;refine AT L.e13 ?_;refine sZ 1400 ?_;refine AT L.e14 ?_;have hB:2147483648<=Y/4294967296:=by have:=L.big;omega
  have hB2:Y/4294967296<4294967296:=by have:=L.Yl;omega
  have n0:¬((Y/4294967296:Nat):Int)=0:=by omega
  obtain⟨I0,r0⟩:=Ul (B:=4294967296) (u0:=u10/4294967296) (by decide) (by have:=L.big;omega) L.Yl (by decide) L.uY (by have:=L.u10l;omega);have q0l:=I0.q2;have hu64:u<18446744073709551616:=Fc L.uY L.Yl;have hqy:=Nat.div_mul_le_self u (Y/4294967296);have e15:IntKind.u64.wrap ((u:Int).tdiv ((Y/4294967296:Nat):Int))=((u/(Y/4294967296):Nat):Int):=by
   rw[TM,DR (by omega)]
  have e16:IntKind.u64.wrap ((u:Int)-IntKind.u64.wrap (((u/(Y/4294967296):Nat):Int)*((Y/4294967296:Nat):Int)))=((u-u/(Y/4294967296)*(Y/4294967296):Nat):Int):=by
   rw[<-EG,IC,DR (by omega),Zq hqy hu64]
  refine sZ 1500 ?_;refine AT e15 ?_;refine sZ 1600 ?_;refine AT e16 ?_;have hu1:u10/4294967296<4294967296:=by have:=L.u10l;omega
  have hy0:Y%4294967296<4294967296:=Bz _ (by decide);generalize hu1e:u10/4294967296=u1 at*;generalize hu0e:u10%4294967296=u0 at*;refine Qn (λn=>⟨[(2,AR Y),(6,u64 0),(7,u64 0),(8,AR s),(9,AR (Y/4294967296)),(10,AR (Y%4294967296)),(11,AR u),(13,AR u1),(14,AR u0),(15,AR ((u*4294967296+u1)/Y))],[],n⟩) ?_ λn=>?_
  ·refine AC.block ?_
   refine FY (α:=Nat×Nat×Nat) (λp=>⟨[(2,AR Y),(6,u64 0),(7,u64 0),(8,AR s),(9,AR (Y/4294967296)),(10,AR (Y%4294967296)),(11,AR u),(13,AR u1),(14,AR u0),(15,AR p.1),(16,AR p.2.1)],[],p.2.2⟩) (λp=>p.1)
    (λp F'=>F'=F/\KX 4294967296 Y u u1 p.1 p.2.1/\p.2.1<4294967296) (_,_,_)
    ⟨rfl,I0,r0⟩ AL ?_
   rintro⟨q,r,m⟩ F' ⟨rfl,I,hr⟩;dsimp only at I hr⊢;have hq2:=I.q2;refine AC.seq ?_;obtain⟨b,hbt⟩:∃b:Bool,b=decide (4294967296<=q\/4294967296*r+u1<q*(Y%4294967296)):=⟨_,rfl⟩
   refine FF ⟨[(2,AR Y),(6,u64 0),(7,u64 0),(8,AR s),(9,AR (Y/4294967296)),(10,AR (Y%4294967296)),(11,AR u),(13,AR u1),(14,AR u0),(15,AR q),(16,AR r),(78,Aq b)],[],m+30⟩ ?_ ?_
   ·rcases BH q 4294967296 with hq|hq
    ·have e1:decide ((q:Int)>=4294967296)=false:=Ag (by omega)
     have hqy:q*(Y%4294967296)<=4294967295*4294967295:=Hz (by omega) (by omega);have k1:IntKind.u64.wrap ((q:Int)*((Y%4294967296:Nat):Int))=((q*(Y%4294967296):Nat):Int):=by
      rw[<-EG,IC,DR (by omega)]
     have k2:IntKind.u64.wrap (4294967296*(r:Int))=((4294967296*r:Nat):Int):=by rw[wU (by omega) (by omega)];omega
     have k3:IntKind.u64.wrap (((4294967296*r:Nat):Int)+(u1:Int))=((4294967296*r+u1:Nat):Int):=by rw[wU (by omega) (by omega)];omega
     have k4:decide (((q*(Y%4294967296):Nat):Int)>((4294967296*r+u1:Nat):Int))=b:=by
      rw[hbt];exact Co.2 ⟨λh=>Or.inr (by omega),λh=>by rcases h with h|h<;>omega⟩
     refine Am w1 1700 (by kernel_rfl) ?_;refine AD e1 ?_;refine AD (C5 kF k1 k2 k3 k4) ?_;exact And.intro (by trivial) (AL)
    ·have e1:decide ((q:Int)>=4294967296)=true:=AZ (by omega)
     have hb:b=true:=by rw[hbt];exact AZ (Or.inl hq)
     subst hb;refine Am w1 1700 (by kernel_rfl) ?_;refine AD e1 ?_;refine AD kT ?_;exact And.intro (by trivial) (AL)
   ·cases b
    ·have hc:=Cz hbt.symm
     have hq:=Re I (by omega);subst hq;refine AJ ?_;refine B6 ?_;exact⟨rfl,_,AL⟩
    ·have hc:=Cw hbt.symm
     obtain⟨hq0,I2⟩:=U7 (by decide) L.uY hu1 I hc;have hq3:=I2.q2;have k1:IntKind.u64.wrap ((q:Int)-1)=((q-1:Nat):Int):=by rw[wU (by omega) (by omega)];omega
     have k2:IntKind.u64.wrap ((r:Int)+((Y/4294967296:Nat):Int))=((r+Y/4294967296:Nat):Int):=by rw[wU (by omega) (by omega)];omega
     refine AJ ?_;refine Ak ?_;refine AC.block ?_;refine sZ 1800 ?_;refine AT k1 ?_;refine sZ 1900 ?_;refine AT k2 ?_;refine sR 2000 ?_;refine AJ ?_
     (refine Bq (λh85=>?_) (λh85=>?_))<;>(try simp only[Bd,Bn]at h85)<;>(try simp only[h85])
     ·have hq:=Ux (by decide) I2 (by omega) (by have:=Cw h85;omega)
      rw[hq];refine B6 ?_;exact⟨rfl,_,AL⟩
     ·refine Ak ?_
      refine⟨(q-1,r+Y/4294967296,_),⟨rfl,I2,by have:=Cz h85;dsimp only;omega⟩,by dsimp only;omega,AL⟩
  ·have hY0:0<Y:=by have:=L.big;omega
   have e21:=VW u u1 _ Y hY0 L.Yl rfl;have q1l:(u*4294967296+u1)/Y<4294967296:=by
    refine Eg ?_
    have:(u+1)*4294967296<=Y*4294967296:=CC _ L.uY
    rw[Bp]at this;omega
   have hvY:(u*4294967296+u1)%Y<Y:=Bz _ hY0;have tr:=dw (B:=4294967296) (N:=hi*BB+lo) (S:=2^s) (y:=y) (u32:=u) (u1:=u1) (u0:=u0) (v:=(u*4294967296+u1)%Y) (GQ s) (by omega) (by rw[L.N];omega) (by rw[L.eY]);rw[<-L.eY]at tr;clear e15 e16 I0 r0 q0l hqy;obtain⟨q1,hq1e⟩:∃x,x=(u*4294967296+u1)/Y:=⟨_,rfl⟩
   rw[<-hq1e]at e21 q1l tr⊢;obtain⟨v,hve⟩:∃x,x=(u*4294967296+u1)%Y:=⟨_,rfl⟩
   rw[<-hve]at e21 hvY tr;have hu0:u0<4294967296:=by rw[<-hu0e];exact Bz _ (by decide)
   obtain⟨J0,s0⟩:=Ul (B:=4294967296) (u0:=u0) (by decide) (by have:=L.big;omega) L.Yl (by decide) hvY hu0;have q0l:=J0.q2;have hv64:v<18446744073709551616:=Fc hvY L.Yl;have hqy:=Nat.div_mul_le_self v (Y/4294967296);have e22:IntKind.u64.wrap ((v:Int).tdiv ((Y/4294967296:Nat):Int))=((v/(Y/4294967296):Nat):Int):=by
    rw[TM,DR (by omega)]
   have e23:IntKind.u64.wrap ((v:Int)-IntKind.u64.wrap (((v/(Y/4294967296):Nat):Int)*((Y/4294967296:Nat):Int)))=((v-v/(Y/4294967296)*(Y/4294967296):Nat):Int):=by
    rw[<-EG,IC,DR (by omega),Zq hqy hv64]
   refine sZ 2100 ?_;refine AT e21 ?_;refine sZ 2200 ?_;refine AT e22 ?_;refine sZ 2300 ?_;refine AT e23 ?_;refine Qn (λn=>⟨[(2,AR Y),(6,u64 0),(7,u64 0),(8,AR s),(9,AR (Y/4294967296)),(10,AR (Y%4294967296)),(11,AR u),(13,AR u1),(14,AR u0),(15,AR q1),(17,AR v),(18,AR ((v*4294967296+u0)/Y))],[],n⟩) ?_ λn=>?_
   ·refine AC.block ?_
    refine FY (α:=Nat×Nat×Nat) (λp=>⟨[(2,AR Y),(6,u64 0),(7,u64 0),(8,AR s),(9,AR (Y/4294967296)),(10,AR (Y%4294967296)),(11,AR u),(13,AR u1),(14,AR u0),(15,AR q1),(17,AR v),(18,AR p.1),(16,AR p.2.1)],[],p.2.2⟩) (λp=>p.1)
     (λp F'=>F'=F/\KX 4294967296 Y v u0 p.1 p.2.1/\p.2.1<4294967296) (_,_,_)
     ⟨rfl,J0,s0⟩ AL ?_
    rintro⟨q,r,m⟩ F' ⟨rfl,I,hr⟩;dsimp only at I hr⊢;have hq2:=I.q2;refine AC.seq ?_;obtain⟨b,hbt⟩:∃b:Bool,b=decide (4294967296<=q\/4294967296*r+u0<q*(Y%4294967296)):=⟨_,rfl⟩
    refine FF ⟨[(2,AR Y),(6,u64 0),(7,u64 0),(8,AR s),(9,AR (Y/4294967296)),(10,AR (Y%4294967296)),(11,AR u),(13,AR u1),(14,AR u0),(15,AR q1),(17,AR v),(18,AR q),(16,AR r),(113,Aq b)],[],m+30⟩ ?_ ?_
    ·rcases BH q 4294967296 with hq|hq
     ·have e1:decide ((q:Int)>=4294967296)=false:=Ag (by omega)
      have hqy:q*(Y%4294967296)<=4294967295*4294967295:=Hz (by omega) (by omega);have k1:IntKind.u64.wrap ((q:Int)*((Y%4294967296:Nat):Int))=((q*(Y%4294967296):Nat):Int):=by
       rw[<-EG,IC,DR (by omega)]
      have k2:IntKind.u64.wrap (4294967296*(r:Int))=((4294967296*r:Nat):Int):=by rw[wU (by omega) (by omega)];omega
      have k3:IntKind.u64.wrap (((4294967296*r:Nat):Int)+(u0:Int))=((4294967296*r+u0:Nat):Int):=by rw[wU (by omega) (by omega)];omega
      have k4:decide (((q*(Y%4294967296):Nat):Int)>((4294967296*r+u0:Nat):Int))=b:=by
       rw[hbt];exact Co.2 ⟨λh=>Or.inr (by omega),λh=>by rcases h with h|h<;>omega⟩
      refine Am w1 2400 (by kernel_rfl) ?_;refine AD e1 ?_;refine AD (C5 kF k1 k2 k3 k4) ?_;exact And.intro (by trivial) (AL)
     ·have e1:decide ((q:Int)>=4294967296)=true:=AZ (by omega)
      have hb:b=true:=by rw[hbt];exact AZ (Or.inl hq)
      subst hb;refine Am w1 2400 (by kernel_rfl) ?_;refine AD e1 ?_;refine AD kT ?_;exact And.intro (by trivial) (AL)
    ·cases b
     ·have hc:=Cz hbt.symm
      have hq:=Re I (by omega);subst hq;refine AJ ?_;refine B6 ?_;exact⟨rfl,_,AL⟩
     ·have hc:=Cw hbt.symm
      obtain⟨hq0,I2⟩:=U7 (by decide) hvY hu0 I hc;have hq3:=I2.q2;have k1:IntKind.u64.wrap ((q:Int)-1)=((q-1:Nat):Int):=by rw[wU (by omega) (by omega)];omega
      have k2:IntKind.u64.wrap ((r:Int)+((Y/4294967296:Nat):Int))=((r+Y/4294967296:Nat):Int):=by rw[wU (by omega) (by omega)];omega
      refine AJ ?_;refine Ak ?_;refine AC.block ?_;refine sZ 2500 ?_;refine AT k1 ?_;refine sZ 2600 ?_;refine AT k2 ?_;refine sR 2700 ?_;refine AJ ?_
      (refine Bq (λh120=>?_) (λh120=>?_))<;>(try simp only[Bd,Bn]at h120)<;>(try simp only[h120])
      ·have hq:=Ux (by decide) I2 (by omega) (by have:=Cw h120;omega)
       rw[hq];refine B6 ?_;exact⟨rfl,_,AL⟩
      ·refine Ak ?_
       refine⟨(q-1,r+Y/4294967296,_),⟨rfl,I2,by have:=Cz h120;dsimp only;omega⟩,by dsimp only;omega,AL⟩
   ·have e28:=VW v u0 _ Y hY0 L.Yl rfl
    have hm28:(v*4294967296+u0)%Y<Y:=Bz _ hY0;have q2l:(v*4294967296+u0)/Y<4294967296:=by
     refine Eg ?_
     have:(v+1)*4294967296<=Y*4294967296:=CC _ hvY
     rw[Bp]at this;omega
    have k1:=dL q1 ((v*4294967296+u0)/Y) q1l q2l;have k2:=MB ((v*4294967296+u0)%Y) s (by omega);rw[tr.1]at k1;rw[tr.2]at k2;refine sZ 2800 ?_;refine AD (Au k1 e28 k2) ?_;refine Ab ?_;exact AO rfl AA.out
theorem Uo {n2 v1 P U V q:Nat}(hU:U<(n2+1)*P)(hV:v1*P<=V)(hq:n2+1<=(q+1)*v1):U<(q+1)*V:=by
 have h1:=CC P hq;have h2:=CS (q+1) hV;rw[Br]at h1;omega
theorem VN {n3 D P U V q:Nat}(hU:U<(n3+1)*P)(hV:D*P<=V)(hq:n3<q*D):U<q*V:=by
 have h1:=CC P (show n3+1<=q*D from hq);have h2:=CS q hV;rw[Br]at h1;omega
theorem V0 {n3 D P U V q B v:Nat}(hU:n3*P<=U)(hV:V=D*P+v)(hv:v<P)(hq:q*D<=n3)(hqB:q<=B)(hD:B<=D):q*V<=U+V:=by
 have h1:=CC P hq;rw[Br]at h1;have h2:q*v<=B*P:=Hz hqB (by omega);have h3:=CC P hD;have h4:q*V=q*(D*P)+q*v:=by rw[hV,BJ]
 omega
theorem Un {c x s:Nat}(hs:s<=63)(hc:c<2^s)(hx:x<18446744073709551616):
  c |||(x*2^s%18446744073709551616)=c+x*2^s%18446744073709551616/\c+x*2^s%18446744073709551616<18446744073709551616 /\
   c+x*2^s%18446744073709551616+18446744073709551616*(x/2^(64-s))=c+x*2^s/\x/2^(64-s)<2^s:=by
 have hp:0<2^s:=GQ s;have hpp:2^(64-s)*2^s=18446744073709551616:=by
  rw[<-Fd,show 64-s+s=64 by omega]
 have hl:x*2^s/18446744073709551616=x/2^(64-s):=by
  rw[<-hpp,OP _ _ hp]
 have hm:x*2^s%18446744073709551616=x%2^(64-s)*2^s:=by
  rw[<-hpp,OQ]
 have hl2:x/2^(64-s)<2^s:=Eg (by rw[hpp];exact hx);have e:=EH (x*2^s) 18446744073709551616;rw[hl]at e;have ho:c |||(x*2^s%18446744073709551616)=c+x*2^s%18446744073709551616:=by
  rw[hm,Nat.or_comm,TJ hc,KH]
 have hlt:c+x*2^s%18446744073709551616<18446744073709551616:=by
  rw[hm]
  have:(x%2^(64-s)+1)*2^s<=2^(64-s)*2^s:=CC _ (Bz _ (GQ _))
  rw[hpp,Bp]at this;omega
 exact⟨ho,hlt,by omega,hl2⟩
structure QN (w out:List Nat)(s i c:Nat):Prop where
 le:i<=w.length
 len:out.length=w.length+1
 wd:Wd out
 val:AS out=AS (w.take i)*2^s
 at_:out[i]?=some c
 cl:c<2^s
 zero:∀k,i<k->∀d,out[k]?=some d->d=0
theorem mK {w out:List Nat}{s i c x:Nat}(hs:s<=63)(hw:Wd w)(hi:i<w.length)(hx:w[i]?=some x)(I:QN w out s i c):
  QN w ((out.set i (c+x*2^s%18446744073709551616)).set (i+1) (x/2^(64-s))) s (i+1) (x/2^(64-s)):=by
 have hxl:x<BB:=hw x (BA hx);obtain⟨_,d2,d3,d4⟩:=Un hs I.cl hxl;obtain⟨z,hz⟩:∃z,out[i+1]?=some z:=⟨out[i+1]'(by have:=I.len;omega),BF _⟩
 have hz0:=I.zero _ (Gu i) z hz;subst hz0;have s1:=Il (d:=c+x*2^s%18446744073709551616) I.at_;have hz1:(out.set i (c+x*2^s%18446744073709551616))[i+1]?=some 0:=by rw[H3 (by omega)];exact hz
 have s2:=Il (d:=x/2^(64-s)) hz1;have hbx:AS (w.take (i+1))=AS (w.take i)+BB^i*x:=by rw[El hx,GD (i:=i) (by rw[Bf];omega)]
 have hhi:x/2^(64-s)<BB:=DB (GP _ _) hxl;refine⟨by omega,by rw[DK,DK];exact I.len,(I.wd.set d2).set hhi,?_,?_,d4,λk hk d hd=>?_⟩
 ·have e1:BB^(i+1)*(x/2^(64-s))=BB^i*(18446744073709551616*(x/2^(64-s))):=by rw[CE,Br]
  have e2:BB^i*(c+x*2^s%18446744073709551616+18446744073709551616*(x/2^(64-s)))=BB^i*(c+x*2^s):=by rw[d3]
  rw[BJ,BJ _ c (x*2^s)]at e2;rw[hbx,Bp,<-I.val,Br];omega
 ·rw[UB (by rw[DK];have:=I.len;omega)]
 ·rw[H3 (by omega),H3 (by omega)]at hd
  exact I.zero k (by omega) d hd
def Up (w:List Nat)(s:Nat)(H:Hp)(n:Nat)(d:D)(H':Hp)(n':Nat):Prop:=
 ∃(out:List Nat) (g:Nat),out.length=w.length+1/\Wd out/\AS out=AS w*2^s/\d=.osl 103 g 1 0 (w.length+1)/\H'=⟨103,g,225,1,out.map AR⟩::H/\n<=n'
theorem U9 (w:List Nat)(s:Nat)(hs:s<=63)(hw:Wd w)(hl:w.length<4000000)(H:Hp)(n:Nat):CT C0 256 [wL w,i64 s] H n (Up w s H n):=by
 refine CT.walk w1 Zd rfl λF=>?_
 unfold wL;have ew:(((w.map AR).length:Nat):Int)=(w.length:Int):=by rw[Ap]
 have wl:IntKind.i64.wrap ((w.length:Int)+1)=((w.length+1:Nat):Int):=by rw[wI (by omega) (by omega)];omega
 have r3:List.replicate (w.length+1) (ofV (.int .u64 0))=(List.replicate (w.length+1) 0).map AR:=by rw[JD];rfl
 refine sR 0 ?_;refine sZ 100 ?_;refine AT (Au ew wl kN) ?_;refine AC.seq ?_;refine sZ 200 ?_;refine AT ew ?_;obtain⟨g,hg⟩:∃g,g=n+1+1+1+1:=⟨_,rfl⟩
 rw[<-hg];have I0:QN w (List.replicate (w.length+1) 0) s 0 0:=⟨BT _,by simp,Lc _,by simp[AS,Ov],by simp,GQ s,λk _ d hd=>OH (BA hd)⟩
 refine AC.weak ⟨[(0,.sl false 1 (w.map AR)),(1,i64 s),(4,CD),(5,.osl 103 g 1 0 (w.length+1)),(12,.sl false 1 (w.map AR)),(13,i64 w.length),(14,i64 0)],⟨103,g,225,1,(List.replicate (w.length+1) 0).map AR⟩::H,n+30⟩ (by rw[<-r3];exact AL) ?_;refine AC.block ?_;refine AC.loop (α:=Nat×Nat×List Nat×Nat) (λp=>⟨[(0,.sl false 1 (w.map AR)),(1,i64 s),(4,CD),(5,.osl 103 g 1 0 (w.length+1)),(12,.sl false 1 (w.map AR)),(13,i64 w.length),(14,i64 p.1)],⟨103,g,225,1,p.2.2.1.map AR⟩::H,p.2.2.2⟩) (λp=>w.length-p.1)
  (λp=>QN w p.2.2.1 s p.1 p.2.1/\n<=p.2.2.2) (0,0,List.replicate (w.length+1) 0,n+30)
  ⟨I0,Nat.le_add_right _ _⟩ AL ?_
 rintro⟨i,c,o,m⟩ F ⟨I,hm⟩;dsimp only at I hm⊢;refine sR 300 ?_;refine AC.seq ?_;refine AJ ?_
 (refine Bq (λh15=>?_) (λh15=>?_))<;>(try simp only[Bd,Bn]at h15)<;>(try simp only[h15])
 ·have hi:i<w.length:=by simpa using h15
  obtain⟨x,hx⟩:∃x,w[i]?=some x:=⟨w[i],BF hi⟩
  have hx':=DF hx;have hc':=DF I.at_;have hxl:x<BB:=hw x (BA hx);obtain⟨d1,d2,d3,d4⟩:=Un hs I.cl hxl;have J:=mK hs hw hi hx I;have e5:GX .or .u64 (c:Int) (J5 .u64 (x:Int) (s:Int))=((c+x*2^s%18446744073709551616:Nat):Int):=by
   rw[Ns x s hs,Tv _ _ (by omega) (Bz _ (by decide)),d1]
  refine Ak ?_;refine AC.seq ?_;refine AC.block ?_;refine sR 400 ?_;refine Bl kT hx' ?_;refine BK ?_;refine AC.seq ?_;refine B5 w1 500 [0,1,2,3,4,5,6] [7,8,9] (by kernel_rfl) ?_;refine AD (Bh e5 kN BM hc') ?_;refine Dt rfl rfl ?_;refine L0 rfl rfl rfl hc' ?_;refine AD @map_set ?_;refine AC.seq ?_;obtain⟨z,hz⟩:∃z,o[i+1]?=some z:=⟨o[i+1]'(by have:=I.len;omega),BF _⟩
  have hz0:=I.zero _ (Gu i) z hz;subst hz0;have hz1:(o.set i (c+x*2^s%18446744073709551616))[i+1]?=some 0:=by rw[H3 (by omega)];exact hz
  have hz':=DF hz1;have wi:IntKind.i64.wrap ((i:Int)+1)=((i+1:Nat):Int):=wI (by omega) (by omega);rcases DU s with hs0|hs0
  ·have e1:decide ((s:Int)>0)=false:=Ag (by omega)
   have hx0:x/2^(64-s)=0:=by rw[hs0];exact Gt hxl
   have hset:(o.set i (c+x*2^s%18446744073709551616)).set (i+1) 0=o.set i (c+x*2^s%18446744073709551616):=by
    refine OK λk=>?_
    rcases Nat.decEq (i+1) k with hk|hk
    ·rw[H3 hk]
    ·subst hk
     rw[UB (by have:=(List.getElem?_eq_some_iff.1 hz1).1;exact this),hz1]
   rw[hx0,hset]at J;refine Am w1 600 (by kernel_rfl) ?_;refine AT e1 ?_;refine AJ ?_;refine Ak ?_;refine Am w1 800 (by kernel_rfl) ?_;refine AT wi ?_;refine⟨(i+1,0,o.set i (c+x*2^s%18446744073709551616),m+200),⟨J,by dsimp only;omega⟩,by dsimp only;omega,AL⟩
  ·have e1:decide ((s:Int)>0)=true:=AZ (by omega)
   have w64:IntKind.i64.wrap (64-(s:Int))=((64-s:Nat):Int):=by rw[wI (by omega) (by omega)];omega
   have w640:(0:Int)<=IntKind.i64.wrap (64-(s:Int)):=by rw[w64];omega
   have e36:=MB x (64-s) (by omega);refine Am w1 600 (by kernel_rfl) ?_;refine AT e1 ?_;refine AJ ?_;refine Am w1 700 (by kernel_rfl) ?_;refine AD (E7 wi w64 e36 kN BM hz') ?_
   try rw[map_set]
   refine Am w1 800 (by kernel_rfl) ?_;refine AT wi ?_;refine⟨(i+1,x/2^(64-s),(o.set i (c+x*2^s%18446744073709551616)).set (i+1) (x/2^(64-s)),m+200),⟨J,by dsimp only;omega⟩,by dsimp only;omega,AL⟩
 ·have hi:i=w.length:=by
   have:¬i<w.length:=by simpa using h15
   have:=I.le
   omega
  subst hi;have hv:=I.val;rw[B1 (Ae _)]at hv;refine B6 ?_;refine sR 900 ?_;refine Ab ?_;exact⟨o,g,I.len,I.wd,hv,rfl,rfl,by omega⟩
section
variable {C:A9} {B F:AX} {s:St} {rd:Option Nat} {Q:Exit->AX->St->Prop}
theorem Ck {a b:Code}{α:Type}(S:α->St)(J:α->Prop)(h1:AC C B rd F a s (λe F1 s1=>IP (F1=F/\∃x,J x/\Wk s1 (S x)) (λe=>Q e F1 s1) e))(h2:∀x,J x->AC C B rd F b (S x) Q):AC C B rd F (.seq a b) s Q:=
 AC.seq (h1.mono λe F1 s1 h=>by
  cases e with
  |normal=>
   obtain⟨h0,x,hx,h3⟩:=(show F1=F/\∃x,J x/\Wk s1 (S x)from h)
   rw[h0];exact AC.weak (S x) h3 (h2 x hx)
  |ret=>exact h
  |exit j=>exact h
  |goto l=>exact h
  |panic c=>exact h
  |outgrown=>exact h)
end
theorem fF {q v c:Nat}(hq:q<BB)(hv:v<BB)(hc:c<BB):
  (q*v%BB+c)%BB+BB*(q*v/BB+(q*v%BB+c)/BB)=q*v+c/\q*v/BB+(q*v%BB+c)/BB<BB:=by
 have hqv:q*v<=(18446744073709551616-1)*(18446744073709551616-1):=Hz (by unfold BB at hq;omega) (by unfold BB at hv;omega);have hk:(18446744073709551616-1)*(18446744073709551616-1)=340282366920938463426481119284349108225:=by decide
 rw[hk]at hqv;generalize q*v=p at*;have e1:=ET p BB;have e2:=ET (p%BB+c) BB;have l1:=Bz p (show BB>0 by decide);have l2:=Bz (p%BB+c) (show BB>0 by decide);unfold BB at*;generalize p/18446744073709551616=A at*;generalize p%18446744073709551616=D at*;generalize(D+c)/18446744073709551616=E at*;generalize(D+c)%18446744073709551616=G at*;omega
theorem CH {l:List Nat}{i:Nat}(h:i<l.length):∃a,l[i]?=some a:=⟨l[i],BF h⟩
theorem T4 {l:List Nat}{k a:Nat}(hl:l.length=k+1)(ha:l[k]?=some a):AS l=AS (l.take k)+BB^k*a:=by
 rw[Jb ha,Gq (by omega)];simp[AS]
theorem uR {l:List Nat}{k a b:Nat}(hl:l.length=k+2)(ha:l[k]?=some a)(hb:l[k+1]?=some b):AS l=AS (l.take k)+BB^k*(a+BB*b):=by
 rw[Jb ha]
 have:l.drop (k+1)=[b]:=by
  rw[EU (by omega),Gq (by omega)]
  congr 1
  exact(List.getElem?_eq_some_iff.1 hb).2
 rw[this];simp[AS]
theorem uS {l:List Nat}{k a b c:Nat}(hl:l.length=k+3)(ha:l[k]?=some a)(hb:l[k+1]?=some b)(hc:l[k+2]?=some c):AS l=AS (l.take k)+BB^k*(a+BB*(b+BB*c)):=by
 rw[Jb ha];have h1:=T4 (l:=l.drop (k+1)) (k:=1) (a:=c) (by rw[DQ];omega) (by rw[Gr,EI];exact hc);have h2:(l.drop (k+1)).take 1=[b]:=by
  rw[EU (by omega)];simp only[List.take_succ_cons,MY]
  congr 1
  exact(List.getElem?_eq_some_iff.1 hb).2
 rw[h1,h2];simp[AS]
structure L1 (P v:List Nat)(m p0 p1 p2 v2 v1:Nat):Prop where
 lP:P.length=m+3
 lv:v.length=m+2
 wP:Wd P
 wv:Wd v
 h0:P[m]?=some p0
 h1:P[m+1]?=some p1
 h2:P[m+2]?=some p2
 g2:v[m]?=some v2
 g1:v[m+1]?=some v1
 top:0<v1
 less:AS P<AS v*BB
namespace L1
variable {P v:List Nat} {m p0 p1 p2 v2 v1:Nat} (S:L1 P v m p0 p1 p2 v2 v1)
include S
theorem valP:AS P=AS (P.take m)+BB^m*(p0+BB*(p1+BB*p2)):=uS S.lP S.h0 S.h1 S.h2
theorem valv:AS v=AS (v.take m)+BB^m*(v2+BB*v1):=uR S.lv S.g2 S.g1
theorem lowP:AS (P.take m)<BB^m:=by
 have:=Gz (S.wP.take m)
 rwa [Bf,E2 (by have:=S.lP;omega)]at this
theorem lowv:AS (v.take m)<BB^m:=by
 have:=Gz (S.wv.take m)
 rwa [Bf,E2 (by have:=S.lv;omega)]at this
theorem p0l:p0<BB:=S.wP _ (BA S.h0)
theorem p1l:p1<BB:=S.wP _ (BA S.h1)
theorem p2l:p2<BB:=S.wP _ (BA S.h2)
theorem v1l:v1<BB:=S.wv _ (BA S.g1)
theorem v2l:v2<BB:=S.wv _ (BA S.g2)
theorem below3:AS P<(p0+BB*(p1+BB*p2)+1)*BB^m:=by
 rw[S.valP,Bp,IZ,BP (BB^m)]
 have:=S.lowP
 omega
theorem below2:AS P<(p1+BB*p2+1)*BB^(m+1):=by
 have h:=S.below3;have h1:=S.p0l;generalize p1+BB*p2=t at*;have h2:(p0+BB*t+1)*BB^m<=(BB*(t+1))*BB^m:=CC _ (by rw[BJ BB t 1];omega);have h3:(t+1)*BB^(m+1)=(BB*(t+1))*BB^m:=by rw[CE,BP (BB^m) BB,<-Br,BP (t+1) BB]
 omega
theorem abovev:v1*BB^(m+1)<=AS v:=by
 rw[S.valv,CE,BJ]
 have:v1*(BB^m*BB)=BB^m*(BB*v1):=by rw[BP v1,Br]
 omega
theorem abovev2:(v2+BB*v1)*BB^m<=AS v:=by
 rw[S.valv,BP];omega
theorem pos:0<AS v:=CN (F6 S.top (Nat.pow_pos (by decide))) S.abovev
theorem p2v1:p2<=v1:=by
 rcases BH v1 p2 with h|h
 ·exfalso
  have e1:BB^(m+2)*p2<=AS P:=by
   rw[S.valP,BJ,BJ,BJ]
   have:BB^(m+2)*p2=BB^m*(BB*(BB*p2)):=by rw[CE,CE,Br,Br]
   omega
  have e2:AS v<BB^(m+1)*(v1+1):=by
   have h1:=S.lowv;have h2:=S.v2l;have e3:BB^(m+1)*(v1+1)=BB^m*(BB*v1+BB):=by rw[CE,Br,BJ,Dy]
   have e4:BB^m*(v2+BB*v1+1)<=BB^m*(BB*v1+BB):=CS _ (by omega);rw[BJ _ _ 1,Dy]at e4;rw[S.valv,e3];omega
  have e5:BB^(m+1)*(v1+1)*BB=BB^(m+2)*(v1+1):=by rw[Nat.mul_right_comm,<-CE]
  have e6:BB^(m+2)*(v1+1)<=BB^(m+2)*p2:=CS _ h;have e7:(AS v)*BB<=BB^(m+1)*(v1+1)*BB:=CC _ (IY e2)
  have:=S.less
  omega
 ·exact h
end L1
theorem gG {B q v2 r c p0:Nat}(hq:q<B)(hv:v2<B)(h:0<c\/q*v2<=r*B+p0):q*v2<=(r+B*c)*B+p0:=by
 rcases h with h|h
 ·have h2:q*v2<=B*B:=Hz (by omega) (by omega)
  have h4:B*1<=B*c:=CS _ h;have h3:B*B<=(r+B*c)*B:=CC _ (by omega);omega
 ·have h3:r*B<=(r+B*c)*B:=CC _ (by omega)
  omega
structure Ks (U V n2 v1 q r c:Nat):Prop where
 eq:q*v1+(r+BB*c)=n2
 up:U<(q+1)*V
 qB:q<BB
 rB:r<BB
 c1:c<=1
section
variable {P v:List Nat} {m p0 p1 p2 v2 v1:Nat} (S:L1 P v m p0 p1 p2 v2 v1)
include S
theorem fj (h:v1<=p2):Ks (AS P) (AS v) (p1+BB*p2) v1 18446744073709551615 ((p1+v1+0)%BB) ((p1+v1+0)/BB):=by
 have h1:p2=v1:=Nat.le_antisymm S.p2v1 h;have h2:=S.less;have h3:=S.p1l;have h4:=S.v1l;have e:=ET (p1+v1+0) BB;refine⟨?_,?_,by decide,Bz _ (by decide),?_⟩
 ·rw[e,h1]
  show 18446744073709551615*v1+(p1+v1+0)=p1+18446744073709551616*v1;omega
 ·rw[BP];exact h2
 ·have:p1+v1+0<2*BB:=by omega
  exact Md (Eg (by rw[BP];exact this))
theorem cz (h:p2<v1):Ks (AS P) (AS v) (p1+BB*p2) v1 ((p2*BB+p1)/v1) ((p2*BB+p1)%v1) 0:=by
 have c0:p2*BB+p1=p1+BB*p2:=by rw[BP,KH]
 rw[c0];have e:=EH (p1+BB*p2) v1;have l:=Bz (p1+BB*p2) S.top;have h3:=S.p1l;have h4:=S.v1l;have c1:=BP v1 ((p1+BB*p2)/v1);refine⟨by omega,Uo S.below2 S.abovev ?_,?_,by omega,by decide⟩
 ·rw[Bp];omega
 ·refine Eg ?_
  have:BB*(p2+1)<=BB*v1:=CS _ h
  rw[BJ]at this;rw[BP v1];omega
theorem eV {q r:Nat}(G:Ks (AS P) (AS v) (p1+BB*p2) v1 q r 0)(h:r*BB+p0<q*v2):
  0<q/\Ks (AS P) (AS v) (p1+BB*p2) v1 (q-1) ((r+v1+0)%BB) ((r+v1+0)/BB):=by
 obtain⟨e,u,b,rb,_⟩:=G;rcases DU q with h0|h0
 ·subst h0;omega
 obtain⟨k,rfl⟩:∃k,q=k+1:=⟨q-1,by omega⟩
 have e1:=ET (r+v1+0) BB;have h4:=S.v1l;have e2:(k+1)*(v2+BB*v1)=(k+1)*v2+BB*((k+1)*v1):=by rw[BJ,Hx]
 have hn3:p0+BB*(p1+BB*p2)<(k+1)*(v2+BB*v1):=by
  rw[e2,<-e,BJ BB,EJ,DL r,BP BB r];omega
 refine⟨by omega,⟨?_,?_,by omega,Bz _ (by decide),?_⟩⟩
 ·rw[H5,e1,<-e,Bp];omega
 ·rw[H5];exact VN S.below3 S.abovev2 hn3
 ·have:r+v1+0<2*BB:=by omega
  exact Md (Eg (by rw[BP];exact this))
theorem VM {q r c:Nat}(G:Ks (AS P) (AS v) (p1+BB*p2) v1 q r c)(h:0<c\/q*v2<=r*BB+p0):q*AS v<=AS P+AS v:=by
 obtain⟨e,u,b,rb,c1⟩:=G;have h5:=S.v2l;have hq:q*v2<=(r+BB*c)*BB+p0:=gG b h5 h;have e2:q*(v2+BB*v1)=q*v2+BB*(q*v1):=by rw[BJ,Hx]
 refine V0 (n3:=p0+BB*(p1+BB*p2)) (D:=v2+BB*v1) (P:=BB^m) (B:=BB) (v:=AS (v.take m)) ?_ ?_ S.lowv ?_ (by omega) ?_
 ·rw[S.valP,BP];omega
 ·rw[S.valv,BP];omega
 ·rw[e2,<-e,BJ BB]
  have:BB*(r+BB*c)=(r+BB*c)*BB:=BP _ _
  omega
 ·have:=S.top
  have h1:=CS BB (show 1<=v1 from this);omega
end
theorem eW {x r p0:Nat}(hp:p0<BB):(x/BB<r\/x/BB=r/\x%BB<=p0)↔x<=r*BB+p0:=by
 have e:=EH x BB;have l:=Bz x (show 0<BB by decide);generalize x/BB=h at*;generalize x%BB=d at*;unfold BB at*;omega
theorem Ri {U V q N:Nat}(h:N+q*V=U+0)(hu:U<(q+1)*V):U/V=q/\U%V=N:=by
 have h1:U=N+V*q:=by rw[BP];omega
 have h2:N<V:=by rw[Bp]at hu;omega
 subst h1;exact⟨by rw[Qr _ _ (by omega),Gt h2,BM],by rw[Qx,DR h2]⟩
theorem V3 {U V q N N3 T c:Nat}(h:N+q*V=U+T)(hN:N<T)(hu:q*V<=U+V)(h3:N3+T*c=N+V)(hc:c<=1)(h3l:N3<T):0<q/\U/V=q-1/\U%V=N3:=by
 rcases DU q with h0|h0
 ·subst h0;omega
 obtain⟨k,rfl⟩:∃k,q=k+1:=⟨q-1,by omega⟩
 rw[Bp,IZ]at h hu;have hc1:c=1:=by
  rcases DU c with h4|h4
  ·subst h4;omega
  ·omega
 subst hc1;have h5:N3+k*V=U+0:=by omega
 have h6:U<(k+1)*V:=by rw[Bp];omega
 obtain⟨a,b⟩:=Ri h5 h6;exact⟨by omega,by rw[a];omega,b⟩
theorem bq {A P v:List Nat}{q i z x d b c b' c' lo:Nat}(hz:A[i]?=some z)(hx:v[i]?=some x)(hI:AS A+q*AS (v.take i)=AS P+BB^i*(c+b))
  (h1:lo+BB*c'=q*x+c) (h2:d+lo+b=z+BB*b'):AS (A.set i d)+q*AS (v.take (i+1))=AS P+BB^(i+1)*(c'+b'):=by
 have hs:=Il (d:=d) hz;have hi:i<v.length:=(List.getElem?_eq_some_iff.1 hx).1;rw[El hx,GD (i:=i) (by rw[Bf];omega),BJ,Hx q,CE,Br];have e:BB^i*(d+q*x+(c+b))=BB^i*(z+BB*(c'+b')):=by congr 1;rw[BJ BB];omega
 rw[BJ,BJ,BJ (BB^i) z]at e;omega
theorem br {A P:List Nat}{i z d X b c b':Nat}(hz:A[i]?=some z)(hI:AS A+X=AS P+BB^i*(c+b))(h2:d+c+b=z+BB*b'):AS (A.set i d)+X=AS P+BB^(i+1)*b':=by
 have hs:=Il (d:=d) hz;rw[CE,Br];have e:BB^i*(d+(c+b))=BB^i*(z+BB*b'):=by congr 1;omega
 rw[BJ,BJ (BB^i) z]at e;omega
theorem bi {A P v:List Nat}{i z x c:Nat}(hz:A[i]?=some z)(hx:v[i]?=some x)(hI:AS A+BB^i*c=AS P+AS (v.take i)):
  AS (A.set i ((z+x+c)%BB))+BB^(i+1)*((z+x+c)/BB)=AS P+AS (v.take (i+1)):=by
 have hs:=Il (d:=(z+x+c)%BB) hz;have hi:i<v.length:=(List.getElem?_eq_some_iff.1 hx).1;rw[El hx,GD (i:=i) (by rw[Bf];omega),CE,Br];have e:BB^i*((z+x+c)%BB+BB*((z+x+c)/BB))=BB^i*(z+x+c):=by rw[ET]
 rw[BJ,BJ,BJ (BB^i) z]at e;omega
theorem bn {A:List Nat}{i z c X:Nat}(hz:A[i]?=some z)(hI:AS A+BB^i*c=X):
  AS (A.set i ((z+c)%BB))+BB^(i+1)*((z+c)/BB)=X:=by
 have hs:=Il (d:=(z+c)%BB) hz;rw[CE,Br];have e:BB^i*((z+c)%BB+BB*((z+c)/BB))=BB^i*(z+c):=by rw[ET]
 rw[BJ,BJ (BB^i) z]at e;omega
theorem Kl {A P Z:List Nat}{i z:Nat}(h:P[i]?=some z):((A++(P++Z)).map AR)[A.length+i]?=some (AR z):=by
 have hi:i<P.length:=(List.getElem?_eq_some_iff.1 h).1;refine DF ?_;rw[E5 (by omega),KF,F3 hi];exact h
theorem Pf {A P Z:List Nat}{i d:Nat}(hi:i<P.length):((A++(P++Z)).map AR).set (A.length+i) (AR d)=(A++(P.set i d++Z)).map AR:=by
 rw[map_set,OO _ _ (by omega),KF,List.set_append_left _ _ hi]
set_option maxHeartbeats 2000000
def kI (A P Z v:List Nat)(gq Tq gu:Nat)(qs:List D)(d:D)(H':Hp)(_:Nat):Prop:=
 ∃P':List Nat,P'.length=P.length/\Wd P'/\AS P'=AS P%AS v/\d=AR (AS P/AS v)/\H'=[⟨1505,gq,Tq,1,qs⟩,⟨103,gu,225,1,(A++(P'++Z)).map AR⟩]
theorem mC (A P Z v:List Nat)(m p0 p1 p2 v2 v1:Nat)(S:L1 P v m p0 p1 p2 v2 v1)(hm:A.length+m<4000000)(gq Tq gu:Nat)(qs:List D)(n:Nat):
  CT C0 257 [.osl 103 gu 1 A.length (m+3),wL v] [⟨1505,gq,Tq,1,qs⟩,⟨103,gu,225,1,(A++(P++Z)).map AR⟩] n (kI A P Z v gq Tq gu qs):=by
 refine CT.walk w1 Ze rfl λF=>?_
 unfold wL;have hPl:=S.lP;have hvl:=S.lv;have ev:(((v.map AR).length:Nat):Int)=((m+2:Nat):Int):=by rw[Ap,hvl]
 have k1:IntKind.i64.wrap (((m+2:Nat):Int)-1)=((m+1:Nat):Int):=by rw[wI (by omega) (by omega)];omega
 have k2:IntKind.i64.wrap (((m+2:Nat):Int)-2)=(m:Int):=by rw[wI (by omega) (by omega)];omega
 have hp0:=Kl (A:=A) (Z:=Z) S.h0;have hp1:=Kl (A:=A) (Z:=Z) S.h1;have hp2:=Kl (A:=A) (Z:=Z) S.h2;have hv1:=DF S.g1;have hv2:=DF S.g2;have l0:=S.p0l;have l1:=S.p1l;have l2:=S.p2l;have lv1:=S.v1l;have lv2:=S.v2l;refine sR 0 ?_;refine sZ 100 ?_;refine AT ev ?_;refine sR 200 ?_;refine sR 300 ?_;refine Ck (α:=Nat×Nat×Nat×Nat) (λp=>⟨[(0,.osl 103 gu 1 A.length (m+3)),(1,.sl false 1 (v.map AR)),(5,i64 ((m+2:Nat):Int)),(6,AR p.1),(7,AR p.2.1),(8,AR p.2.2.1)],[⟨1505,gq,Tq,1,qs⟩,⟨103,gu,225,1,(A++(P++Z)).map AR⟩],p.2.2.2⟩)
  (λp=>Ks (AS P) (AS v) (p1+BB*p2) v1 p.1 p.2.1 p.2.2.1) ?_ ?_
 ·refine AC.seq ?_
  refine B5 w1 400 [0,1,2,3,4,5,6,7,8] [9] (by kernel_rfl) ?_;refine AD (Au kN k1 hp2) ?_;refine Bl kT hv1 ?_;refine AD (Au kN k1 hp2) ?_;rcases BH p2 v1 with h|h
  ·have e1:decide ((p2:Int)>=(v1:Int))=false:=Ag (by omega)
   have G:=cz S h;rw[e1];refine AJ ?_;refine B5 w1 700 [0,1,2,3,4,5,6,7,8,9,10,11,12,13,14,15,16,17,18] [19] (by kernel_rfl) ?_;refine AD (Bh kN k1 hp2 hp1) ?_;refine Bl kT hv1 ?_;refine AD (Bh kN k1 hp2 hp1) ?_;refine BQ.same _ (WH p2 p1 v1 h l1 lv1) AG ?_;refine BK ?_;exact⟨trivial,⟨(p2*BB+p1)/v1,(p2*BB+p1)%v1,0,_⟩,G,AL⟩
  ·have e1:decide ((p2:Int)>=(v1:Int))=true:=AZ (by omega)
   have G:=fj S h;rw[e1];refine AJ ?_;refine sR 500 ?_;refine B5 w1 600 [0,1,2,3,4,5,6,7,8,9,10,11,12,13,14] [15] (by kernel_rfl) ?_;refine AD (Bh kN k1 hp2 hp1) ?_;refine Bl kT hv1 ?_;refine AD (Bh kN k1 hp2 hp1) ?_;exact⟨trivial,⟨18446744073709551615,(p1+v1+0)%BB,(p1+v1+0)/BB,_⟩,G,AL⟩
 rintro⟨q0,r0,c0,n0⟩ G0;dsimp only at G0⊢;refine Ck (α:=Nat×Nat) (λp=>⟨[(0,.osl 103 gu 1 A.length (m+3)),(1,.sl false 1 (v.map AR)),(5,i64 ((m+2:Nat):Int)),(6,AR p.1)],[⟨1505,gq,Tq,1,qs⟩,⟨103,gu,225,1,(A++(P++Z)).map AR⟩],p.2⟩)
  (λp=>p.1<BB/\AS P<(p.1+1)*AS v/\p.1*AS v<=AS P+AS v) ?_ ?_
 ·refine AC.block ?_
  refine FY (α:=Nat×Nat×Nat×Nat) (λp=>⟨[(0,.osl 103 gu 1 A.length (m+3)),(1,.sl false 1 (v.map AR)),(5,i64 ((m+2:Nat):Int)),(6,AR p.1),(7,AR p.2.1),(8,AR p.2.2.1)],[⟨1505,gq,Tq,1,qs⟩,⟨103,gu,225,1,(A++(P++Z)).map AR⟩],p.2.2.2⟩)
   (λp=>p.1) (λp F'=>F'=F/\Ks (AS P) (AS v) (p1+BB*p2) v1 p.1 p.2.1 p.2.2.1) (q0,r0,c0,n0) ⟨rfl,G0⟩ AL ?_
  rintro⟨q,r,c,n1⟩ F' ⟨rfl,G⟩;dsimp only at G⊢;refine AC.seq ?_;refine AC.seq ?_;rcases DU c with hc|hc
  ·subst hc
   have e8:(((0:Nat):Int)==0)=true:=rfl;refine Am w1 800 (by kernel_rfl) ?_;refine AT e8 ?_;refine AJ ?_;refine Ak ?_;refine AC.block ?_;have lq:=G.qB;have cm:=M9 q v2 lq lv2;refine sZ 900 ?_;refine AD (Ac kN k2) ?_;refine Bl kT hv2 ?_;refine AD (Ac kN k2) ?_;refine Az.same _ cm AG ?_;refine BK ?_;have ht:=eW (x:=q*v2) (r:=r) l0;obtain⟨b,hb⟩:∃b:Bool,b=decide (q*v2<=r*BB+p0):=⟨_,rfl⟩
   refine AC.seq ?_;refine FF ⟨[(0,.osl 103 gu 1 A.length (m+3)),(1,.sl false 1 (v.map AR)),(5,i64 ((m+2:Nat):Int)),(6,AR q),(7,AR r),(91,Aq b)],[⟨1505,gq,Tq,1,qs⟩,⟨103,gu,225,1,(A++(P++Z)).map AR⟩],n1+100⟩ ?_ ?_
   ·change(q*v2/18446744073709551616<r\/q*v2/18446744073709551616=r/\q*v2%18446744073709551616<=p0)↔_ at ht
    generalize q*v2/18446744073709551616=hi at*;generalize q*v2%18446744073709551616=lo at*;rcases BH hi r with h|h
    ·have e1:decide ((hi:Int)<(r:Int))=true:=AZ (by omega)
     have hb1:b=true:=by rw[hb];exact AZ (ht.1 (.inl h))
     subst hb1;refine Am w1 1000 (by kernel_rfl) ?_;refine AD e1 ?_;refine AD kT ?_;exact And.intro (by trivial) (AL)
    ·have e1:decide ((hi:Int)<(r:Int))=false:=Ag (by omega)
     rcases Nat.eq_or_lt_of_le h with h2|h2
     ·have e2:((hi:Int)==(r:Int))=true:=Dp.2 (by omega)
      have e3:decide ((lo:Int)<=(p0:Int))=b:=by
       rw[hb];exact Co.2 ⟨λh3=>ht.1 (.inr ⟨h2.symm,by omega⟩),λh3=>by rcases ht.2 h3 with h4|h4<;>omega⟩
      refine Am w1 1000 (by kernel_rfl) ?_;refine AD e1 ?_;refine AD (Ac kF e2) ?_;refine AD (E7 kF e2 kN k2 hp0 e3) ?_;exact And.intro (by trivial) (AL)
     ·have e2:((hi:Int)==(r:Int))=false:=B3.2 (by omega)
      have hb1:b=false:=by rw[hb];exact Ag λh3=>by rcases ht.2 h3 with h4|h4<;>omega
      subst hb1;refine Am w1 1000 (by kernel_rfl) ?_;refine AD e1 ?_;refine AD kF ?_;simp only[e2];refine AD (Ac kF HO) ?_;exact And.intro (by trivial) (AL)
   ·cases b
    ·have hn:=Cz hb.symm
     obtain⟨hq0,G2⟩:=eV S G (by omega);have j1:IntKind.u64.wrap ((q:Int)-1)=((q-1:Nat):Int):=by rw[wU (by omega) (by have:=G.qB;unfold BB at this;omega)];omega
     refine AJ ?_;refine Ak ?_;refine sZ 1100 ?_;refine AT j1 ?_;refine Am w1 1200 (by kernel_rfl) ?_;refine AD (Ac kN k1) ?_;refine Bl kT hv1 ?_;refine AD (Ac kN k1) ?_;exact⟨(q-1,(r+v1+0)%BB,(r+v1+0)/BB,_),⟨trivial,G2⟩,by dsimp only;omega,AL⟩
    ·have hn:=Cw hb.symm
     refine AJ ?_;refine B6 ?_;exact⟨rfl,⟨q,_⟩,⟨G.qB,G.up,VM S G (.inr hn)⟩,AL⟩
  ·have e8:((c:Int)==0)=false:=B3.2 (by omega)
   refine Am w1 800 (by kernel_rfl) ?_;refine AT e8 ?_;refine AJ ?_;refine B6 ?_;exact⟨rfl,⟨q,_⟩,⟨G.qB,G.up,VM S G (.inl hc)⟩,AL⟩
 rintro⟨q,n1⟩ ⟨hq,hup,hdn⟩;dsimp only at hq hup hdn⊢;clear hp0 hp1 hp2;refine sR 1300 ?_;refine AC.seq ?_;refine sR 1400 ?_;refine AC.block ?_;refine AC.loop (α:=Nat×Nat×Nat×List Nat×Nat) (λp=>⟨[(0,.osl 103 gu 1 A.length (m+3)),(1,.sl false 1 (v.map AR)),(5,i64 ((m+2:Nat):Int)),(6,AR q),(11,AR p.2.1),(12,AR p.2.2.1),(104,i64 ((m+2:Nat):Int)),(105,i64 p.1)],[⟨1505,gq,Tq,1,qs⟩,⟨103,gu,225,1,(A++(p.2.2.2.1++Z)).map AR⟩],p.2.2.2.2⟩) (λp=>m+2-p.1)
  (λp=>p.1<=m+2/\p.2.1<=1/\p.2.2.1<BB/\p.2.2.2.1.length=m+3/\Wd p.2.2.2.1/\AS p.2.2.2.1+q*AS (v.take p.1)=AS P+BB^p.1*(p.2.2.1+p.2.1)) (0,0,0,P,_) ⟨BT _,BT _,(show 0<BB by decide),hPl,S.wP,by simp[AS]⟩ AL ?_
 rintro⟨i,b,c,p,n2⟩ F ⟨hi,hb,hc,hpl,hpw,hI⟩;dsimp only at hi hb hc hpl hpw hI⊢;have hv1':=hv1;clear hv1 hv2;refine sR 1500 ?_;refine AC.seq ?_;refine AJ ?_
 (refine Bq (λhlt=>?_) (λhlt=>?_))<;>(try simp only[Bd,Bn]at hlt)<;>(try simp only[hlt])
 ·have hi2:i<m+2:=by
   have:=Cw hlt
   omega
  obtain⟨x,hx⟩:=CH (l:=v) (i:=i) (by omega);have hx':=DF hx;have hxl:x<BB:=S.wv x (BA hx);obtain⟨z,hz⟩:=CH (l:=p) (i:=i) (by omega);have hz':=Kl (A:=A) (Z:=Z) hz;have hzl:z<BB:=hpw z (BA hz);have cm:=M9 q x hq hxl;have md:=fF hq hxl hc;obtain⟨h,l,lo,k,c',eh,el,elo,ek,ec,hlo,hc',hmd⟩:∃h l lo k c',q*x/18446744073709551616=h/\q*x%18446744073709551616=l/\(l+c+0)%18446744073709551616=lo/\(l+c+0)/18446744073709551616=k/\h+k=c'/\lo<BB/\c'<BB/\lo+BB*c'=q*x+c:=
   ⟨_,_,_,_,_,rfl,rfl,rfl,rfl,rfl,Bz _ (by decide),md.2,md.1⟩
  rw[eh,el]at cm;have j1:IntKind.u64.wrap ((h:Int)+(k:Int))=(c':Int):=by rw[<-Int.natCast_add,ec];exact UL hc'
  have hsub:=Rz (a:=z) (b:=lo) hb;have hdig:=Rk hzl hlo hb;have hb':(if z<lo+b then 1 else 0)<=1:=by split<;>decide
  have hd:(z+BB-lo-b)%BB<BB:=Bz _ (by decide);generalize(if z<lo+b then 1 else 0)=b' at*;generalize(z+BB-lo-b)%BB=d at*;have wi:IntKind.i64.wrap ((i:Int)+1)=((i+1:Nat):Int):=wI (by omega) (by omega);refine Ak ?_;refine AC.seq ?_;refine AC.block ?_;refine sR 1600 ?_;refine sZ 1700 ?_;refine AD kN ?_;refine Bl kT hx' ?_;refine AD kN ?_;refine Az.same _ cm AG ?_;refine BK ?_;refine sR 1800 ?_;refine sZ 1900 ?_;refine AT (Ac elo ek) ?_;refine sZ 2000 ?_;refine AT j1 ?_;refine Am w1 2100 (by kernel_rfl) ?_;refine AD (Ac kN hz') ?_
  first|(refine Dt rfl rfl ?_;refine Pi rfl rfl (hsub) ?_)|(refine EM rfl rfl ?_;refine NO rfl rfl (hsub) ?_)
  refine AD (Ac kN hz') ?_;rw[Pf (by omega)];refine Am w1 2200 (by kernel_rfl) ?_;refine AT wi ?_;exact⟨(i+1,b',c',p.set i d,_),⟨hi2,hb',hc',by dsimp only;rw[DK];exact hpl,hpw.set hd,bq hz hx hI hmd hdig⟩,by dsimp only;omega,AL⟩
 ·have hi2:i=m+2:=by
   have:=Cz hlt
   omega
  subst hi2;rw[B1 (by omega)]at hI;obtain⟨z,hz⟩:=CH (l:=p) (i:=m+2) (by omega);have hz':=Kl (A:=A) (Z:=Z) hz;have hzl:z<BB:=hpw z (BA hz);have hsub:=Rz (a:=z) (b:=c) hb;have hdig:=Rk hzl hc hb;have hb':(if z<c+b then 1 else 0)<=1:=by split<;>decide
  have hd:(z+BB-c-b)%BB<BB:=Bz _ (by decide);generalize(if z<c+b then 1 else 0)=b' at*;generalize(z+BB-c-b)%BB=d at*;have hT:=br hz hI hdig;have hml:m+2<p.length:=by omega
  refine B6 ?_;refine sZ 2300 ?_;refine AD (Ac kN hz') ?_
  first|(refine Dt rfl rfl ?_;refine Pi rfl rfl (hsub) ?_)|(refine EM rfl rfl ?_;refine NO rfl rfl (hsub) ?_)
  refine AD (Ac kN hz') ?_;rw[Pf hml];have hpl2:(p.set (m+2) d).length=m+3:=by rw[DK];exact hpl
  have hpw2:=hpw.set (i:=m+2) hd;clear hz' hz hdig hsub hI;generalize p.set (m+2) d=p2 at*;refine AC.seq ?_;refine AC.seq ?_;rcases DU b' with hb0|hb0
  ·subst hb0
   have e24:(((0:Nat):Int)==0)=true:=rfl;obtain⟨ed,em⟩:=Ri hT hup;refine Am w1 2400 (by kernel_rfl) ?_;refine AT e24 ?_;refine AJ ?_;refine sR 2500 ?_;refine Ab ?_;exact⟨p2,by omega,hpw2,em.symm,by rw[ed],rfl⟩
  ·have hb1:b'=1:=by omega
   subst hb1;have e24:(((1:Nat):Int)==0)=false:=rfl;have hpL:=Gz hpw2;rw[hpl2]at hpL;refine Am w1 2400 (by kernel_rfl) ?_;refine AT e24 ?_;refine AJ ?_;refine Ak ?_;refine sR 2600 ?_;refine AC.seq ?_;refine sR 2700 ?_;refine AC.block ?_;refine AC.loop (α:=Nat×Nat×List Nat×Nat) (λp=>⟨[(0,.osl 103 gu 1 A.length (m+3)),(1,.sl false 1 (v.map AR)),(5,i64 ((m+2:Nat):Int)),(6,AR q),(17,AR p.2.1),(156,i64 ((m+2:Nat):Int)),(157,i64 p.1)],[⟨1505,gq,Tq,1,qs⟩,⟨103,gu,225,1,(A++(p.2.2.1++Z)).map AR⟩],p.2.2.2⟩) (λp=>m+2-p.1)
    (λp=>p.1<=m+2/\p.2.1<=1/\p.2.2.1.length=m+3/\Wd p.2.2.1/\AS p.2.2.1+BB^p.1*p.2.1=AS p2+AS (v.take p.1)) (0,0,p2,_) ⟨BT _,BT _,hpl2,hpw2,by simp[AS]⟩ AL ?_
   rintro⟨i,c3,p3,n3⟩ F ⟨hi,hc3,hpl3,hpw3,hI⟩;dsimp only at hi hc3 hpl3 hpw3 hI⊢;refine sR 2800 ?_;refine AC.seq ?_;refine AJ ?_
   (refine Bq (λhlt=>?_) (λhlt=>?_))<;>(try simp only[Bd,Bn]at hlt)<;>(try simp only[hlt])
   ·have hi2:i<m+2:=by
     have:=Cw hlt
     omega
    obtain⟨x,hx⟩:=CH (l:=v) (i:=i) (by omega);have hx':=DF hx;have hxl:x<BB:=S.wv x (BA hx);obtain⟨z,hz⟩:=CH (l:=p3) (i:=i) (by omega);have hz':=Kl (A:=A) (Z:=Z) hz;have hzl:z<BB:=hpw3 z (BA hz);have hadd:=WA (a:=z) (b:=x) hc3;have J:=bi hz hx hI;have hs:(z+x+c3)%BB<BB:=Bz _ (by decide);have hc':(z+x+c3)/BB<=1:=by
     have:z+x+c3<2*BB:=by omega
     exact Md (Eg (by rw[BP];exact this))
    generalize(z+x+c3)%BB=d at*;generalize(z+x+c3)/BB=c' at*;have wi:IntKind.i64.wrap ((i:Int)+1)=((i+1:Nat):Int):=wI (by omega) (by omega);refine Ak ?_;refine AC.seq ?_;refine AC.block ?_;refine sR 2900 ?_;refine OF w1 3000 [0,1,2,3,4,5,6,7,8,9,10,11,12,13,14,15,16] [17] 16 [12,10,9,8,7,6,5,4,3,2,1,0,11,13,15] (103) (by kernel_rfl) (by kernel_rfl) ?_;refine At ?_;refine LJ (Ac kN hz') ?_;refine LS rfl rfl rfl rfl ?_;refine Lz (λ_ _=>rfl) (by exact B4) ⟨rfl,by omega⟩ hx' ?_
    try dsimp only[D.cells,spot]
    refine LJ (Ac kN hz') ?_;refine LS rfl rfl rfl rfl ?_;refine NO rfl rfl hadd ?_;refine LJ (Ac kN hz') ?_;refine And.intro (by first|exact Or.inl AB|exact Or.inl rfl) ?_;refine AD kN ?_;rw[Pf (by omega)];refine Am w1 3100 (by kernel_rfl) ?_;refine AT wi ?_;exact⟨(i+1,c',p3.set i d,_),⟨hi2,hc',by dsimp only;rw[DK];exact hpl3,hpw3.set hs,J⟩,by dsimp only;omega,AL⟩
   ·have hi2:i=m+2:=by
     have:=Cz hlt
     omega
    subst hi2;rw[B1 (l:=v) (by omega)]at hI;obtain⟨z,hz⟩:=CH (l:=p3) (i:=m+2) (by omega);have hz':=Kl (A:=A) (Z:=Z) hz;have hzl:z<BB:=hpw3 z (BA hz);have J:=bn hz hI;have hs:(z+c3)%BB<BB:=Bz _ (by decide);have hc':(z+c3)/BB<=1:=by
     have:z+c3<2*BB:=by omega
     exact Md (Eg (by rw[BP];exact this))
    have j1:IntKind.u64.wrap ((z:Int)+(c3:Int))=(((z+c3)%BB:Nat):Int):=by rw[<-Int.natCast_add];exact IC _
    generalize(z+c3)%BB=d at*;generalize(z+c3)/BB=c' at*;have hml:m+2<p3.length:=by omega
    have hpl4:(p3.set (m+2) d).length=m+3:=by rw[DK];exact hpl3
    have hpw4:=hpw3.set (i:=m+2) hs;have hpL4:=Gz hpw4;rw[hpl4]at hpL4;obtain⟨q0p,ed,em⟩:=V3 (by rw[Dy]at hT;exact hT) hpL hdn J hc' hpL4;have j2:IntKind.u64.wrap ((q:Int)-1)=((q-1:Nat):Int):=by rw[wU (by omega) (by unfold BB at hq;omega)];omega
    refine B6 ?_;refine sZ 3200 ?_;refine AD (Au kN hz' j1) ?_;rw[Pf hml];refine sZ 3300 ?_;refine AT j2 ?_;refine Ab ?_;exact⟨p3.set (m+2) d,by omega,hpw4,em.symm,by rw[ed],rfl⟩
theorem CT.toP {C:A9}{f:Nat}{args:List D}{Φ:D->Hp->Nat->Prop}{Ψ:D->Prop}(h:CT C f args [] 0 Φ)(k:∀d H n,Φ d H n->∃d',Fz H [] d d'/\B0 d'/\Ψ d'):Ah C f args Ψ:=by
 refine⟨h.1,λY w vs hG hnG hX' hvs hr=>?_⟩
 let F0:AX:=⟨w,Y,λ_=>False,0,nol,[]⟩
 have m0:Al C F0 nol [] w:=⟨⟨by simp,.nil,by simp⟩,rfl,rfl,rfl,Ae _,λ_ _ _=>rfl,hX',hG,hnG,by simp[F0],λ_ _ _ h=>h,λ_ cs _ _ h=>⟨cs,_,h,rfl⟩⟩
 have hoe:AK F0.X nol []=Y:=funext λb=>propext (by simp[AK,F0])
 refine(h.2 F0 nol w vs m0 (λ_ _ _=>rfl) (by simp) hvs (λi d hd=>by rw[hoe];exact hr i d hd)).mono ?_;rintro e w' ⟨v,d,H',n',ρ',rfl,hΦ,m,x,fr,g,r⟩;obtain⟨d',h3,h4,h5⟩:=k d H' n' hΦ;have hH:CW H' [] H' []:=by
  generalize H'=H0
  have:∀H1:Hp,CW H0 [] H1 []:=λH1=>by
   induction H1 with
   |nil=>exact .nil
   |cons e r ih=>exact .drop ih
  exact this H0
 obtain⟨m2,hO,hN⟩:=hH.mem m;have r3:=h3.rep m hO hN r;have r4:=h4 _ nol _ _ _ r3;exact⟨v,d',rfl,⟨m.os,m.tape,m.output,m.size,λb hb=>m.blk b hb (by simp[F0])⟩,h5,r4.anti λb hb=>.inl hb⟩
theorem Y6 {H Hf:Hp}{a a' b b':D}(h1:Fz H Hf a a')(h2:Fz H Hf b b'):Fz H Hf (.tup [a,b]) (.tup [a',b']):=
 .tup rfl λi d d' hd hd'=>by
  match i with
  | 0=>simp at hd hd';subst hd;subst hd';exact h1
  | 1=>simp at hd hd';subst hd;subst hd';exact h2
  |i+2=>simp at hd
theorem WT {a b:D}(h1:B0 a)(h2:B0 b):B0 (.tup [a,b]):=B0.tup λd hd=>by
 simp only[A0,DC,or_false]at hd;rcases hd with rfl|rfl
 ·exact h1
 ·exact h2
theorem cr (K g T:Nat)(l l':List Nat)(h:l.take l'.length=l'):Fz [⟨K,g,T,1,l.map AR⟩] [] (.osl K g 1 0 l'.length) (wL l'):=by
 have hll:l'.length<=l.length:=by
  have:=congrArg List.length h
  rw[Bf]at this;omega
 have key:∀(j:Nat) (d d':D),(l.map AR)[0+j]?=some d->(l'.map AR)[j]?=some d'->d=d':=λj d d' h1 h2=>by
  rw[<-h,BG,ES]at h2;rw[BM,BG]at h1;split at h2
  ·rw[h1]at h2;exact Ff h2
  ·simp at h2
 refine .osl (e:=⟨K,g,T,1,l.map AR⟩) (by simp[Hp.get]) rfl rfl rfl (by simp;exact hll) (by simp) (λj d d' h1 h2=>by rw[key j d d' h1 h2]) λj d d' q c c' h1 h2 h3 h4=>?_
 rw[key j d d' h1 h2]at h3;rw[h3]at h4;cases h4;exact Fz.refl _
theorem mP:wD 0=.sl false 1 []:=by unfold wD;rw[FL];rfl
theorem iD (w:List Nat)(s:Nat)(hs:s<=63)(hw:Wd w)(hl:w.length<4000000):Ah C0 256 [wL w,i64 s] (λd=>∃out:List Nat,out.length=w.length+1/\Wd out/\AS out=AS w*2^s/\d=wL out):=
 (U9 w s hs hw hl [] 0).toP λd H n ⟨out,g,h1,h2,h3,h4,h5,_⟩=>by
  subst h4;subst h5;refine⟨wL out,?_,Jg _,out,h1,h2,h3,rfl⟩
  have:=cr 103 g 225 out out (by simp)
  rw[h1]at this;exact this
theorem fv {n k:Nat}(h1:BB^k<=n)(h2:n<BB^(k+1)):(Ad n).length=k+1:=by
 have h3:=GA h2;have h4:=DB h1 (Ij n);have h5:=(Nat.pow_lt_pow_iff_right (show 1<BB by decide)).1 h4;omega
theorem Rq:∀(n:Nat) {k a:Nat},(Ad n).length=k+1->(Ad n)[k]?=some a->a≠0:=λn=>by
 induction n using Nat.strongRecOn with
 |ind n ih=>
  intro k a h1 h2
  by_cases h0:n=0
  ·subst h0;rw[FL]at h1;cases h1
  ·rw[Fk h0]at h1 h2
   rw[Bk]at h1;have h3:=Nat.succ.inj h1;cases k with
   |zero=>
    have h4:Ad (n/BB)=[]:=Ei h3;have h5:n/BB=0:=by rw[<-EX (n/BB),h4];rfl
    have h6:=ET n BB;rw[h5]at h6;simp at h2;intro h7;subst h7;rw[h2]at h6;omega
   |succ k=>
    rw[JF]at h2;exact ih _ (HM (Do h0) (by decide)) h3 h2
theorem Wi {n k:Nat}(h:(Ad n).length=k+1):BB^k<=n:=by
 obtain⟨a,ha⟩:=CH (l:=Ad n) (i:=k) (by omega);have h1:=Rq n h ha;have h2:=T4 h ha;rw[EX]at h2;have h3:=CS (BB^k) (show 1<=a by omega);omega
theorem rq {b m y s:Nat}(hs:s<=63)(hl:(Ad b).length=m+1)(hy:(Ad b)[m]?=some y)(h:y*2^s<BB):(Ad (b*2^s)).length=m+1:=by
 have hp:0<2^s:=GQ s;have hpp:2^(64-s)*2^s=BB:=by rw[<-Fd,show 64-s+s=64 by omega]
 have h1:y<2^(64-s):=by
  rw[<-hpp]at h;exact Nat.lt_of_mul_lt_mul_right h
 refine fv ?_ ?_
 ·have:=Wi hl
  exact BO this (Nat.le_mul_of_pos_right _ hp)
 ·have h2:=T4 hl hy
  have h3:=Gz ((En b).take m);rw[Bf,hl,E2 (by omega)]at h3;rw[EX]at h2;have h4:b<BB^m*(y+1):=by rw[BJ,Dy];omega
  have h5:BB^m*(y+1)<=BB^m*2^(64-s):=CS _ h1;have h6:b*2^s<BB^m*2^(64-s)*2^s:=Qu (CN h4 h5) hp;rw[Br,hpp]at h6;exact h6
theorem WM {l:List Nat}{j a:Nat}(h:l[j]?=some a):AS (l.drop j)=a+BB*AS (l.drop (j+1)):=by
 have hj:j<l.length:=(List.getElem?_eq_some_iff.1 h).1;rw[EU hj,(List.getElem?_eq_some_iff.1 h).2];rfl
theorem PS {l:List Nat}{j a:Nat}(h:j<l.length):(l.set j a).drop j=a::l.drop (j+1):=by
 rw[EU (by rw[DK];exact h)]
 congr 1
 ·exact List.getElem_set_self _
 ·rw[List.drop_set_of_lt (by omega)]
theorem eL {a q:List Nat}{j x b rest:Nat}(hb:0<b)(hx:a[j]?=some x)(hj:j<q.length)(hI:AS (q.drop (j+1))*b+rest=AS (a.drop (j+1))):
  AS ((q.set j ((rest*BB+x)/b)).drop j)*b+(rest*BB+x)%b=AS (a.drop j)/\(rest*BB+x)%b<b:=by
 refine⟨?_,Bz _ hb⟩;rw[PS hj,WM hx,<-hI,AS];have e:=EH (rest*BB+x) b;rw[Bp,BJ BB,Br BB,BP BB rest,BP _ b];omega
theorem O7 {q b r a:Nat}(h:q*b+r=a)(hr:r<b):q=a/b/\r=a%b:=by
 subst h;rw[BP];exact⟨by rw[Nat.mul_add_div (by omega),Gt hr,DL],by rw[Nat.mul_add_mod,DR hr]⟩
structure Kk (X:Nat)(v U q:List Nat)(lu lq k:Nat):Prop where
 lU:U.length=lu
 lQ:q.length=lq
 wU:Wd U
 wq:Wd q
 val:BB^k*AS (q.drop k)*AS v+AS U=X
 less:AS (U.drop k)<AS v
theorem ax {U:List Nat}(j n:Nat):U=U.take j++((U.drop j).take n++U.drop (j+n)):=by
 rw[<-List.drop_drop,Ef,Ef]
theorem iR {X:Nat}{v U q:List Nat}{lu lq j m:Nat}(I:Kk X v U q lu lq (j+1))(hv:v.length=m+2)(wv:Wd v)(v1 v2:Nat)(h2:v[m]?=some v2)(h1:v[m+1]?=some v1)(ht:0<v1)(hj:j+(m+3)<=lu):
  ∃p0 p1 p2,L1 ((U.drop j).take (m+3)) v m p0 p1 p2 v2 v1/\AS (U.drop (j+(m+3)))=0/\AS ((U.drop j).take (m+3))=AS (U.drop j):=by
 obtain⟨lU,lQ,wU,wq,val,less⟩:=I;obtain⟨x,hx⟩:=CH (l:=U) (i:=j) (by omega);have hxl:=wU x (BA hx);have e1:=WM hx;have hlt:AS (U.drop j)<AS v*BB:=by
  have:BB*(AS (U.drop (j+1))+1)<=BB*AS v:=CS _ less
  rw[BJ,BP BB (AS v)]at this;omega
 have hPl:((U.drop j).take (m+3)).length=m+3:=by rw[Bf,DQ];omega
 have e2:AS (U.drop j)=AS ((U.drop j).take (m+3))+BB^(m+3)*AS (U.drop (j+(m+3))):=by
  conv=>lhs;rw[<-Ef (m+3) (U.drop j)]
  rw[JR,hPl,List.drop_drop]
 have hvl:=Gz wv;rw[hv]at hvl;have hz:AS (U.drop (j+(m+3)))=0:=by
  rcases DU (AS (U.drop (j+(m+3))))with h|h
  ·exact h
  ·exfalso
   have e3:BB^(m+3)*1<=BB^(m+3)*AS (U.drop (j+(m+3))):=CS _ h;have e4:AS v*BB<=BB^(m+2)*BB:=CC _ (IY hvl);have e5:BB^(m+2)*BB=BB^(m+3):=(CE BB (m+2)).symm;rw[e5]at e4;omega
 rw[hz,EJ,DL]at e2;obtain⟨p0,h0⟩:=CH (l:=(U.drop j).take (m+3)) (i:=m) (by omega);obtain⟨p1,h3⟩:=CH (l:=(U.drop j).take (m+3)) (i:=m+1) (by omega);obtain⟨p2,h4⟩:=CH (l:=(U.drop j).take (m+3)) (i:=m+2) (by omega);exact⟨p0,p1,p2,⟨hPl,hv,λa ha=>wU a (J9 (H4 ha)),wv,h0,h3,h4,h2,h1,ht,by rw[<-e2];exact hlt⟩,hz,e2.symm⟩
theorem iQ {X:Nat}{v U q P':List Nat}{lu lq j m:Nat}(I:Kk X v U q lu lq (j+1))(hv:0<AS v)(hj:j+(m+3)<=lu)(hjq:j<lq)(hz:AS (U.drop (j+(m+3)))=0)(hP:AS ((U.drop j).take (m+3))=AS (U.drop j))
  (h1:P'.length=m+3) (h2:Wd P') (h3:AS P'=AS ((U.drop j).take (m+3))%AS v) (hd:AS ((U.drop j).take (m+3))/AS v<BB):
  Kk X v (U.take j++(P'++U.drop (j+(m+3)))) (q.set j (AS ((U.drop j).take (m+3))/AS v)) lu lq j:=by
 obtain⟨lU,lQ,wU,wq,val,less⟩:=I;have hA:(U.take j).length=j:=by rw[Bf];omega
 have e0:AS U=AS (U.take j)+BB^j*AS (U.drop j):=by
  conv=>lhs;rw[<-Ef j U]
  rw[JR,hA]
 have e1:AS (P'++U.drop (j+(m+3)))=AS P':=by rw[JR,hz,EJ,DL]
 refine⟨?_,by rw[DK];exact lQ,?_,wq.set hd,?_,?_⟩
 ·rw[Bo,Bo,hA,h1,DQ];omega
 ·exact Wd.append (wU.take j) (Wd.append h2 λa ha=>wU a (J9 ha))
 ·rw[PS (by omega),AS,JR,hA,e1,h3,hP]
  rw[e0]at val;have e2:=EH (AS (U.drop j)) (AS v);have e3:BB^(j+1)*AS (q.drop (j+1))*AS v=BB^j*(BB*AS (q.drop (j+1))*AS v):=by
   rw[CE,Br,Br,Br]
  rw[e3]at val;have e4:BB^j*AS (U.drop j)=BB^j*(AS v*(AS (U.drop j)/AS v))+BB^j*(AS (U.drop j)%AS v):=by
   rw[<-BJ,e2]
  rw[Br,Bp,BJ,BP (AS (U.drop j)/AS v)];omega
 ·rw[List.drop_left' hA,e1,h3]
  exact Bz _ hv
theorem fL {a b s:Nat}{U v:List Nat}{k lu lq:Nat}(hU:AS U=a*2^s)(hv:AS v=b*2^s)(wU:Wd U)(lU:U.length=lu){q:List Nat}(hq:q=List.replicate lq 0)(hk:lq<=k)
  (hab:a<BB^k*b):Kk (a*2^s) v U q lu lq k:=by
 subst hq;refine⟨lU,MV,wU,Lc _,?_,?_⟩
 ·rw[Gq (by rw[MV];exact hk)]
  rw[show AS []=0 from rfl,EJ,GN,BM,hU]
 ·rcases BH (AS (U.drop k)) (AS v)with h|h
  ·exact h
  ·exfalso
   have e0:AS U=AS (U.take k)+BB^(U.take k).length*AS (U.drop k):=by
    conv=>lhs;rw[<-Ef k U]
    rw[JR]
   have hp:0<2^s:=GQ s;have h3:a*2^s<BB^k*b*2^s:=Qu hab hp;rw[Br,<-hv]at h3;rcases BH U.length k with hl|hl
   ·rw[Gq (by omega)]at h
    rw[show AS []=0 from rfl]at h;rw[Nat.le_zero.1 h,EJ]at h3;omega
   ·rw[Bf,E2 hl]at e0
    have:=CS (BB^k) h
    omega
theorem iP {a b s:Nat}{v U q:List Nat}{lu lq:Nat}(I:Kk (a*2^s) v U q lu lq 0)(hv:AS v=b*2^s):AS q=a/b/\AS U=a%b*2^s:=by
 obtain⟨lU,lQ,wU,wq,val,less⟩:=I;simp only[LE,IZ,E6]at val less;obtain⟨h1,h2⟩:=O7 val less;rw[hv,OP _ _ (GQ s)]at h1;rw[hv,OQ]at h2;exact⟨h1,h2⟩
structure NC (U u:List Nat)(s i:Nat):Prop where
 len:u.length=U.length
 wd:Wd u
 rest:∀k,i<=k->u[k]?=U[k]?
 val:∀c,U[i]?=some c->AS (U.take i)+BB^i*(c%2^s)=2^s*AS (u.take i)
theorem eO {U:List Nat}{s r:Nat}(wU:Wd U)(h:AS U=r*2^s)(hs:s<=63):NC U U s 0:=by
 refine⟨rfl,wU,λ_ _=>rfl,λc hc=>?_⟩;have e:=Jb hc;simp only[MY,LE,IZ,AS,BM,EJ]at e⊢;have hpp:2^(64-s)*2^s=BB:=by rw[<-Fd,show 64-s+s=64 by omega]
 have e1:(AS U)%2^s=0:=by rw[h];exact Nat.mul_mod_left _ _
 rw[e,<-hpp,Nat.mul_right_comm,Nat.add_mul_mod_self_right]at e1;exact e1
theorem VF {c d s:Nat}(hs:s<=63)(hc:c<BB):c/2^s ||| d*2^(64-s)%BB=c/2^s+d%2^s*2^(64-s)/\c/2^s+d%2^s*2^(64-s)<BB /\
  c%2^s+2^s*(c/2^s+d%2^s*2^(64-s))=c+BB*(d%2^s):=by
 have hpp:2^s*2^(64-s)=BB:=by rw[<-Fd,show s+(64-s)=64 by omega]
 have h1:d*2^(64-s)%BB=d%2^s*2^(64-s):=by rw[<-hpp,OQ]
 have h2:c/2^s<2^(64-s):=Eg (by rw[hpp];exact hc);have h3:d%2^s<2^s:=Bz _ (GQ s);have h4:(d%2^s+1)*2^(64-s)<=2^s*2^(64-s):=CC _ h3;rw[hpp,Bp,IZ]at h4;have e:=ET c (2^s);refine⟨?_,by omega,?_⟩
 ·rw[h1,Nat.or_comm,TJ h2,KH]
 ·rw[BJ,Hx,hpp,BP (d%2^s)]
  omega
theorem fT {U u:List Nat}{s i c d:Nat}(hs:s<=63)(wU:Wd U)(I:NC U u s i)(hc:U[i]?=some c)(hd:U[i+1]?=some d):
  NC U (u.set i (c/2^s+d%2^s*2^(64-s))) s (i+1):=by
 obtain⟨len,wd,rest,val⟩:=I;have hcl:=wU c (BA hc);obtain⟨_,e2,e3⟩:=VF (d:=d) hs hcl;have hi:i<U.length:=(List.getElem?_eq_some_iff.1 hc).1;refine⟨by rw[DK];exact len,wd.set e2,λk hk=>?_,λc' hc'=>?_⟩
 ·rw[H3 (by omega)];exact rest k (by omega)
 ·rw[hd]at hc'
  cases hc';have v0:=val c hc;rw[PT (by omega),GD (i:=i) (by rw[Bf];omega),El hc,GD (i:=i) (by rw[Bf];omega),BJ,<-v0,CE,Br,Hx (2^s)];have e4:BB^i*(c%2^s+2^s*(c/2^s+d%2^s*2^(64-s)))=BB^i*(c+BB*(d%2^s)):=by rw[e3]
  rw[BJ,BJ (BB^i) c]at e4;omega
theorem fS {U u:List Nat}{s n r:Nat}(I:NC U u s n)(hn:n<U.length)(hU:AS U=r*2^s)(hl:AS U<BB^n):AS (u.take n)=r:=by
 obtain⟨c,hc⟩:=CH hn;have e:=Jb hc;have hz:c+BB*AS (U.drop (n+1))=0:=by
  rcases DU (c+BB*AS (U.drop (n+1)))with h|h
  ·exact h
  ·have:=CS (BB^n) h
   omega
 have hc0:c=0:=by omega
 subst hc0;have v0:=I.val 0 hc;rw[hz,EJ,DL]at e;rw[Nat.zero_mod,EJ,DL,<-e,hU,BP]at v0;exact(Nat.eq_of_mul_eq_mul_left (GQ s) v0).symm
theorem Wu {a b:Nat}(h:a<b):decide (Dh (a:Int) (b:Int)<0)=true:=AZ (by unfold Dh;split<;>(try split)<;>omega)
theorem Pj {a b:Nat}(h:b<=a):decide (Dh (a:Int) (b:Int)<0)=false:=Ag (by unfold Dh;split<;>(try split)<;>omega)
theorem mR {env:An}{t K g n N t2:Nat}{z:List Nat}{T:Nat}{d2:D}(hl:z.length=N)(he:env.get t=.osl K g 1 0 N:=by exact rfl)(h2:env.get t2=d2:=by exact rfl):Wk ⟨env,[⟨K,g,T,1,z.map AR⟩],n⟩ ⟨[(t,.sl false 1 (z.map AR)),(t2,d2)],[],n⟩:=by
 subst hl;refine⟨.drop .nil,⟨?_,?_,trivial⟩,Ae _⟩
 ·dsimp only
  rw[he]
  have:=QD K g T 1 (z.map AR)
  rwa [Ap]at this
 ·dsimp only
  rw[h2];exact .refl _
theorem fO (a b:Nat)(hab:a<b)(ha:(Ad a).length<1000000)(hb:(Ad b).length<1000000):AI C0 209 [wD a,wD b] (.tup [wD (a/b),wD (a%b)]):=by
 rw[Gt hab,DR hab,mP];refine Ah.walk w1 P9 rfl λF=>?_
 have cc:=Pk a b (by omega) (by omega);have e1:=Wu hab;refine sR 0 ?_;refine AC.seq ?_;refine sR 100 ?_;refine cI cc ?_;rw[e1];refine AJ ?_;refine sR 200 ?_;refine Ab ?_;exact⟨_,Y6 (.nil 1) (.refl _),WT (.sl λe he=>by cases he) (Jg _),rfl⟩
theorem iS (a b:Nat)(hab:b<=a)(ha:(Ad a).length<1000000)(hb:(Ad b).length=1)(hb0:b≠0):AI C0 209 [wD a,wD b] (.tup [wD (a/b),wD (a%b)]):=by
 have cc:=Pk a b (by omega) (by omega);have e1:=Pj hab;have hbl:b<BB:=by
  have:=Ij b
  rw[hb,Nat.pow_one]at this;exact this
 have hlb:(Ad b)[0]?=some b:=by rw[LW hb0 hbl];rfl
 have va:=EX a;have wa:=En a;refine Ah.walk w1 P9 rfl λF=>?_
 unfold wD wL at cc⊢;change AC C0 F none F _ _ (QM X1.tt _ (· = .tup [wD (a/b),wD (a%b)]));generalize Ad a=la at*;generalize Ad b=lb at*;have hb':=DF hlb;have e3:((((lb.map AR).length:Nat):Int)==1)=true:=by rw[Ap,hb];rfl
 have ea:(((la.map AR).length:Nat):Int)=(la.length:Int):=by rw[Ap]
 have wl:IntKind.i64.wrap ((la.length:Int)-1)=(la.length:Int)-1:=wI (by omega) (by omega);have r3:List.replicate la.length (ofV (.int .u64 0))=(List.replicate la.length 0).map AR:=by rw[JD];rfl
 refine sR 0 ?_;refine AC.seq ?_;refine sR 100 ?_;refine cI cc ?_;rw[e1];refine AJ ?_;refine Ak ?_;refine AC.seq ?_;refine sZ 300 ?_;refine AT e3 ?_;refine AJ ?_;refine sZ 400 ?_;refine AT (Ac ea kN) ?_;refine sR 500 ?_;refine AC.seq ?_;refine sZ 600 ?_;refine AT (Ac ea wl) ?_;refine AC.block ?_;refine AC.loop (α:=Nat×Nat×List Nat×Nat) (λp=>⟨[(0,.sl false 1 (la.map AR)),(1,.sl false 1 (lb.map AR)),(6,.osl 402 11 1 0 la.length),(7,AR p.2.1),(8,i64 ((p.1:Int)-1))],[⟨402,11,225,1,p.2.2.1.map AR⟩],p.2.2.2⟩) (λp=>p.1)
  (λp=>p.1<=la.length/\p.2.1<b/\p.2.2.1.length=la.length/\Wd p.2.2.1/\AS (p.2.2.1.drop p.1)*b+p.2.1=AS (la.drop p.1)) (la.length,0,List.replicate la.length 0,_)
  ⟨Ae _,Do hb0,by simp,Lc _,by simp[AS]⟩ (by rw[<-r3];exact AL) ?_
 rintro⟨k,r,q,m⟩ F ⟨h1,h2,h3,h4,h5⟩;dsimp only at h1 h2 h3 h4 h5⊢;clear cc e1 e3 ea wl r3;refine AC.seq ?_;refine sR 700 ?_;refine AJ ?_
 (refine Bq (λh20=>?_) (λh20=>?_))<;>(try simp only[Bd,Bn]at h20)<;>(try simp only[h20])
 ·obtain⟨j,rfl⟩:∃j,k=j+1:=⟨k-1,by
   have:(k:Int)-1>=0:=by simpa using h20
   omega⟩
  have wj:((j+1:Nat):Int)-1=(j:Int):=by omega
  obtain⟨x,hx⟩:=CH (l:=la) (i:=j) (by omega);obtain⟨z,hz⟩:=CH (l:=q) (i:=j) (by omega);have hx':=DF hx;have hz':=DF hz;have hxl:=wa x (BA hx);have cd:=WH r x b h2 hxl hbl;obtain⟨J1,J2⟩:=eL (Do hb0) hx (by omega) h5;have hql:(r*BB+x)/b<BB:=by
   refine Eg ?_
   have:(r+1)*BB<=b*BB:=CC _ h2
   rw[Bp]at this;omega
  have wi:IntKind.i64.wrap ((j:Int)-1)=(j:Int)-1:=wI (by omega) (by omega);generalize(r*BB+x)/b=d at*;generalize(r*BB+x)%b=r' at*;rw[wj];refine Ak ?_;refine AC.seq ?_;refine AC.block ?_;refine OF w1 900 [0,1,2,3,4,5,6,7,8,9,10,11,12,13,14,15] [16] 15 [11,9,8,7,6,5,4,3,2,1,0,10,12,14] (402) (by kernel_rfl) (by kernel_rfl) ?_;refine At ?_;refine LJ kN ?_;refine LS rfl rfl rfl rfl ?_;refine Lz (λ_ _=>rfl) (by exact B4) ⟨rfl,by omega⟩ hx' ?_
  try dsimp only[D.cells,spot]
  refine LJ kN ?_;refine LS rfl rfl rfl rfl ?_;refine Lz (λ_ _=>rfl) (by exact B4) ⟨rfl,by omega⟩ hb' ?_
  try dsimp only[D.cells,spot]
  refine LJ kN ?_;refine LS rfl rfl rfl rfl ?_;refine Kf (λ_ _=>rfl) (by exact B4) ?_;refine At ?_;refine BQ.same _ cd AG ?_;refine LJ (Au kN BM hz') ?_;refine And.intro (by first|exact Or.inl AB|exact Or.inl rfl) ?_;refine AD (Ac kN BM) ?_;rw[map_set];refine Am w1 800 (by kernel_rfl) ?_;refine AT wi ?_;exact⟨(j,r',q.set j d,_),⟨by dsimp only;omega,J2,by dsimp only;rw[DK];exact h3,h4.set hql,J1⟩,by dsimp only;omega,AL⟩
 ·have hk:k=0:=by
   have:¬((k:Int)-1>=0):=by simpa using h20
   omega
  subst hk;rw[E6,E6,va]at h5;obtain⟨q1,q2⟩:=O7 h5 h2;refine B6 ?_;refine AC.weak ⟨[(6,.sl false 1 (q.map AR)),(7,AR r)],[],_⟩ (mR h3) ?_;refine sR 1000 ?_;refine Az.same _ (trim_ok q h4 (by omega)) AG ?_;refine BK ?_;have hrl:Wd [r]:=λa ha=>by
   simp only[A0,DC,or_false]at ha;subst ha;exact Fc h2 hbl
  refine Az.pure [wL [r]] _ ⟨.nn true 1 _,trivial⟩ (trim_ok [r] hrl (by simp)) AG ?_;refine BK ?_;refine Ab ?_;exact AO (by rw[q1,q2];simp[AS]) AA.out
set_option maxHeartbeats 4000000
theorem XV {H:Hp}{K g T:Nat}{l:List Nat}{N:Nat}(hl:l.length=N)(he:Hp.get H K=some ⟨K,g,T,1,l.map AR⟩:=by exact rfl):Fz H [] (.osl K g 1 0 N) (.sl false 1 (l.map AR)):=by
 subst hl;have key:∀(j:Nat) (d d':D),(l.map AR)[0+j]?=some d->(l.map AR)[j]?=some d'->d=d':=λj d d' h1 h2=>by
  rw[BM]at h1;rw[h1]at h2;exact Ff h2
 refine .osl (e:=⟨K,g,T,1,l.map AR⟩) he rfl rfl rfl (by simp) (by simp) (λj d d' h1 h2=>by rw[key j d d' h1 h2]) λj d d' q c c' h1 h2 h3 h4=>?_
 rw[key j d d' h1 h2]at h3;rw[h3]at h4;cases h4;exact Fz.refl _
theorem fQ (a b m:Nat)(hab:b<=a)(ha:(Ad a).length<1000000)(hb:(Ad b).length=m+2):AI C0 209 [wD a,wD b] (.tup [wD (a/b),wD (a%b)]):=by
 have hlen:=Gx b a hab;have cc:=Pk a b (by omega) (by omega);have e1:=Pj hab;obtain⟨y,hy⟩:=CH (l:=Ad b) (i:=m+1) (by omega);have y0:=Rq b hb hy;have yl:y<BB:=En b y (BA hy);obtain⟨s,hs,es,t1,t2⟩:=VC y0 yl;have cl:=ak y yl;rw[es]at cl;have hvl:=rq hs hb hy t2;obtain⟨v,hv⟩:∃v,v=Ad (b*2^s):=⟨_,rfl⟩
 have wv:Wd v:=by rw[hv];exact En _
 have vv:AS v=b*2^s:=by rw[hv];exact EX _
 rw[<-hv]at hvl;obtain⟨v1,h1⟩:=CH (l:=v) (i:=m+1) (by omega);obtain⟨v2,h2⟩:=CH (l:=v) (i:=m) (by omega);have v10:v1≠0:=Rq (b*2^s) (by rw[<-hv];exact hvl) (by rw[<-hv];exact h1);have vpos:0<AS v:=by
  rw[vv];refine F6 ?_ (GQ s);refine Do λh=>?_
  subst h;rw[FL]at hb;cases hb
 have va:=EX a;have vb:=EX b;have wa:=En a;have wb:=En b;have hup:=Ij a;have hbge:=Wi hb;refine Ah.walk w1 P9 rfl λF=>?_
 unfold wD wL at cc⊢;change AC C0 F none F _ _ (QM X1.tt _ (· = .tup [wD (a/b),wD (a%b)]));generalize Ad a=la at*;generalize Ad b=lb at*;obtain⟨lq,hlq⟩:∃lq,la.length=lq+(m+2):=⟨la.length-(m+2),by omega⟩
 have hy':=DF hy;have e3:((((lb.map AR).length:Nat):Int)==1)=false:=by rw[Ap,hb];exact B3.2 (by omega)
 have elb:(((lb.map AR).length:Nat):Int)=((m+2:Nat):Int):=by rw[Ap,hb]
 have wlb0:IntKind.i64.wrap (((m+2:Nat):Int)-1)=((m+1:Nat):Int):=by rw[wI (by omega) (by omega)];omega
 have wlb:IntKind.i64.wrap ((((lb.map AR).length:Nat):Int)-1)=((m+1:Nat):Int):=by rw[elb];exact wlb0
 have ea:(((la.map AR).length:Nat):Int)=(la.length:Int):=by rw[Ap]
 have ev:(((v.map AR).length:Nat):Int)=((m+2:Nat):Int):=by rw[Ap,hvl]
 have wq1:IntKind.i64.wrap ((la.length:Int)-((m+2:Nat):Int))=(lq:Int):=by rw[wI (by omega) (by omega)];omega
 have wq2:IntKind.i64.wrap ((lq:Int)+1)=((lq+1:Nat):Int):=by rw[wI (by omega) (by omega)];omega
 have wq1':IntKind.i64.wrap ((la.length:Int)-((m+2:Nat):Int))=((lq+1:Nat):Int)-1:=by rw[wI (by omega) (by omega)];omega
 have wraw:IntKind.i64.wrap (IntKind.i64.wrap ((((la.map AR).length:Nat):Int)-((m+2:Nat):Int))+1)=((lq+1:Nat):Int):=by rw[ea,wq1,wq2]
 have r3:List.replicate (lq+1) (ofV (.int .u64 0))=(List.replicate (lq+1) 0).map AR:=by rw[JD];rfl
 refine sR 0 ?_;refine AC.seq ?_;refine sR 100 ?_;refine cI cc ?_;rw[e1];refine AJ ?_;refine Ak ?_;refine AC.seq ?_;refine sZ 300 ?_;refine AT e3 ?_;refine AJ ?_;refine Ak ?_;refine sZ 1100 ?_;refine AD (Bh wlb elb wlb0 kN) ?_;refine Bl kT hy' ?_;refine AD (Bh wlb elb wlb0 kN) ?_;refine cI cl ?_;refine Ck (α:=Nat) (λn=>⟨[(0,.sl false 1 (la.map AR)),(9,i64 s),(10,.sl false 1 (v.map AR))],[],n⟩) (λ_=>True) ?_ ?_
 ·refine rI 1200 ?_
  refine Az.prop [wL lb,i64 s] _ (EK.refl _) (iD lb s hs wb (by omega)) AG ?_;rintro d ⟨out,o1,o2,o3,rfl⟩;have hvo:wD (AS out)=.sl false 1 (v.map AR):=by rw[o3,vb,hv];rfl
  refine BK ?_;refine Az.same _ (trim_ok out o2 (by omega)) AG ?_;refine BK ?_;simp only[hvo];exact⟨trivial,_,trivial,AL⟩
 rintro n0 -;clear cc e1 e3 elb wlb wlb0 hy' cl es t1 t2 yl y0 hy wb;refine sR 1300 ?_;refine Az.own _ (U9 la s hs wa (by omega) [] _) ?_;rintro d H' n1 ⟨U,gu,u1,u2,u3,rfl,rfl,-⟩;rw[va]at u3;refine BK ?_;refine sZ 1400 ?_;refine AT ev ?_;refine Ck (α:=Nat×Nat) (λp=>⟨[(0,.sl false 1 (la.map AR)),(9,i64 s),(10,.sl false 1 (v.map AR)),(11,.osl 103 gu 1 0 (la.length+1)),(12,i64 ((m+2:Nat):Int)),(13,.osl 1505 p.1 1 0 (lq+1))],[⟨1505,p.1,225,1,(List.replicate (lq+1) 0).map AR⟩,⟨103,gu,225,1,U.map AR⟩],p.2⟩) (λ_=>True) ?_ ?_
 ·refine Am w1 1500 (by kernel_rfl) ?_
  refine AT (C5 ea wq1 wq2 kN r3) ?_;exact⟨trivial,⟨n1+9,n1+20⟩,trivial,by rw[<-r3];exact AL⟩
 rintro⟨g,n2⟩ -;dsimp only;have I0:Kk (a*2^s) v U (List.replicate (lq+1) 0) (la.length+1) (lq+1) (lq+1):=by
  refine fL u3 vv u2 u1 rfl (Ae _) ?_
  have:BB^(lq+1)*BB^(m+1)<=BB^(lq+1)*b:=CS _ hbge
  rw[<-Fd,show lq+1+(m+1)=la.length by omega]at this;omega
 refine AC.seq ?_;refine sZ 1600 ?_;refine AT (Ac ea wq1') ?_;refine AC.block ?_;refine AC.loop (α:=Nat×List Nat×List Nat×Nat) (λp=>⟨[(9,i64 s),(10,.sl false 1 (v.map AR)),(11,.osl 103 gu 1 0 (la.length+1)),(12,i64 ((m+2:Nat):Int)),(13,.osl 1505 g 1 0 (lq+1)),(14,i64 ((p.1:Int)-1))],[⟨1505,g,225,1,p.2.2.1.map AR⟩,⟨103,gu,225,1,p.2.1.map AR⟩],p.2.2.2⟩) (λp=>p.1)
  (λp=>p.1<=lq+1/\Kk (a*2^s) v p.2.1 p.2.2.1 (la.length+1) (lq+1) p.1) (lq+1,U,List.replicate (lq+1) 0,_) ⟨Ae _,I0⟩ AL ?_
 rintro⟨k,u,q,n3⟩ F ⟨hk,I⟩;dsimp only at hk I⊢;clear I0 wq1 wq2 wq1' wraw r3 ea;refine AC.seq ?_;refine sR 1700 ?_;refine AJ ?_
 (refine Bq (λh20=>?_) (λh20=>?_))<;>(try simp only[Bd,Bn]at h20)<;>(try simp only[h20])
 ·obtain⟨j,rfl⟩:∃j,k=j+1:=⟨k-1,by
   have:(k:Int)-1>=0:=by simpa using h20
   omega⟩
  have wj:((j+1:Nat):Int)-1=(j:Int):=by omega
  obtain⟨p0,p1,p2,SI,hz,hP⟩:=iR I hvl wv v1 v2 h2 h1 (Do v10) (by omega);have hA:(u.take j).length=j:=by rw[Bf,I.lU];omega
  have cs:=λn=>mC (u.take j) ((u.drop j).take (m+3)) (u.drop (j+(m+3))) v m p0 p1 p2 v2 v1 SI (by rw[hA];omega) g 225 gu (q.map AR) n
  rw[hA,<-ax j (m+3)]at cs;obtain⟨z,hzq⟩:=CH (l:=q) (i:=j) (by rw[I.lQ];omega);have hz':=DF hzq;have hdl:AS ((u.drop j).take (m+3))/AS v<BB:=Eg SI.less;have wi:IntKind.i64.wrap ((j:Int)-1)=(j:Int)-1:=wI (by omega) (by omega);have wjn1:IntKind.i64.wrap ((j:Int)+((m+2:Nat):Int))=((j+(m+2):Nat):Int):=by rw[wI (by omega) (by omega)];omega
  have wjn2:IntKind.i64.wrap (((j+(m+2):Nat):Int)+1)=((j+(m+3):Nat):Int):=by rw[wI (by omega) (by omega)];omega
  have wraw:IntKind.i64.wrap (IntKind.i64.wrap ((j:Int)+((m+2:Nat):Int))+1)=((j+(m+3):Nat):Int):=by rw[wjn1,wjn2]
  have els:j+(m+3)-j=m+3:=KF _ _;have J:=λP' h1 h2 h3=>iQ (P':=P') I vpos (by omega) (by omega) hz hP h1 h2 h3 hdl
  rw[wj];refine Ak ?_;refine AC.seq ?_;refine AC.block ?_;refine Am w1 1900 (by kernel_rfl) ?_;refine AD (E7 wraw wjn1 wjn2 kN BM els) ?_;refine Az.own _ (cs _) ?_;rintro d H' n4 ⟨P',g1,g2,g3,rfl,rfl⟩;rw[SI.lP]at g1;refine AD (Au kN BM hz') ?_;rw[map_set];refine Am w1 1800 (by kernel_rfl) ?_;refine AT wi ?_;exact⟨(j,u.take j++(P'++u.drop (j+(m+3))),q.set j (AS ((u.drop j).take (m+3))/AS v),_),⟨by dsimp only;omega,J P' g1 g2 g3⟩,by dsimp only;omega,AL⟩
 ·have hk:k=0:=by
   have:¬((k:Int)-1>=0):=by simpa using h20
   omega
  subst hk;obtain⟨q1,q2⟩:=iP I vv;have D0:=eO I.wU q2 hs;have wu:=I.wU;have wqq:=I.wq;have lu:=I.lU;have lqq:=I.lQ;have hlt:AS u<BB^(m+2):=by
   have:=I.less
   rw[E6]at this;have h:=Gz wv;rw[show v.length=m+2 from hvl]at h;omega
  clear I;refine B6 ?_;refine AC.seq ?_;refine sR 2000 ?_;refine AC.block ?_;refine AC.loop (α:=Nat×List Nat×Nat) (λp=>⟨[(9,i64 s),(11,.osl 103 gu 1 0 (la.length+1)),(12,i64 ((m+2:Nat):Int)),(13,.osl 1505 g 1 0 (lq+1)),(96,i64 ((m+2:Nat):Int)),(97,i64 p.1)],[⟨1505,g,225,1,q.map AR⟩,⟨103,gu,225,1,p.2.1.map AR⟩],p.2.2⟩) (λp=>m+2-p.1)
   (λp=>p.1<=m+2/\NC u p.2.1 s p.1) (0,u,_) ⟨BT _,D0⟩ AL ?_
  rintro⟨i,x,n4⟩ F ⟨hi,I⟩;dsimp only at hi I⊢;have xl:=I.len;refine sR 2100 ?_;refine AC.seq ?_;refine AJ ?_
  (refine Bq (λhlt2=>?_) (λhlt2=>?_))<;>(try simp only[Bd,Bn]at hlt2)<;>(try simp only[hlt2])
  ·have hi2:i<m+2:=by
    have:=Cw hlt2
    omega
   obtain⟨c,hc⟩:=CH (l:=u) (i:=i) (by omega);obtain⟨d,hd⟩:=CH (l:=u) (i:=i+1) (by omega);have hcx:x[i]?=some c:=by rw[I.rest i (Ae _)];exact hc
   have hdx:x[i+1]?=some d:=by rw[I.rest (i+1) (by omega)];exact hd
   have hc':=DF hcx;have hcl:=wu c (BA hc);have hdl:=wu d (BA hd);have I2:=fT hs wu I hc hd;obtain⟨g1,g2,_⟩:=VF (d:=d) hs hcl;have esh:=MB c s (by omega);have wi:IntKind.i64.wrap ((i:Int)+1)=((i+1:Nat):Int):=wI (by omega) (by omega);refine Ak ?_;refine AC.seq ?_;refine AC.block ?_;refine sR 2200 ?_;refine sZ 2300 ?_;refine AD (Bh kN BM hc' esh) ?_;rw[map_set];have hxi:i<x.length:=by omega
   have h2c:((x.set i (c/2^s)).map AR)[i]?=some (AR (c/2^s)):=DF (UB hxi);have h2d:((x.set i (c/2^s)).map AR)[i+1]?=some (AR d):=DF (by rw[H3 (by omega)];exact hdx);refine AC.seq ?_;rcases DU s with h0|h0
   ·have e24:decide ((s:Int)>0)=false:=Ag (by omega)
    have es0:x.set i (c/2^s+d%2^s*2^(64-s))=x.set i (c/2^s):=by
     rw[h0,LE,Nat.mod_one,GN,DL]
    rw[es0]at I2;refine Am w1 2400 (by kernel_rfl) ?_;refine AT e24 ?_;refine AD e24 ?_;refine AJ ?_;refine Ak ?_;refine Am w1 2600 (by kernel_rfl) ?_;refine AT wi ?_;exact⟨(i+1,x.set i (c/2^s),_),⟨hi2,I2⟩,by dsimp only;omega,AL⟩
   ·have e24:decide ((s:Int)>0)=true:=AZ (by omega)
    have e24':decide (((i+1:Nat):Int)<((la.length+1:Nat):Int))=true:=AZ (by omega);have w64:IntKind.i64.wrap (64-(s:Int))=((64-s:Nat):Int):=by rw[wI (by omega) (by omega)];omega
    have w640:(0:Int)<=IntKind.i64.wrap (64-(s:Int)):=by rw[w64];omega
    have e27:=Ns d (64-s) (by omega);have e28:GX .or .u64 ((c/2^s:Nat):Int) ((d*2^(64-s)%18446744073709551616:Nat):Int)=((c/2^s+d%2^s*2^(64-s):Nat):Int):=by
     rw[Tv _ _ (DB (GP _ _) hcl) (Bz _ (by decide)),g1]
    have hset:((x.set i (c/2^s)).map AR).set i (AR (c/2^s+d%2^s*2^(64-s)))=(x.set i (c/2^s+d%2^s*2^(64-s))).map AR:=by
     rw[map_set,List.set_set]
    refine Am w1 2400 (by kernel_rfl) ?_;refine AT e24 ?_;refine AD (Au e24 wi e24') ?_;refine AJ ?_;refine B5 w1 2500 [0,1,2,3,4,5,6,7,8,9,10,11] [12,13,14] (by kernel_rfl) ?_;refine AD (CP wi w64 e27 e28 kN BM (Ac h2c h2d)) ?_;refine Dt rfl rfl ?_;refine L0 rfl rfl rfl h2c ?_;refine AD hset ?_;refine Am w1 2600 (by kernel_rfl) ?_;refine AT wi ?_;exact⟨(i+1,x.set i (c/2^s+d%2^s*2^(64-s)),_),⟨hi2,I2⟩,by dsimp only;omega,AL⟩
  ·have hi2:i=m+2:=by
    have:=Cz hlt2
    omega
   subst hi2;have hr:=fS I (by omega) q2 hlt;have wx:=I.wd;refine B6 ?_;refine AC.weak ⟨[(11,.sl false 1 (x.map AR)),(12,i64 ((m+2:Nat):Int)),(13,.sl false 1 (q.map AR))],[],_⟩ ⟨.drop (.drop .nil),⟨XV (by omega),.refl _,XV lqq,trivial⟩,Ae _⟩ ?_;have e4:List.take (m+2-0) (List.drop 0 (x.map AR))=(x.take (m+2)).map AR:=by
    rw[List.map_take];simp
   have e5:List.take (m+2) (x.map AR)=(x.take (m+2)).map AR:=by
    rw[List.map_take]
   have ex:(x.map AR).length=la.length+1:=by rw[Ap];omega
   refine AC.seq ?_;refine B5 w1 2700 [0,1,2,3,4] [5,6,7] (by kernel_rfl) ?_;refine BK ?_;refine BQ.same _ (trim_ok q wqq (by omega)) AG ?_;refine AD (Bh kN Nat.sub_zero (@E6 D) e5) ?_;refine Az.same _ (trim_ok (x.take (m+2)) (wx.take _) (by rw[Bf];omega)) AG ?_;refine BK ?_;refine Ab ?_;exact AO (by rw[q1,hr]) AA.out
theorem ay (a b:Nat)(hb:b≠0)(ha:(Ad a).length<1000000)(hbl:(Ad b).length<1000000):AI C0 209 [wD a,wD b] (.tup [wD (a/b),wD (a%b)]):=by
 rcases BH a b with h|h
 ·exact fO a b h ha hbl
 ·rcases hl:(Ad b).length with _|m
  ·have:=Ij b
   rw[hl]at this;simp at this;exact Aa this hb
  ·rcases m with _|m
   ·exact iS a b h ha hl hb
   ·exact fQ a b m h ha hl
set_option maxHeartbeats 2000000
theorem Nh {x:GI}(h:x.wf)(h0:x.z ≠ -9223372036854775808):x=AV x.z:=by
 obtain⟨z,sm⟩:=x;unfold AV
 congr 1
 cases sm with
 |true=>
  have:=h.1 rfl
  dsimp only at this h0⊢;exact(AZ (show Sm z from⟨by omega,by omega⟩)).symm
 |false=>
  have:=h.2 rfl
  exact(Ag this).symm
theorem DZ (z:Int):(AV z).z=z:=rfl
def Di (x y:GI):GI×GI:=
 if x.sm=true/\y.sm=true/\x.z ≠ -9223372036854775808 then(⟨x.z/y.z,true⟩,⟨x.z%y.z,true⟩)
 else if x.z.tmod y.z<0 then(Hv (AV (x.z.tdiv y.z)) ⟨1,true⟩,Dw (AV (x.z.tmod y.z)) y)else(AV (x.z.tdiv y.z),AV (x.z.tmod y.z))
theorem dt (a b:Int)(hb:0<b):(a.tmod b<0->a.tdiv b-1=a/b/\a.tmod b+b=a%b)/\(¬a.tmod b<0->a.tdiv b=a/b/\a.tmod b=a%b):=by
 have e1:=Int.tdiv_eq_ediv (a:=a) (b:=b);have e2:=Int.tmod_add_mul_tdiv a b;have e3:=Int.emod_add_mul_ediv a b;have e4:=Int.emod_nonneg a (show b≠0 by omega);have e5:=Int.emod_lt_of_pos a hb;have hsg:b.sign=1:=Int.sign_eq_one_of_pos hb;rw[hsg]at e1;split at e1
 ·rw[Int.add_zero]at e1
  rw[e1]at e2;constructor
  ·intro h;omega
  ·intro _;exact⟨e1,by omega⟩
 ·rename_i hc
  have hd:¬b ∣ a:=λh=>hc (Or.inr h)
  have hr:a%b≠0:=λh=>hd (Int.dvd_of_emod_eq_zero h)
  have e6:b*(a/b+1)=b*(a/b)+b:=by rw[Int.mul_add,Int.mul_one]
  rw[e1,e6]at e2;constructor
  ·intro _;exact⟨by omega,by omega⟩
  ·intro h;omega
theorem X6 {x y:GI}(hy:0<y.z):(Di x y).1.z=x.z/y.z/\(Di x y).2.z=x.z%y.z:=by
 obtain⟨f1,f2⟩:=dt x.z y.z hy;unfold Di;split
 ·exact⟨rfl,rfl⟩
 ·split
  ·rename_i h
   rw[ZO,L4];exact f1 h
  ·rename_i h
   exact f2 h
theorem Wx {x y:GI}(hx:x.wf)(hy:y.wf)(h0:0<y.z):(Di x y).1.wf/\(Di x y).2.wf:=by
 unfold Di;split
 ·rename_i h
  have hx1:=hx.1 h.1;have hy1:=hy.1 h.2.1;obtain⟨_,_,h3⟩:=h;have hm:=Int.emod_lt_of_pos x.z h0;have hm2:=Int.emod_nonneg x.z (show y.z≠0 by omega);refine⟨⟨λ_=>?_,λh=>by cases h⟩,⟨λ_=>⟨by dsimp only;omega,by dsimp only;omega⟩,λh=>by cases h⟩⟩;dsimp only;have e3:=Int.emod_add_mul_ediv x.z y.z;constructor
  ·rcases Int.lt_or_le (x.z/y.z) (-9223372036854775808)with h|h
   ·exfalso
    have h8:y.z*(x.z/y.z+1)<=1*(x.z/y.z+1):=Int.mul_le_mul_of_nonpos_right (by omega) (by omega);rw[Int.mul_add,Int.mul_one]at h8;omega
   ·exact h
  ·rcases Int.lt_or_le (x.z/y.z) 9223372036854775808 with h|h
   ·exact h
   ·exfalso
    have h5:(1:Int)*(x.z/y.z)<=y.z*(x.z/y.z):=Int.mul_le_mul_of_nonneg_right (by omega) (by omega);omega
 ·split
  ·exact⟨Xs _ _,Lj _ _⟩
  ·exact⟨CV _,CV _⟩
theorem iC (a b:Int)(hb:0<b):Dj (decide (a<0)) (a.natAbs/b.natAbs)=a.tdiv b/\Dj (decide (a<0)) (a.natAbs%b.natAbs)=a.tmod b:=by
 obtain⟨n,rfl⟩:∃n:Nat,b=n:=⟨b.natAbs,by omega⟩
 rw[Dl]
 by_cases h:a<0
 ·obtain⟨m,rfl⟩:∃m:Nat,a = -(m:Int):=⟨a.natAbs,by omega⟩
  rw[AZ h,LG,Dl,Int.neg_tdiv,Int.neg_tmod];exact⟨rfl,rfl⟩
 ·obtain⟨m,rfl⟩:∃m:Nat,a=(m:Int):=⟨a.natAbs,by omega⟩
  rw[Ag h,Dl];exact⟨rfl,rfl⟩
theorem eM (x y:GI)(hx:x.wf)(hy:y.wf)(h0:0<y.z)(fx:x.few)(fy:y.few)(hn:¬(x.sm=true/\y.sm=true/\x.z ≠ -9223372036854775808)):
  AI C0 240 [x.D,y.D] (.tup [(Di x y).1.D,(Di x y).2.D]):=by
 unfold Di;rw[AE hn];refine Ah.walk w1 S0 rfl λF=>?_
 have cx:=Ik x hx;have cy:=Ik y hy;have cd:=ay x.z.natAbs y.z.natAbs (by omega) fx fy;obtain⟨t1,t2⟩:=iC x.z y.z h0;have lq:(Ad (x.z.natAbs/y.z.natAbs)).length<1000000:=DB (Gx _ _ (GP _ _)) fx;have lr:(Ad (x.z.natAbs%y.z.natAbs)).length<1000000:=DB (Gx _ _ (Nat.mod_le _ _)) fx;have c1:=Ki (decide (x.z<0)) (x.z.natAbs/y.z.natAbs) (Fc lq (by decide));have c2:=Ki (decide (x.z<0)) (x.z.natAbs%y.z.natAbs) (Fc lr (by decide));rw[t1]at c1;rw[t2]at c2;have fq:(AV (x.z.tdiv y.z)).few:=by
  show(Ad (x.z.tdiv y.z).natAbs).length<1000000;rw[Int.natAbs_tdiv];exact lq
 have fr:(AV (x.z.tmod y.z)).few:=by
  show(Ad (x.z.tmod y.z).natAbs).length<1000000;rw[Int.natAbs_tmod];exact lr
 have f1:(⟨1,true⟩:GI).few:=by show(Ad 1).length<1000000;rw[LW (by decide) (by decide)];decide
 have cg:=Lw (AV (x.z.tmod y.z)) (CV _);have cs:=ai (AV (x.z.tdiv y.z)) ⟨1,true⟩ (CV _) ⟨λ_=>⟨by decide,by decide⟩,λh=>by cases h⟩ fq f1;have ca:=Ng (AV (x.z.tmod y.z)) y (CV _) hy fr fy;rw[DZ]at cg;have co:AI C0 152 [i64 1] (⟨1,true⟩:GI).D:=CA DJ 1000 40 (by kernel_rfl);have hpx:AA x.w:=AG;have hpy:AA y.w:=AG;have hpq:AA (AV (x.z.tdiv y.z)).w:=AG;have hpr:AA (AV (x.z.tmod y.z)).w:=AG;have hps:AA (Hv (AV (x.z.tdiv y.z)) ⟨1,true⟩).w:=AG;have hpa:AA (Dw (AV (x.z.tmod y.z)) y).w:=AG;have hp1:AA (⟨1,true⟩:GI).w:=AG;clear t1 t2 lq lr fq fr f1;dsimp only[GI.D]at*;refine fR 0 ?_;refine FF ⟨[(2,.optr 0 0 2 0 0),(3,.optr 1 1 2 0 0),(4,.optr 2 2 2 0 0),(5,.optr 3 3 2 0 0)],[⟨3,3,139,2,[Cp 0]⟩,⟨2,2,139,2,[Cp 0]⟩,⟨1,1,139,2,[.agg [i64 y.s,y.w]]⟩,⟨0,0,139,2,[.agg [i64 x.s,x.w]]⟩],90⟩ ?_ ?_
 ·obtain⟨a,sa⟩:=x
  obtain⟨b,sb⟩:=y;clear cx cy cd c1 c2 cg cs ca co hpq hpr hps hpa hp1;have nx:sa=false->(Ad a.natAbs).map AR≠[]:=λh=>G4 (by
   intro h0;subst h;exact hx.2 rfl ⟨by dsimp only;omega,by dsimp only;omega⟩)
  have ny:sb=false->(Ad b.natAbs).map AR≠[]:=λh=>G4 (by
   intro h0;subst h;exact hy.2 rfl ⟨by dsimp only;omega,by dsimp only;omega⟩)
  unfold GI.s GI.w wD wL at*;dsimp only at*;generalize(Ad a.natAbs).map AR=ka at*;generalize(Ad b.natAbs).map AR=kb at*;cases sa with
  |false=>
   have nx:=nx rfl;dsimp only at*;generalize(if a<0 then(-1:Int)else 1)=sg at*;generalize(match sb with|true=>b|false=>if b<0 then(-1:Int)else 1)=sh at*;generalize(match sb with|true=>CD|false=>D.sl false 1 kb)=wy at*;refine AC.seq ?_;refine Am w1 100 (by kernel_rfl) ?_;refine AT (Au (@ne_eq (List D)) nx EC) ?_;refine AD kT ?_;refine AD kT ?_;refine AD kT ?_;refine AJ ?_;refine Ak ?_;exact And.intro (by trivial) (AL)
  |true=>
   dsimp only at*;cases sb with
   |false=>
    have ny:=ny rfl;dsimp only at*;generalize(if b<0 then(-1:Int)else 1)=sh at*;refine AC.seq ?_;refine Am w1 100 (by kernel_rfl) ?_;refine AT (Au (@ne_eq (List D)) ny EC) ?_;refine AD (Bh kT (@ne_eq (List D)) ny EC) ?_;refine AD (Bh kT (@ne_eq (List D)) ny EC) ?_;refine AD (Bh kT (@ne_eq (List D)) ny EC) ?_;refine AJ ?_;refine Ak ?_;exact And.intro (by trivial) (AL)
   |true=>
    have ha:a = -9223372036854775808:=Cq λh=>hn ⟨rfl,rfl,h⟩
    subst ha;dsimp only at*;refine sZ 100 ?_
    repeat'(first|(refine And.intro (by exact B4) ?_;refine At ?_)|((refine Bq (λhb=>?_) (λhb=>?_))<;>(try simp only[Bd,Bn]at hb)<;>(try simp only[hb])<;>(refine At ?_)))
    refine AJ ?_;refine Ak ?_;exact And.intro (by trivial) (AL)
 ·refine fR 600 ?_
  refine dI cx ?_;refine fR 700 ?_;refine dI cy ?_;refine fR 800 ?_;refine dI cd ?_;refine fR 900 ?_;refine dI c1 ?_;refine dI c2 ?_;refine AC.seq ?_;refine fR 1000 ?_;refine dI cg ?_
  by_cases h:x.z.tmod y.z<0
  ·have e:decide (max (-1) (min 1 (x.z.tmod y.z))<0)=true:=AZ (by omega)
   rw[AH h,e];refine AJ ?_;refine B5 w1 1100 [0,1,2,3,4] [5,6,7] (by kernel_rfl) ?_;refine B7 ?_;refine BQ.same _ (co) AG ?_;refine B7 ?_;refine BQ.same _ (cs) AG ?_;refine B7 ?_;refine dI ca ?_;refine AC.seq ?_;refine OF w1 1200 [0,1,2] [3] 2 [0] (2) (by kernel_rfl) (by kernel_rfl) ?_;refine B7 ?_;refine B7 ?_;refine Ab ?_;exact AO rfl AA.out
  ·have e:decide (max (-1) (min 1 (x.z.tmod y.z))<0)=false:=Ag (by omega)
   rw[AE h,e];refine AJ ?_;refine Ak ?_;refine AC.seq ?_;refine OF w1 1200 [0,1,2] [3] 2 [0] (2) (by kernel_rfl) (by kernel_rfl) ?_;refine B7 ?_;refine B7 ?_;refine Ab ?_;exact AO rfl AA.out
theorem WJ (x y:GI)(hx:x.wf)(hy:y.wf)(h0:0<y.z)(fx:x.few)(fy:y.few):AI C0 240 [x.D,y.D] (.tup [(Di x y).1.D,(Di x y).2.D]):=by
 by_cases h:x.sm=true/\y.sm=true/\x.z ≠ -9223372036854775808
 ·unfold Di
  rw[AH h];obtain⟨a,sa⟩:=x;obtain⟨b,sb⟩:=y;obtain⟨h1,h2,h3⟩:=h;dsimp only at h1 h2 h3 h0;subst h1;subst h2;have ra:=hx.1 rfl;have rb:=hy.1 rfl;dsimp only at ra rb;exact fN a b h0 ⟨by omega,by omega⟩ ⟨by omega,by omega⟩
 ·exact eM x y hx hy h0 fx fy h
theorem aZ (x y:GI)(hx:x.wf)(hy:y.wf)(h0:0<y.z)(fx:x.few)(fy:y.few):AI C0 196 [x.D,y.D] (Di x y).1.D:=by
 refine Ah.walk w1 YV rfl λF=>?_
 have cg:=Lw y hy;have cd:=WJ x y hx hy h0 fx fy;have e1:decide (max (-1) (min 1 y.z)<0)=false:=Ag (by omega);have hpx:AA x.w:=AG;have hpy:AA y.w:=AG;have hpq:AA (Di x y).1.w:=AG;have hpr:AA (Di x y).2.w:=AG;dsimp only[GI.D]at*;generalize(Di x y).1.s=qs at*;generalize(Di x y).1.w=qw at*;generalize(Di x y).2.s=rs at*;generalize(Di x y).2.w=rw at*;refine fR 0 ?_;refine AC.seq ?_;refine fR 100 ?_;refine dI cg ?_;rw[e1];refine AJ ?_;refine Ak ?_;refine fR 300 ?_;refine dI cd ?_;refine fR 400 ?_;refine Ab ?_;exact AO rfl AA.out
theorem W2 (x:GI)(h:x.wf):K5 x=AV (x.z.natAbs:Nat):=by
 have h1:=kJ x h;have h2:=lg x;rw[Nh h1 (by omega),h2]
theorem HX {n:Nat}(h:(Ad n).length<1000000):(AV (n:Int)).few:=by
 show(Ad (n:Int).natAbs).length<1000000;rw[Dl];exact h
theorem WI {a b:Nat}(hb:0<b):Di (AV a) (AV b)=(AV ((a/b:Nat):Int),AV ((a%b:Nat):Int)):=by
 have hb':(0:Int)<(AV (b:Int)).z:=by show(0:Int)<(b:Int);omega
 obtain⟨h1,h2⟩:=Wx (CV a) (CV b) hb';obtain⟨h3,h4⟩:=X6 (x:=AV a) hb';have e3:(Di (AV a) (AV b)).1.z=((a/b:Nat):Int):=by rw[h3];exact(Int.natCast_ediv a b).symm
 have e4:(Di (AV a) (AV b)).2.z=((a%b:Nat):Int):=by rw[h4];exact(Int.natCast_emod a b).symm
 have c3:=Nh h1 (by rw[e3];generalize a/b=q;omega);have c4:=Nh h2 (by rw[e4];generalize a%b=q;omega);rw[e3]at c3;rw[e4]at c4;generalize Di (AV a) (AV b)=p at*;obtain⟨p1,p2⟩:=p;dsimp only at c3 c4;rw[c3,c4]
theorem aQ (x y:GI)(hx:x.wf)(hy:y.wf)(fx:x.few)(fy:y.few):AI C0 195 [x.D,y.D] (AV (Nat.gcd x.z.natAbs y.z.natAbs:Nat)).D:=by
 refine Ah.walk w1 YU rfl λF=>?_
 have c1:=Zz x hx fx;have c2:=Zz y hy fy;rw[W2 x hx]at c1;rw[W2 y hy]at c2;have hpx:AA x.w:=AG;have hpy:AA y.w:=AG;have hpm:∀n:Nat,AA (AV (n:Int)).w:=λn=>AG
 unfold GI.few at fx fy;generalize x.z.natAbs=a at*;generalize y.z.natAbs=b at*;dsimp only[GI.D]at*;refine fR 0 ?_;refine AC.seq ?_;refine B5 w1 100 [0,1,2] [3,4,5] (by kernel_rfl) ?_;refine B7 ?_;refine BQ.same _ (c1) AG ?_;refine B7 ?_;refine dI c2 ?_;refine AC.seq ?_;refine AC.block ?_;refine AC.loop (α:=Nat×Nat×Nat) (λp=>⟨[(2,.optr 0 0 2 0 0),(3,.optr 1 1 2 0 0),(4,.optr 2 2 2 0 0)],[⟨2,2,139,2,[Cp 0]⟩,⟨1,1,139,2,[.agg [i64 (AV (p.2.1:Int)).s,(AV (p.2.1:Int)).w]]⟩,⟨0,0,139,2,[.agg [i64 (AV (p.1:Int)).s,(AV (p.1:Int)).w]]⟩],p.2.2⟩) (λp=>p.2.1)
  (λp=>Nat.gcd p.1 p.2.1=Nat.gcd a b/\(Ad p.1).length<1000000/\(Ad p.2.1).length<1000000) (a,b,_) ⟨rfl,fx,fy⟩ AL ?_
 rintro⟨u,v,n⟩ F ⟨g1,g2,g3⟩;dsimp only at g1 g2 g3⊢;have cg:=Lw (AV (v:Int)) (CV _);rw[DZ]at cg;dsimp only[GI.D]at cg;refine AC.seq ?_;refine fR 200 ?_;refine dI cg ?_;rcases DU v with hv|hv
 ·subst hv
  have e2:(max (-1) (min 1 ((0:Nat):Int)) != 0)=false:=by decide
  rw[e2];refine AJ ?_;refine B6 ?_;refine fR 500 ?_;refine Ab ?_;refine AO ?_ AA.out;rw[<-g1,Nat.gcd_zero_right]
 ·have e2:(max (-1) (min 1 (v:Int)) != 0)=true:=by
   have:max (-1) (min 1 (v:Int))=1:=by omega
   rw[this];rfl
  have cd:=WJ (AV (u:Int)) (AV (v:Int)) (CV _) (CV _) (by show(0:Int)<(v:Int);omega) (HX g2) (HX g3);rw[WI hv]at cd;dsimp only[GI.D]at cd;rw[e2];refine AJ ?_;refine Ak ?_;refine AC.block ?_;refine fR 300 ?_;refine dI cd ?_;refine OF w1 400 [0,1,2] [3] 2 [0] (0) (by kernel_rfl) (by kernel_rfl) ?_;refine B7 ?_;refine B7 ?_;have hm:u%v<v:=Bz u hv;refine⟨(v,u%v,_),⟨?_,g3,DB (Gx _ _ (Nat.mod_le _ _)) g2⟩,hm,AL⟩;rw[<-g1,MZ u v,Nat.gcd_rec v u,MZ]
structure GF where
 n:GI
 d:Nat
abbrev GF.D (x:GF):D:=.agg [i64 x.n.s,x.n.w,i64 (AV (x.d:Int)).s,(AV (x.d:Int)).w]
def HQ (r:Rat)(x:GF):Prop:=x.n.wf/\x.n.z=r.num/\x.d=r.den
theorem kD {a b:Nat}(hb:0<b)(h:(Ad b).length<1000000):(Ad (Nat.gcd a b)).length<1000000:=DB (Gx _ _ (Nat.gcd_le_right _ hb)) h
def Hm (x:GI)(d:Nat):GF:=if d=1 then⟨x,1⟩else⟨(Di x (AV (Nat.gcd x.z.natAbs d:Nat))).1,d/Nat.gcd x.z.natAbs d⟩
theorem PM (x:GI)(d:Nat)(hx:x.wf)(hd:0<d):HQ (mkRat x.z d) (Hm x d):=by
 have hg:0<Nat.gcd x.z.natAbs d:=OI _ hd;have e:mkRat x.z d=Rat.normalize x.z d (by omega):=(Rat.normalize_eq_mkRat _).symm;rw[e,Rat.normalize_eq];unfold Hm;split
 ·rename_i h
  subst h;refine⟨hx,?_,?_⟩
  ·dsimp only;rw[Nat.gcd_one_right];simp
  ·dsimp only;rw[Nat.gcd_one_right]
 ·have hg':(0:Int)<(AV (Nat.gcd x.z.natAbs d:Nat)).z:=by show(0:Int)<(Nat.gcd x.z.natAbs d:Nat);omega
  exact⟨(Wx hx (CV _) hg').1,(X6 hg').1,rfl⟩
theorem TD:AV ((1:Nat):Int)=⟨1,true⟩:=Iq ⟨by decide,by decide⟩
theorem QU {d:Nat}(h:Sm (d:Int)):(AV (d:Int)).s=(d:Int)/\(AV (d:Int)).w=CD:=by rw[Iq h];exact⟨rfl,rfl⟩
theorem Tt {d:Nat}(h:¬Sm (d:Int)):(AV (d:Int)).s=1/\(AV (d:Int)).w=.sl false 1 ((Ad d).map AR)/\(Ad d).map AR≠[]:=by
 rw[TC h];refine⟨?_,rfl,G4 ?_⟩
 ·show(if(d:Int)<0 then(-1:Int)else 1)=1
  rw[AE (by omega)]
 ·intro h0
  subst h0;exact h ⟨by decide,by decide⟩
def Jm (x y:GI):GF:=Hm (if y.z<0 then AV (-x.z)else x) y.z.natAbs
theorem jV (x y:GI)(hx:x.wf)(h0:y.z≠0):HQ (Rat.divInt x.z y.z) (Jm x y):=by
 unfold Jm
 by_cases h:y.z<0
 ·rw[AH h]
  have:=PM (AV (-x.z)) y.z.natAbs (CV _) (by omega)
  rw[DZ]at this;have e:mkRat (-x.z) y.z.natAbs=Rat.divInt x.z y.z:=by
   obtain⟨k,hk⟩:∃k,y.z=Int.negSucc k:=by
    cases hy:y.z with
    |ofNat n=>rw[hy]at h;simp at h;omega
    |negSucc k=>exact⟨k,rfl⟩
   rw[hk];show mkRat (-x.z) (k+1)=_;exact(Rat.normalize_eq_mkRat (by omega)).symm
  rw[e]at this;exact this
 ·rw[AE h]
  have:=PM x y.z.natAbs hx (by omega)
  have e:mkRat x.z y.z.natAbs=Rat.divInt x.z y.z:=by
   rw[<-Rat.divInt_ofNat];congr 1;omega
  rw[e]at this;exact this
theorem Y8 (x y:GI)(hx:x.wf)(hy:y.wf)(h0:y.z≠0)(fx:x.few)(fy:y.few):AI C0 150 [x.D,y.D] (Jm x y).D:=by
 refine Ah.walk w1 Y2 rfl λF=>?_
 have cg:=Lw y hy;have cn1:=No x hx fx;have cn2:=No y hy fy;obtain⟨x',hx'⟩:∃x',x'=if y.z<0 then AV (-x.z)else x:=⟨_,rfl⟩
 have wx':x'.wf:=by rw[hx'];split;exact CV _;exact hx
 have fx':x'.few:=by rw[hx'];split;exact XP fx;exact fx
 have hd:0<y.z.natAbs:=by omega
 have fd:(Ad y.z.natAbs).length<1000000:=fy;have fdg:=HX fd;have ey:y.z<0->AV (-y.z)=AV (y.z.natAbs:Int):=λh=>by congr 1;omega
 have ey':¬y.z<0->y=AV (y.z.natAbs:Int):=λh=>by
  rw[Nh hy (by omega)];show AV y.z=AV (y.z.natAbs:Int)
  congr 1;omega
 unfold Jm;rw[<-hx'];generalize hdd:y.z.natAbs=d at*;have hpx:AA x.w:=AG;have hpy:AA y.w:=AG;have hpx':AA x'.w:=AG;have hpd:AA (AV (d:Int)).w:=AG;have hg:0<Nat.gcd x'.z.natAbs d:=OI _ hd;have cc:=aQ x' (AV (d:Int)) wx' (CV _) fx' fdg;rw[DZ,Dl]at cc;have fgg:(AV (Nat.gcd x'.z.natAbs d:Nat)).few:=HX (kD hd fd);have cq1:=aZ x' (AV (Nat.gcd x'.z.natAbs d:Nat)) wx' (CV _) (by show(0:Int)<(Nat.gcd x'.z.natAbs d:Nat);omega) fx' fgg;have cq2:=aZ (AV (d:Int)) (AV (Nat.gcd x'.z.natAbs d:Nat)) (CV _) (CV _) (by show(0:Int)<(Nat.gcd x'.z.natAbs d:Nat);omega) fdg fgg;rw[WI hg]at cq2;have hpg:AA (AV ((Nat.gcd x'.z.natAbs d:Nat):Int)).w:=AG;have hpq1:AA (Di x' (AV (Nat.gcd x'.z.natAbs d:Nat))).1.w:=AG;have hpq2:AA (AV ((d/Nat.gcd x'.z.natAbs d:Nat):Int)).w:=AG;unfold Hm GF.D;dsimp only[GI.D]at*;refine fR 0 ?_;refine FF ⟨[(2,.optr 0 0 2 0 0),(3,.optr 1 1 2 0 0),(4,.optr 2 2 4 0 0)],[⟨2,2,141,4,[.agg [i64 0,CD,i64 0,CD]]⟩,⟨1,1,139,2,[.agg [i64 (AV (d:Int)).s,(AV (d:Int)).w]]⟩,⟨0,0,139,2,[.agg [i64 x'.s,x'.w]]⟩],90⟩ ?_ ?_
 ·by_cases h:y.z<0
  ·have e1:decide (max (-1) (min 1 y.z)<0)=true:=AZ (by omega)
   rw[AH h]at hx';subst hx';rw[<-ey h];refine fR 100 ?_;refine dI cg ?_;rw[e1];refine AJ ?_;refine B5 w1 200 [0,1,2] [3,4,5] (by kernel_rfl) ?_;refine B7 ?_;refine BQ.same _ (cn1) AG ?_;refine B7 ?_;refine dI cn2 ?_;exact⟨rfl,AL⟩
  ·have e1:decide (max (-1) (min 1 y.z)<0)=false:=Ag (by omega)
   rw[AE h]at hx';subst hx';have ey:=ey' h;refine fR 100 ?_;refine dI cg ?_;rw[e1];refine AJ ?_;refine Ak ?_;rw[<-ey];exact⟨rfl,AL⟩
 by_cases h1:d=1
 ·subst h1
  rw[AH rfl,TD];refine AC.seq ?_;refine sZ 300 ?_
  repeat'(first|(refine And.intro (by exact B4) ?_;refine At ?_)|((refine Bq (λhb=>?_) (λhb=>?_))<;>(try simp only[Bd,Bn]at hb)<;>(try simp only[hb])<;>(refine At ?_)))
  refine AJ ?_;refine fR 400 ?_;refine Ab ?_;exact AO rfl AA.out
 ·rw[AE h1]
  refine FF ⟨[(2,.optr 0 0 2 0 0),(3,.optr 1 1 2 0 0),(4,.optr 2 2 4 0 0)],[⟨2,2,141,4,[.agg [i64 0,CD,i64 0,CD]]⟩,⟨1,1,139,2,[.agg [i64 (AV (d:Int)).s,(AV (d:Int)).w]]⟩,⟨0,0,139,2,[.agg [i64 x'.s,x'.w]]⟩],98⟩ ?_ ?_
  ·by_cases hs:Sm (d:Int)
   ·obtain⟨a1,a2⟩:=QU hs
    rw[a1,a2];have e2:((d:Int)==1)=false:=B3.2 (by omega);refine sZ 300 ?_
    repeat'(first|(refine And.intro (by exact B4) ?_;refine At ?_)|((refine Bq (λhb=>?_) (λhb=>?_))<;>(try simp only[Bd,Bn]at hb)<;>(try simp only[hb])<;>(refine At ?_)))
    try simp only[e2]
    refine AJ ?_;refine Ak ?_;exact⟨rfl,⟨GW _,⟨.refl _,.refl _,.refl _,trivial⟩,Ae _⟩⟩
   ·obtain⟨a1,a2,a3⟩:=Tt hs
    rw[a1,a2];generalize(Ad d).map AR=l at*;refine AC.seq ?_;refine Am w1 300 (by kernel_rfl) ?_;refine AT (Au (@ne_eq (List D)) a3 EC) ?_;refine AD kT ?_;refine AJ ?_;refine Ak ?_;exact⟨rfl,⟨GW _,⟨.refl _,.refl _,.refl _,trivial⟩,Ae _⟩⟩
  ·refine fR 500 ?_
   refine dI cc ?_;refine AC.seq ?_;refine B5 w1 600 [0,1,2,3,4] [5,6,7] (by kernel_rfl) ?_;refine B7 ?_;refine BQ.same _ (cq1) AG ?_;refine B7 ?_;refine dI cq2 ?_;refine Ab ?_;exact AO rfl AA.out
def rk (r:Rat)(k:Nat):Prop:=(Ad r.num.natAbs).length<=k/\(Ad r.den).length<=k
theorem rk.mono {r:Rat}{k l:Nat}(h:rk r k)(hl:k<=l):rk r l:=⟨BO h.1 hl,BO h.2 hl⟩
theorem Pe {n:Int}{d k:Nat}(hd:d≠0)(h1:(Ad n.natAbs).length<=k)(h2:(Ad d).length<=k):rk (Rat.normalize n d hd) k:=by
 rw[Rat.normalize_eq];exact⟨BO (Gx _ _ (Int.natAbs_ediv_le_natAbs _ _)) h1,BO (Gx _ _ (GP _ _)) h2⟩
theorem JU (a b:Int):(Ad (a*b).natAbs).length<=(Ad a.natAbs).length+(Ad b.natAbs).length:=by
 rw[MX];exact KR _ _
theorem VS (a b:Int):(Ad (a+b).natAbs).length<=max (Ad a.natAbs).length (Ad b.natAbs).length+1:=
 BO (Gx _ _ (Int.natAbs_add_le a b)) (VX _ _)
theorem S9 {a b:Rat}{i j:Nat}(ha:rk a i)(hb:rk b j):rk (a+b) (i+j+1):=by
 rw[Rat.add_def];have h1:=JU a.num b.den;have h2:=JU b.num a.den;have h3:=VS (a.num*b.den) (b.num*a.den);have h4:=KR a.den b.den;rw[Dl]at h1 h2;obtain⟨a1,a2⟩:=ha;obtain⟨b1,b2⟩:=hb;exact Pe _ (by omega) (by omega)
theorem TT {a b:Rat}{i j:Nat}(ha:rk a i)(hb:rk b j):rk (a*b) (i+j):=by
 rw[Rat.mul_def];have h1:=JU a.num b.num;have h4:=KR a.den b.den;obtain⟨a1,a2⟩:=ha;obtain⟨b1,b2⟩:=hb;exact Pe _ (by omega) (by omega)
structure FR (r:Rat)(x:GF)(k:Nat):Prop where
 is:HQ r x
 rk:rk r k
theorem FR.fn {r:Rat}{x:GF}{k:Nat}(h:FR r x k)(hk:k<1000000):x.n.few:=by
 show(Ad x.n.z.natAbs).length<1000000;rw[h.is.2.1];have:=h.rk.1;omega
theorem FR.ln {r:Rat}{x:GF}{k:Nat}(h:FR r x k):(Ad x.n.z.natAbs).length<=k:=by rw[h.is.2.1];exact h.rk.1
theorem FR.ld {r:Rat}{x:GF}{k:Nat}(h:FR r x k):(Ad x.d).length<=k:=by rw[h.is.2.2];exact h.rk.2
theorem FR.dpos {r:Rat}{x:GF}{k:Nat}(h:FR r x k):0<x.d:=by rw[h.is.2.2];exact r.den_pos
theorem N7 (x:GI)(d:Nat)(hx:x.wf)(fx:(Ad x.z.natAbs).length<400000)(fd:(Ad d).length<400000):AI C0 151 [x.D,(AV (d:Int)).D] (AV (x.z*d)).D:=by
 have:=am x (AV (d:Int)) hx (CV _) fx (by rw[DZ,Dl];exact fd)
 rwa [DZ]at this
theorem Tu (c d:Nat)(fc:(Ad c).length<400000)(fd:(Ad d).length<400000):AI C0 151 [(AV (c:Int)).D,(AV (d:Int)).D] (AV ((c*d:Nat):Int)).D:=by
 have:=N7 (AV (c:Int)) d (CV _) (by rw[DZ,Dl];exact fc) fd
 rw[DZ,<-EG]at this;exact this
theorem Wm (x:GI)(d:Nat)(hx:x.wf)(hd:0<d)(fx:x.few)(fd:(Ad d).length<1000000):AI C0 150 [x.D,(AV (d:Int)).D] (Hm x d).D:=by
 have:=Y8 x (AV (d:Int)) hx (CV _) (by rw[DZ];omega) fx (HX fd)
 unfold Jm at this;rw[DZ,AE (by omega),Dl]at this;exact this
theorem Rp (x:GF)(hd:0<x.d):AI C0 153 [x.D] (Aq (decide (x.d=1))):=by
 refine Ah.walk w1 Y4 rfl λF=>?_
 obtain⟨y,d⟩:=x;dsimp only[GF.D]at hd⊢;have hpy:AA y.w:=AG;generalize y.s=ys at*;generalize y.w=yw at*
 by_cases hs:Sm (d:Int)
 ·obtain⟨a1,a2⟩:=QU hs
  rw[a1,a2];have e2:((d:Int)==1)=decide (d=1):=by
   rw[F7,Dp,decide_eq_true_iff];omega
  refine fR 0 ?_;refine sZ 100 ?_
  repeat'(first|(refine And.intro (by exact B4) ?_;refine At ?_)|((refine Bq (λhb=>?_) (λhb=>?_))<;>(try simp only[Bd,Bn]at hb)<;>(try simp only[hb])<;>(refine At ?_)))
  try simp only[e2]
  refine Ab ?_;exact AO rfl AA.out
 ·obtain⟨a1,a2,a3⟩:=Tt hs
  rw[a1,a2];have e2:decide (d=1)=false:=Ag λh=>hs (by rw[h];exact⟨by decide,by decide⟩)
  rw[e2];generalize(Ad d).map AR=l at*;refine fR 0 ?_;refine AC.seq ?_;refine Am w1 100 (by kernel_rfl) ?_;refine AT (Au (@ne_eq (List D)) a3 EC) ?_;refine AD kT ?_;refine Ab ?_;exact AO rfl AA.out
def I8 (x y:GF):GF:=if x.d=1/\y.d=1 then⟨Dw x.n y.n,1⟩else Hm (Dw (AV (x.n.z*y.d)) (AV (y.n.z*x.d))) (x.d*y.d)
theorem kK {a b:Rat}{x y:GF}(hx:HQ a x)(hy:HQ b y):HQ (a+b) (I8 x y):=by
 obtain⟨x1,x2,x3⟩:=hx;obtain⟨y1,y2,y3⟩:=hy;rw[Rat.add_def,Rat.normalize_eq_mkRat,<-x2,<-x3,<-y2,<-y3];unfold I8;split
 ·rename_i h
  rw[h.1,h.2];refine⟨Lj _ _,?_,?_⟩
  ·dsimp only
   rw[L4];show _=(mkRat (x.n.z*1+y.n.z*1) 1).num;rw[Int.mul_one,Int.mul_one,Rat.mkRat_one,Rat.num_intCast]
  ·dsimp only
   show _=(mkRat (x.n.z*1+y.n.z*1) 1).den;rw[Rat.mkRat_one,Rat.den_intCast]
 ·have:=PM (Dw (AV (x.n.z*y.d)) (AV (y.n.z*x.d))) (x.d*y.d) (Lj _ _) (F6 (by rw[x3];exact a.den_pos) (by rw[y3];exact b.den_pos))
  rw[L4,DZ,DZ]at this;exact this
theorem Xm (x:GI):AI C0 148 [x.D] (⟨x,1⟩:GF).D:=by
 refine Ah.walk w1 Sv rfl λF=>?_
 have hpx:AA x.w:=AG;unfold GF.D;rw[TD];dsimp only[GI.D]at*;refine fR 0 ?_;refine AC.seq ?_;refine B5 w1 100 [0,1] [2,3] (by kernel_rfl) ?_;refine B7 ?_;refine BQ.same _ (Np 1) AG ?_;refine B7 ?_;refine Ab ?_;exact AO rfl AA.out
theorem Pz {a b:Rat}{x y:GF}{i j:Nat}(hx:FR a x i)(hy:FR b y j)(hk:i+j<300000):AI C0 106 [x.D,y.D] (I8 x y).D:=by
 refine Ah.walk w1 Yi rfl λF=>?_
 have v1:=Rp x hx.dpos;have v2:=Rp y hy.dpos;have l1:=hx.ln;have l2:=hy.ln;have l3:=hx.ld;have l4:=hy.ld;have dp:=F6 hx.dpos hy.dpos;have m1:=N7 x.n y.d hx.is.1 (by omega) (by omega);have m2:=N7 y.n x.d hy.is.1 (by omega) (by omega);have m3:=Tu x.d y.d (by omega) (by omega);have z1:=JU x.n.z y.d;have z2:=JU y.n.z x.d;rw[Dl]at z1 z2;have z3:=VS (x.n.z*y.d) (y.n.z*x.d);have z4:=KR x.d y.d;have s1:=Ng (AV (x.n.z*y.d)) (AV (y.n.z*x.d)) (CV _) (CV _) (by show(Ad (x.n.z*y.d).natAbs).length<1000000;omega) (by show(Ad (y.n.z*x.d).natAbs).length<1000000;omega);have s0:=Ng x.n y.n hx.is.1 hy.is.1 (hx.fn (by omega)) (hy.fn (by omega));have mk:=Wm (Dw (AV (x.n.z*y.d)) (AV (y.n.z*x.d))) (x.d*y.d) (Lj _ _) dp (by
  show(Ad (Dw (AV (x.n.z*y.d)) (AV (y.n.z*x.d))).z.natAbs).length<1000000;rw[L4,DZ,DZ];omega) (by omega)
 have wg:=Xm (Dw x.n y.n);have hp1:AA x.n.w:=AG;have hp2:AA y.n.w:=AG;have hp3:AA (AV (x.d:Int)).w:=AG;have hp4:AA (AV (y.d:Int)).w:=AG;have hp5:AA (Dw x.n y.n).w:=AG;have hp6:AA (Dw (AV (x.n.z*y.d)) (AV (y.n.z*x.d))).w:=AG;have hp7:AA (AV (x.n.z*y.d)).w:=AG;have hp8:AA (AV (y.n.z*x.d)).w:=AG;have hp9:AA (AV ((x.d*y.d:Nat):Int)).w:=AG;have hq1:AA (Hm (Dw (AV (x.n.z*y.d)) (AV (y.n.z*x.d))) (x.d*y.d)).n.w:=AG;have hq2:AA (AV ((Hm (Dw (AV (x.n.z*y.d)) (AV (y.n.z*x.d))) (x.d*y.d)).d:Int)).w:=AG;have hq3:AA (AV ((1:Nat):Int)).w:=AG;unfold I8;clear z1 z2 z3 z4 l1 l2 l3 l4 dp hk hx hy;dsimp only[GI.D,GF.D]at*
 by_cases e1:x.d=1
 ·have fb:decide (x.d=1)=true:=AZ e1
  rw[fb]at v1
  by_cases e2:y.d=1
  ·have fd:decide (y.d=1)=true:=AZ e2
   rw[fd]at v2;rw[AH ⟨e1,e2⟩];refine fR 0 ?_;refine AC.seq ?_;refine fR 100 ?_;refine dI v1 ?_;dsimp only[MD];refine B7 ?_;dsimp only[MD];refine B7 ?_;refine dI v2 ?_;refine AJ ?_;refine fR 200 ?_;refine dI s0 ?_;refine dI wg ?_;refine Ab ?_;exact AO rfl AA.out
  ·have fd:decide (y.d=1)=false:=Ag e2
   rw[fd]at v2;rw[AE λh=>e2 h.2];refine fR 0 ?_;refine AC.seq ?_;refine fR 100 ?_;refine dI v1 ?_;dsimp only[MD];refine B7 ?_;dsimp only[MD];refine B7 ?_;refine dI v2 ?_;refine AJ ?_;refine Ak ?_;refine AC.seq ?_;refine B5 w1 300 [0,1,2,3,4,5,6,7,8,9,10,11,12,13,14] [15,16,17] (by kernel_rfl) ?_;refine B7 ?_;refine BQ.same _ (m1) AG ?_;refine B7 ?_;refine BQ.same _ (m2) AG ?_;refine B7 ?_;refine BQ.same _ (s1) AG ?_;refine B7 ?_;refine dI m3 ?_;refine dI mk ?_;refine Ab ?_;exact AO rfl AA.out
 ·have fb:decide (x.d=1)=false:=Ag e1
  rw[fb]at v1;rw[AE λh=>e1 h.1];refine fR 0 ?_;refine AC.seq ?_;refine fR 100 ?_;refine dI v1 ?_;dsimp only[QO];refine B7 ?_;dsimp only[QO];refine B7 ?_;refine AJ ?_;refine Ak ?_;refine AC.seq ?_;refine B5 w1 300 [0,1,2,3,4,5,6,7,8,9,10,11,12,13,14] [15,16,17] (by kernel_rfl) ?_;refine B7 ?_;refine BQ.same _ (m1) AG ?_;refine B7 ?_;refine BQ.same _ (m2) AG ?_;refine B7 ?_;refine BQ.same _ (s1) AG ?_;refine B7 ?_;refine dI m3 ?_;refine dI mk ?_;refine Ab ?_;exact AO rfl AA.out
theorem Pa {a b:Rat}{x y:GF}{i j:Nat}(hx:FR a x i)(hy:FR b y j):FR (a+b) (I8 x y) (i+j+1):=⟨kK hx.is hy.is,S9 hx.rk hy.rk⟩
def Hu (x y:GF):GF:=Hm (AV (x.n.z*y.n.z)) (x.d*y.d)
theorem lR {a b:Rat}{x y:GF}(hx:HQ a x)(hy:HQ b y):HQ (a*b) (Hu x y):=by
 obtain⟨x1,x2,x3⟩:=hx;obtain⟨y1,y2,y3⟩:=hy;rw[Rat.mul_def,Rat.normalize_eq_mkRat,<-x2,<-x3,<-y2,<-y3]
 have:=PM (AV (x.n.z*y.n.z)) (x.d*y.d) (CV _) (F6 (by rw[x3];exact a.den_pos) (by rw[y3];exact b.den_pos))
 rw[DZ]at this;exact this
theorem Sb {a b:Rat}{x y:GF}{i j:Nat}(hx:FR a x i)(hy:FR b y j):FR (a*b) (Hu x y) (i+j):=⟨lR hx.is hy.is,TT hx.rk hy.rk⟩
theorem Su {a b:Rat}{x y:GF}{i j:Nat}(hx:FR a x i)(hy:FR b y j)(hk:i+j<300000):AI C0 104 [x.D,y.D] (Hu x y).D:=by
 refine Ah.walk w1 Yg rfl λF=>?_
 have l1:=hx.ln;have l2:=hy.ln;have l3:=hx.ld;have l4:=hy.ld;have dp:=F6 hx.dpos hy.dpos;have z1:=JU x.n.z y.n.z;have z4:=KR x.d y.d;have m1:=am x.n y.n hx.is.1 hy.is.1 (by omega) (by omega);have m3:=Tu x.d y.d (by omega) (by omega);have mk:=Wm (AV (x.n.z*y.n.z)) (x.d*y.d) (CV _) dp (by show(Ad (x.n.z*y.n.z).natAbs).length<1000000;omega) (by omega);have p1:AA x.n.w:=AG;have p2:AA y.n.w:=AG;have p3:AA (AV (x.d:Int)).w:=AG;have p4:AA (AV (y.d:Int)).w:=AG;have p5:AA (AV (x.n.z*y.n.z)).w:=AG;have p6:AA (AV ((x.d*y.d:Nat):Int)).w:=AG;have p7:AA (Hm (AV (x.n.z*y.n.z)) (x.d*y.d)).n.w:=AG;have p8:AA (AV ((Hm (AV (x.n.z*y.n.z)) (x.d*y.d)).d:Int)).w:=AG;unfold Hu;clear l1 l2 l3 l4 dp z1 z4 hx hy;dsimp only[GI.D,GF.D]at*;refine fR 0 ?_;refine AC.seq ?_;refine B5 w1 100 [0,1,2,3,4,5,6,7,8] [9,10,11] (by kernel_rfl) ?_;refine B7 ?_;refine BQ.same _ (m1) AG ?_;refine B7 ?_;refine dI m3 ?_;refine dI mk ?_;refine Ab ?_;exact AO rfl AA.out
def I6 (x:GF):GF:=Jm (AV (x.d:Int)) x.n
theorem lH {a:Rat}{x:GF}(hx:HQ a x)(h0:a≠0):HQ a⁻¹ (I6 x):=by
 obtain⟨x1,x2,x3⟩:=hx;have hn:x.n.z≠0:=by
  rw[x2];intro h;exact h0 (Rat.num_eq_zero.1 h)
 rw[Rat.inv_def,<-x2,<-x3];exact jV (AV (x.d:Int)) x.n (CV _) hn
theorem qx {a:Rat}{k:Nat}(h:rk a k)(h0:a≠0):rk a⁻¹ k:=by
 rw[Rat.inv_def];obtain⟨h1,h2⟩:=h;have hn:a.num≠0:=λh=>h0 (Rat.num_eq_zero.1 h)
 rcases Int.lt_or_gt_of_ne hn with h|h
 ·obtain⟨m,hm⟩:∃m,a.num=Int.negSucc m:=by
   cases hy:a.num with
   |ofNat n=>rw[hy]at h;simp at h;omega
   |negSucc k=>exact⟨k,rfl⟩
  rw[hm]at h1⊢;exact Pe (n:=-(a.den:Int)) (d:=m+1) (by omega) (by rw[LG,Dl];exact h2) h1
 ·obtain⟨m,hm⟩:∃m:Nat,a.num=(m:Int):=⟨a.num.natAbs,by omega⟩
  rw[hm]at h1 h⊢;rw[Rat.divInt_ofNat,<-Rat.normalize_eq_mkRat (by omega)];exact Pe _ (by rw[Dl];exact h2) (by rw[Dl]at h1;exact h1)
theorem XF {a:Rat}{x:GF}{k:Nat}(h:FR a x k)(h0:a≠0):FR a⁻¹ (I6 x) k:=⟨lH h.is h0,qx h.rk h0⟩
theorem mX {a:Rat}{x:GF}{k:Nat}(h:FR a x k)(h0:a≠0)(hk:k<1000000):AI C0 158 [x.D] (I6 x).D:=by
 refine Ah.walk w1 YD rfl λF=>?_
 have l3:=h.ld;have hn:x.n.z≠0:=by
  rw[h.is.2.1];intro h;exact h0 (Rat.num_eq_zero.1 h)
 have mk:=Y8 (AV (x.d:Int)) x.n (CV _) h.is.1 hn (HX (by omega)) (h.fn hk);have p1:AA x.n.w:=AG;have p3:AA (AV (x.d:Int)).w:=AG;have p7:AA (Jm (AV (x.d:Int)) x.n).n.w:=AG;have p8:AA (AV ((Jm (AV (x.d:Int)) x.n).d:Int)).w:=AG;unfold I6;dsimp only[GI.D,GF.D]at*;refine fR 0 ?_;refine fR 100 ?_;refine dI mk ?_;refine Ab ?_;exact AO rfl AA.out
def Qh (x y:GF):GF:=Hu x (I6 y)
theorem jw {a b:Rat}{x y:GF}{i j:Nat}(hx:FR a x i)(hy:FR b y j)(h0:b≠0):FR (a/b) (Qh x y) (i+j):=by
 rw[Rat.div_def];exact Sb hx (XF hy h0)
theorem mV {a b:Rat}{x y:GF}{i j:Nat}(hx:FR a x i)(hy:FR b y j)(h0:b≠0)(hk:i+j<300000):AI C0 110 [x.D,y.D] (Qh x y).D:=by
 refine Ah.walk w1 Yn rfl λF=>?_
 have c1:=mX hy h0 (by omega);have c2:=Su hx (XF hy h0) hk;have p1:AA x.n.w:=AG;have p2:AA y.n.w:=AG;have p3:AA (AV (x.d:Int)).w:=AG;have p4:AA (AV (y.d:Int)).w:=AG;have p5:AA (I6 y).n.w:=AG;have p6:AA (AV ((I6 y).d:Int)).w:=AG;have p7:AA (Hu x (I6 y)).n.w:=AG;have p8:AA (AV ((Hu x (I6 y)).d:Int)).w:=AG;unfold Qh;dsimp only[GI.D,GF.D]at*;refine fR 0 ?_;refine AC.seq ?_;refine B5 w1 100 [0,1,2] [3,4] (by kernel_rfl) ?_;refine B7 ?_;refine BQ.same _ (c1) AG ?_;refine B7 ?_;refine dI c2 ?_;refine Ab ?_;exact AO rfl AA.out
def Ky (a b:Rat):Int:=if a<b then -1 else if b<a then 1 else 0
theorem nM (a b:Rat):Dh (a.num*b.den) (b.num*a.den)=Ky a b:=by
 unfold Dh Ky;simp only[Rat.lt_iff]
theorem mU {a b:Rat}{x y:GF}{i j:Nat}(hx:FR a x i)(hy:FR b y j)(hk:i+j<300000):AI C0 232 [x.D,y.D] (i64 (Ky a b)):=by
 refine Ah.walk w1 ZV rfl λF=>?_
 have l1:=hx.ln;have l2:=hy.ln;have l3:=hx.ld;have l4:=hy.ld;have m1:=N7 x.n y.d hx.is.1 (by omega) (by omega);have m2:=N7 y.n x.d hy.is.1 (by omega) (by omega);have z1:=JU x.n.z y.d;have z2:=JU y.n.z x.d;rw[Dl]at z1 z2;have cm:=rf (AV (x.n.z*y.d)) (AV (y.n.z*x.d)) (CV _) (CV _) (by show(Ad (x.n.z*y.d).natAbs).length<1000000;omega) (by show(Ad (y.n.z*x.d).natAbs).length<1000000;omega);have e:Dh (AV (x.n.z*y.d)).z (AV (y.n.z*x.d)).z=Ky a b:=by
  rw[DZ,DZ,<-nM,hx.is.2.1,hx.is.2.2,hy.is.2.1,hy.is.2.2]
 rw[e]at cm;have p1:AA x.n.w:=AG;have p2:AA y.n.w:=AG;have p3:AA (AV (x.d:Int)).w:=AG;have p4:AA (AV (y.d:Int)).w:=AG;have p5:AA (AV (x.n.z*y.d)).w:=AG;have p6:AA (AV (y.n.z*x.d)).w:=AG;clear l1 l2 l3 l4 z1 z2 e hx hy;dsimp only[GI.D,GF.D]at*;refine fR 0 ?_;refine AC.seq ?_;refine B5 w1 100 [0,1,2,3,4,5,6,7,8] [9,10,11] (by kernel_rfl) ?_;refine B7 ?_;refine BQ.same _ (m1) AG ?_;refine B7 ?_;refine dI m2 ?_;refine dI cm ?_;refine Ab ?_;exact AO rfl AA.out
def FX (a:Rat):Int:=max (-1) (min 1 a.num)
theorem XU {a:Rat}{x:GF}(hx:HQ a x):AI C0 183 [x.D] (i64 (FX a)):=by
 refine Ah.walk w1 YK rfl λF=>?_
 have cg:=Lw x.n hx.1;rw[hx.2.1]at cg;have p1:AA x.n.w:=AG;have p3:AA (AV (x.d:Int)).w:=AG;unfold FX;dsimp only[GI.D,GF.D]at*;refine fR 0 ?_;refine fR 100 ?_;refine dI cg ?_;refine Ab ?_;exact AO rfl AA.out
abbrev sb (l:List UInt8):ByteArray:=⟨l.toArray⟩
theorem CL (l:List UInt8):(sb l).size=l.length:=by simp[ByteArray.size]
theorem D9 (l:List UInt8)(i j:Nat):(sb l).extract i j=sb ((l.take j).drop i):=by
 apply ByteArray.ext;rw[ByteArray.data_extract];simp[List.drop_take]
theorem Xq (l:List UInt8):(sb l).toList=l:=by
 rw[ByteArray.toList_eq]
theorem EQ (l m:List UInt8):Bb (sb l) (sb m)=decide (l=m):=by
 unfold Bb;rw[Xq,Xq,F7,Dp,decide_eq_true_iff]
def C9 (l:List UInt8):Bool:=match l with
 | []=>false
 |c::_=>c==45
def Bi (l:List UInt8):List UInt8:=if C9 l then l.drop 1 else l
def BC (l:List UInt8):Nat:=(l.takeWhile (· != 47)).length
theorem Ic (l:List UInt8):BC l<=l.length:=by
 unfold BC;exact(List.takeWhile_sublist _).length_le
theorem bu (l:List UInt8):Lib.indexByte l 47=if BC l<l.length then(BC l:Int)else -1:=by
 induction l with
 |nil=>rfl
 |cons c l ih=>
  unfold Lib.indexByte
  by_cases h:c=47
  ·subst h
   simp[BC]
  ·have e1:BC (c::l)=BC l+1:=by
    unfold BC;rw[Mb,AH (by simpa using h),Bk]
   have hb:(c==47)=false:=by simpa using h
   rw[hb,ih,e1,Bk]
   by_cases h2:BC l<l.length
   ·have h3:BC l+1<l.length+1:=by omega
    have h4:(((BC l:Nat):Int) == -1)=false:=B3.2 (by omega);simp only[h2,h3,h4,if_true,HO,if_false];omega
   ·have h3:¬BC l+1<l.length+1:=by omega
    simp only[h2,h3,HO,if_false];rfl
theorem VO (l:List UInt8)(hl:l.length<=1000000000):AI C0 235 [str (sb l),str (sb [45])] (Aq (C9 l)):=by
 refine Ah.walk w1 ZY rfl λF=>?_
 have hsz:=CL l;have hs1:=CL [45];refine sR 0 ?_;refine AC.seq ?_;cases l with
 |nil=>
  have e1:decide (((sb []).size:Int)>=((sb [45]).size:Int))=false:=rfl;refine Am w1 100 (by kernel_rfl) ?_;refine AT e1 ?_;refine AD e1 ?_;refine AD e1 ?_;refine Ab ?_;exact AO rfl AA.out
 |cons c l=>
  have e1:decide (((sb (c::l)).size:Int)>=((sb [45]).size:Int))=true:=AZ (by rw[hsz,hs1];simp only[Bk,GL];omega);have e2:(sb (c::l)).extract 0 ((((sb [45]).size:Nat):Int)).toNat=sb [c]:=by rw[D9];rfl
  have e3:Bb (sb [c]) (sb [45])=C9 (c::l):=by
   rw[EQ,C9,F7,decide_eq_true_iff,Dp];simp
  have h0:(0:Int)<=((sb [45]).size:Int):=by omega
  have h1:((sb [45]).size:Int)<=((sb (c::l)).size:Int):=by rw[hsz,hs1];simp only[Bk,GL];omega
  refine Am w1 100 (by kernel_rfl) ?_;refine AT e1 ?_;refine AD (Au e1 e2 e3) ?_;refine AD (Au e1 e2 e3) ?_;refine Ab ?_;exact AO rfl AA.out
theorem cQ (l:List UInt8)(hl:l.length<=1000000000):AI C0 189 [str (sb l),str (sb [45])] (Aq (C9 l)):=by
 refine Ah.walk w1 YQ rfl λF=>?_
 have c1:=VO l hl;generalize sb l=s at*;generalize C9 l=b at*;refine fR 0 ?_;refine fR 100 ?_;refine dI c1 ?_;refine Ab ?_;exact AO rfl AA.out
theorem dU (l:List UInt8)(hl:l.length<=1000000000):AI C0 236 [str (sb l),str (sb [45])] (str (sb (Bi l))):=by
 refine Ah.walk w1 ZZ rfl λF=>?_
 have c1:=VO l hl;have hsz:=CL l;unfold Bi;refine sR 0 ?_;refine AC.seq ?_;refine sR 100 ?_;refine cI c1 ?_;rcases hb:C9 l with _|_
 ·rw[AE (by simp)]
  refine AJ ?_;refine Ak ?_;refine sR 300 ?_;refine Ab ?_;exact AO rfl AA.out
 ·rw[AH rfl]
  have h1:(0:Int)<=((sb [45]).size:Int):=by omega
  have h2:((sb [45]).size:Int)<=((sb l).size:Int):=by
   rw[hsz];show(1:Int)<=_;cases l with
   |nil=>cases hb
   |cons c l=>simp only[Bk];omega
  have e2:(sb l).extract (((sb [45]).size:Nat):Int).toNat (sb l).size=sb (l.drop 1):=by
   rw[D9,hsz,B1 (Ae _)];rfl
  refine AJ ?_;refine sZ 200 ?_;refine AT e2 ?_;refine Ab ?_;exact AO rfl AA.out
theorem RG (l:List UInt8)(hl:l.length<=1000000000):AI C0 190 [str (sb l),str (sb [45])] (str (sb (Bi l))):=by
 refine Ah.walk w1 YR rfl λF=>?_
 have c1:=dU l hl;generalize sb l=s at*;generalize sb (Bi l)=t at*;refine fR 0 ?_;refine fR 100 ?_;refine dI c1 ?_;refine Ab ?_;exact AO rfl AA.out
theorem eX (l:List UInt8):AI C0 273 [str (sb l),.prim (.int .u8 47)] (i64 (if BC l<l.length then(BC l:Int)else -1)):=by
 refine Ah.walk w1 Zg rfl λF=>?_
 have e1:firstIdx (sb l) (((47:Int)).toNat.toUInt8)=(if BC l<l.length then(BC l:Int)else -1):=by
  rw[Lib.firstIdx_eq];exact bu l
 generalize(if BC l<l.length then(BC l:Int)else -1)=r at*;refine fR 0 ?_;refine AC.seq ?_;refine Am w1 100 (by kernel_rfl) ?_;refine AT e1 ?_;refine Ab ?_;exact AO rfl AA.out
theorem i8 (l:List UInt8)(hl:l.length<=1000000000):AI C0 234 [str (sb l),str (sb [47])] (i64 (if BC l<l.length then(BC l:Int)else -1)):=by
 refine Ah.walk w1 ZX rfl λF=>?_
 have c1:=eX l;have eS:=EQ [47] l;have hr:[47]=l->(if BC l<l.length then(BC l:Int)else -1)=0:=λh=>by subst h;rfl
 generalize(if BC l<l.length then(BC l:Int)else -1)=r at*;have e0:(((sb [47]).size:Int)==0)=false:=rfl;have e1:(((sb [47]).size:Int)==1)=true:=rfl;have hx:(((sb [47]).data.toList.getD ((0:Int)).toNat 0).toNat:Int)=47:=rfl;refine sR 0 ?_;refine sR 100 ?_;refine AC.seq ?_;refine AC.block ?_
 by_cases h:[47]=l
 ·rw[AZ h]at eS
  have hr:=hr h;subst hr;refine sZ 200 ?_;refine AT e0 ?_;refine AD (Au e0 kF eS) ?_;refine AD (Au e0 kF eS) ?_;refine AJ ?_;refine sR 300 ?_;refine Ab ?_;exact AO rfl AA.out
 ·rw[Ag h]at eS
  refine sZ 200 ?_;refine AT e0 ?_;refine AD (Au e0 kF eS) ?_;refine AD (Au e0 kF eS) ?_;refine AJ ?_;refine sZ 400 ?_;refine AT e1 ?_;refine AJ ?_;refine sZ 500 ?_;refine AT hx ?_;refine cI c1 ?_;refine Ab ?_;exact AO rfl AA.out
theorem uW (l:List UInt8)(hl:l.length<=1000000000):AI C0 188 [str (sb l),str (sb [47])] (.tup [str (sb (l.take (BC l))),str (sb (l.drop (BC l+1))),Aq (decide (BC l<l.length))]):=by
 refine Ah.walk w1 YP rfl λF=>?_
 have c1:=i8 l hl;have hsz:=CL l;have hle:=Ic l;refine sR 0 ?_
 by_cases h:BC l<l.length
 ·rw[AH h]at c1
  have e1:decide (((BC l:Nat):Int)>=0)=true:=AZ (by omega);have e2:(sb l).extract 0 (((BC l:Nat):Int)).toNat=sb (l.take (BC l)):=by rw[D9];rfl
  have w3:IntKind.i64.wrap (((BC l:Nat):Int)+((sb [47]).size:Int))=((BC l+1:Nat):Int):=by
   show IntKind.i64.wrap (((BC l:Nat):Int)+1)=_;rw[wI (by omega) (by omega)];omega
  have e3:(sb l).extract (((BC l+1:Nat):Int)).toNat (sb l).size=sb (l.drop (BC l+1)):=by
   rw[D9,hsz,B1 (Ae _)];rfl
  rw[AZ h];refine AC.seq ?_;refine sR 100 ?_;refine cI c1 ?_;refine sZ 200 ?_;refine AT e1 ?_;refine AJ ?_;refine AC.seq ?_;refine B5 w1 300 [0,1,2,3,4,5,6,7,8,9] [10,11] (by kernel_rfl) ?_;refine AD (Au w3 e2 e3) ?_;refine Ab ?_;exact AO rfl AA.out
 ·rw[AE h]at c1
  have hk:BC l=l.length:=by omega
  have e1:decide (((-1:Int))>=0)=false:=rfl;rw[Ag h,hk,B1 (Ae _),Gq (by omega)];refine AC.seq ?_;refine sR 100 ?_;refine cI c1 ?_;refine sZ 200 ?_;refine AT e1 ?_;refine AJ ?_;refine Ak ?_;refine sR 400 ?_;refine Ab ?_;exact AO rfl AA.out
theorem X3 (l:List UInt8)(hl:l.length<=1000000000):AI C0 147 [str (sb l),str (sb [47])] (.tup [str (sb (l.take (BC l))),str (sb (l.drop (BC l+1))),Aq (decide (BC l<l.length))]):=by
 refine Ah.walk w1 Y0 rfl λF=>?_
 have c1:=uW l hl;generalize sb l=s at*;generalize sb (l.take (BC l))=t at*;generalize sb (l.drop (BC l+1))=u at*;generalize decide (BC l<l.length)=b at*;refine fR 0 ?_;refine fR 100 ?_;refine dI c1 ?_;refine Ab ?_;exact AO rfl AA.out
theorem km (a b:Nat)(ha:a<=9223372036854775807)(hb:b<=9223372036854775807):AI C0 171 [i64 a,i64 b] (i64 (Nat.gcd a b:Nat)):=by
 refine Ah.walk w1 oR rfl λF=>?_
 refine fR 0 ?_;refine AC.seq ?_;refine AC.block ?_;refine AC.loop (α:=Nat×Nat×Nat) (λp=>⟨[(0,i64 p.1),(1,i64 p.2.1)],[],p.2.2⟩) (λp=>p.2.1) (λp=>Nat.gcd p.1 p.2.1=Nat.gcd a b/\p.1<=9223372036854775807/\p.2.1<=9223372036854775807) (a,b,_) ⟨rfl,ha,hb⟩ AL ?_;rintro⟨x,y,n⟩ F ⟨h1,h2,h3⟩;dsimp only at h1 h2 h3⊢;refine AC.seq ?_;refine fR 100 ?_;refine AJ ?_
 (refine Bq (λhy=>?_) (λhy=>?_))<;>(try simp only[Bd,Bn]at hy)<;>(try simp only[hy])
 ·have hy':(y:Int)>0:=by simpa using hy
  refine Ak ?_;refine AC.block ?_;refine B5 w1 200 [0,1,2,3,4] [5] (by kernel_rfl) ?_;refine B7 ?_
  have:(x:Int).tmod y=((x%y:Nat):Int):=rfl
  rw[this];refine⟨(y,x%y,_),⟨?_,h3,?_⟩,?_,AL⟩
  ·rw[<-h1,MZ x y,Nat.gcd_rec y x,MZ]
  ·have:=Bz x (show y>0 by omega);dsimp only;omega
  ·exact Bz x (show y>0 by omega)
 ·have hy':y=0:=by simp at hy;omega
  subst hy';refine B6 ?_;refine fR 300 ?_;refine Ab ?_;refine AO ?_ AA.out;rw[<-h1,Nat.gcd_zero_right]
def K6 (least:Nat)(l:List UInt8):List UInt8:=List.replicate (least-l.length) 48++l
def EY (least m:Nat)(s:List UInt8):List UInt8:=K6 least (if m=0 then s else Lib.decDigits m++s)
theorem Ug (least m:Nat)(s:List UInt8)(h:0<m\/s.length<least):EY least (m/10) (UInt8.ofNat (48+m%10)::s)=EY least m s:=by
 unfold EY
 by_cases h0:m=0
 ·subst h0
  have hl:s.length<least:=h.resolve_left (by omega);rw[AH (by omega),AH rfl];unfold K6;obtain⟨k,hk⟩:∃k,least-s.length=k+1:=⟨least-s.length-1,by omega⟩
  rw[hk,show least-(UInt8.ofNat (48+0%10)::s).length=k from by simp;omega,List.replicate_succ'];simp
 ·rw[AE h0]
  by_cases h1:m<10
  ·rw[AH (by omega)]
   have:Lib.decDigits m=[UInt8.ofNat (48+m)]:=by unfold Lib.decDigits;rw[dif_pos h1]
   rw[this,show m%10=m from by omega];rfl
  ·rw[AE (by omega)]
   have:Lib.decDigits m=Lib.decDigits (m/10)++[UInt8.ofNat (48+m%10)]:=by rw[Lib.decDigits];rw[dif_neg h1]
   rw[this,Dk];rfl
theorem jN (k:Nat)(hk:k<10):(⟨#[48,49,50,51,52,53,54,55,56,57]⟩:ByteArray).extract k (k+1)=⟨([UInt8.ofNat (48+k)]:List UInt8).toArray⟩:=by
 match k,hk with
 | 0,_=>rfl
 | 1,_=>rfl
 | 2,_=>rfl
 | 3,_=>rfl
 | 4,_=>rfl
 | 5,_=>rfl
 | 6,_=>rfl
 | 7,_=>rfl
 | 8,_=>rfl
 | 9,_=>rfl
theorem On (a least:Nat)(ha:a+least<=9223372036854775807):AI C0 172 [i64 a,i64 least] (str ⟨(EY least a []).toArray⟩):=by
 refine Ah.walk w1 oS rfl λF=>?_
 refine fR 0 ?_;refine fR 100 ?_;refine AC.seq ?_;refine AC.block ?_;refine AC.loop (α:=Nat×List UInt8×Nat) (λp=>⟨[(0,i64 p.1),(1,i64 least),(5,str ⟨p.2.1.toArray⟩)],[],p.2.2⟩) (λp=>p.1+(least-p.2.1.length))
  (λp=>EY least p.1 p.2.1=EY least a []/\p.1+p.2.1.length<=a+least) (a,[],_) ⟨rfl,by simp⟩ AL ?_
 rintro⟨m,s,n⟩ F ⟨h1,h2⟩;dsimp only at h1 h2⊢;have hsz:=NF s;refine AC.seq ?_;refine FF ⟨[(0,i64 m),(1,i64 least),(5,str ⟨s.toArray⟩),(13,Aq (decide ((m:Int)>0)||decide ((s.length:Int)<least)))],[],n+30⟩ (Am w1 200 (by kernel_rfl) ?_) ?_
 ·repeat'(first|(refine And.intro (by exact B4) ?_;refine At ?_)|((refine Bq (λhb=>?_) (λhb=>?_))<;>(try simp only[Bd,Bn]at hb)<;>(try simp only[hb])<;>(refine At ?_)))
  all_goals exact AL
 refine AJ ?_
 (refine Bq (λhc=>?_) (λhc=>?_))<;>(try simp only[Bd,Bn]at hc)<;>(try simp only[hc])
 ·have hc:0<m\/s.length<least:=by
   simp at hc;omega
  refine Ak ?_;refine AC.block ?_;refine AC.seq ?_;have hm:(m:Int).tmod 10=((m%10:Nat):Int):=rfl;have e2:IntKind.i64.wrap (((m%10:Nat):Int)+1)=((m%10+1:Nat):Int):=wI (by omega) (by omega);have hd:=jN (m%10) (by omega);have hs1:(⟨([UInt8.ofNat (48+m%10)]:List UInt8).toArray⟩:ByteArray).size=1:=rfl;have hlen:s.length+1<=9223372036854775807:=by omega
  have hs10:(⟨#[48,49,50,51,52,53,54,55,56,57]⟩:ByteArray).size=10:=rfl;refine Am w1 300 (by kernel_rfl) ?_;refine JK (Bh hm e2 kN hd) ?_;refine fI 400 ?_;have hm4:(m:Int).tdiv 10=((m/10:Nat):Int):=rfl;have hm5:m/10<=9223372036854775807:=by omega
  rw[hm4,wN hm5,II,ED,FZ];refine⟨(m/10,UInt8.ofNat (48+m%10)::s,_),⟨(Ug least m s hc).trans h1,?_⟩,?_,AL⟩
  ·simp only[Bk];omega
  ·simp only[Bk];omega
 ·have hc:m=0/\least<=s.length:=by
   simp at hc;omega
  obtain⟨rfl,hl⟩:=hc;refine B6 ?_;refine fR 500 ?_;refine Ab ?_;refine AO ?_ AA.out;rw[<-h1];unfold EY K6;rw[AH rfl,Nat.sub_eq_zero_of_le hl];rfl
theorem Ww (a:Nat):EY 1 a []=Lib.decDigits a:=by
 unfold EY K6
 by_cases h:a=0
 ·subst h
  have:Lib.decDigits 0=[48]:=by unfold Lib.decDigits;rw[dif_pos (by decide)];rfl
  rw[AH rfl,this];rfl
 ·rw[AE h,DV]
  have:(Lib.decDigits a).length≠0:=by
   unfold Lib.decDigits;split<;>simp
  rw[show 1-(Lib.decDigits a).length=0 from by omega];rfl
def Da (K g sz:Nat):List D->D
 | []=>CD
 |_::l=>.osl K g sz 0 (l.length+1)
def DW (K g T sz:Nat):List D->Hp
 | []=>[]
 |x::l=>[⟨K,g,T,sz,x::l⟩]
theorem G1 (K g sz:Nat):Da K g sz []=CD:=rfl
theorem Fi (K g sz:Nat)(x:D)(l:List D):Da K g sz (x::l)=.osl K g sz 0 (l.length+1):=rfl
theorem G3 (K g T sz:Nat):DW K g T sz []=[]:=rfl
theorem Fj (K g T sz:Nat)(x:D)(l:List D):DW K g T sz (x::l)=[⟨K,g,T,sz,x::l⟩]:=rfl
theorem Mw (K g sz:Nat)(x y:D)(l:List D):Da K g sz (x::l++[y])=.osl K g sz 0 (l.length+1+1):=by simp[Da]
theorem QC (K g T sz:Nat)(l:List D):Fz (DW K g T sz l) [] (Da K g sz l) (.sl false sz l):=by
 cases l with
 |nil=>exact .nil sz
 |cons x l=>
  refine .osl (e:=⟨K,g,T,sz,x::l⟩) (by simp[DW,Hp.get]) rfl rfl rfl (by simp) (by simp) (λj d d' h1 h2=>?_) λj d d' q c c' h1 h2 h3 h4=>?_
  ·rw[BM]at h1;rw[h1]at h2;cases h2;rfl
  ·rw[BM]at h1;rw[h1]at h2;cases h2;rw[h3]at h4;cases h4;exact Fz.refl _
def spot (a b c d:Nat):D:=.agg [i64 (a/Nat.gcd a b:Nat),CD,i64 (b/Nat.gcd a b:Nat),CD,i64 (c/Nat.gcd c d:Nat),CD,i64 (d/Nat.gcd c d:Nat),CD]
instance  (a b c d:Nat):Aj (spot a b c d):=by unfold spot;exact AG
instance  {α:Type}(f:α->List D)(l:List α)[h:∀x,BU (f x)]:BU (l.flatMap f):=⟨λe he=>by
 obtain⟨x,_,hx⟩:=List.mem_flatMap.1 he;exact(h x).out e hx⟩
theorem HY {H Hf:Hp}{a a' b b':D}(h1:Fz H Hf a a')(h2:Fz H Hf b b'):Fz H Hf (.tup [a,b]) (.tup [a',b']):=.tup rfl λi d d' hd hd'=>by
 match i with
 | 0=>simp at hd hd';subst hd;subst hd';exact h1
 | 1=>simp at hd hd';subst hd;subst hd';exact h2
 |n+2=>simp at hd
set_option allowUnsafeReducibility true in
attribute [local irreducible] Bb
inductive Kd where
 |line|zig|grid|quin
def Kd.most:Kd->Int
 | .line | .zig=>64
 | .grid=>8
 | .quin=>5
theorem strEq_self (a:ByteArray):Bb a a=true:=by unfold Bb;exact beq_self_eq_true _
section
attribute [local irreducible] D3 Cd
end
end Go.Ide
