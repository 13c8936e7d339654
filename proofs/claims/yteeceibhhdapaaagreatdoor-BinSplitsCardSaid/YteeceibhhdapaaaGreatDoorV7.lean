/- The layer of own lemmas and contracts, part 7. -/
import Derived.Test.YteeceibhhdapaaaGreatDoorV5
import Derived.Test.YteeceibhhdapaaaGreatDoorV3
import Derived.Test.YteeceibhhdapaaaGreatDoorV6
import Derived.Lib.AppendIntMem
import Derived.Lib.SmallJoins
import Derived.Shelf.Spec.BitsCarry
import Derived.Laws.StandIn
import Derived.Lib.Bytealg
set_option linter.unusedVariables false
set_option linter.unusedSimpArgs false
namespace Go.Ide
open Go Go.Ide Go.Proofs Go.RowKit
set_option maxRecDepth 100000
def G0 (w:World):Prop:=Lib.TabIs Tryz.prog w "internal/strconv.uint64pow10" .u64 Lib.pow10Tab
theorem iv:Tryz.prog.globalNamed "internal/strconv.uint64pow10" = some 5:=by kernel_rfl
theorem iB {w w':World}(h:G0 w)(b:Below (5+1) w w'):G0 w':=by
 unfold G0 Lib.TabIs World.var? at h⊢;rw[iv]at h⊢;simp only[Option.bind_some]at h⊢;rw[b.block _ (by decide)];exact h
noncomputable def C0:A8:={P:=Tryz.prog,G:=G0,nG:=5+1,hG:=λ_ _=>iB}
theorem ak {ρ:Lk}{O:Nat->Prop}{w:World}{a b c:Value}{vs:Array Value}(hn:vs.size=3)(h:∀(i:Nat) (x:D),[D.prim a,.prim b,.prim c][i]?=some x->AV ρ O w x (vs.getD i undef)):vs = #[a,b,c]:=by
 match vs,hn with
 |⟨[u,v,x]⟩,_=>
  have h0:=h 0 _ rfl;have h1:=h 1 _ rfl;have h2:=h 2 _ rfl;simp at h0 h1 h2;cases h0;cases h1;cases h2;rfl
theorem fU (x y c:Nat)(hc:c<=1):Jc C0 241 [.prim (.int .u64 x),.prim (.int .u64 y),.prim (.int .u64 c)]
  (.tup [.prim (.int .u64 (((x+y+c)%18446744073709551616:Nat):Int)),.prim (.int .u64 (((x+y+c)/18446744073709551616:Nat):Int))]):=λρ O w vs hn h=>by
 have:=ak hn h
 subst this;refine⟨.tuple #[.int .u64 (((x+y+c)%18446744073709551616:Nat):Int),.int .u64 (((x+y+c)/18446744073709551616:Nat):Int)],?_,.tup rfl λi d hd=>?_⟩
 ·show(callFunc 241 _).run Tryz.prog w=_
  rw[run_callFunc_extern Tryz.func241 (by kernel_rfl) (by kernel_rfl) (by kernel_rfl) (e:=add64Entry) (by kernel_rfl),run_add64 x y c (by omega) (by omega) (by omega) (by omega)];simp only[Result.andThen]
  congr 5<;>omega
 ·match i with
  | 0=>simp at hd;subst hd;exact .prim _
  | 1=>simp at hd;subst hd;exact .prim _
  |n+2=>simp at hd
theorem sQ {ρ:Lk}{O:Nat->Prop}{w:World}{a b:Value}{vs:Array Value}(hn:vs.size=2)(h:∀(i:Nat) (x:D),[D.prim a,.prim b][i]?=some x->AV ρ O w x (vs.getD i undef)):vs = #[a,b]:=by
 match vs,hn with
 |⟨[u,v]⟩,_=>
  have h0:=h 0 _ rfl;have h1:=h 1 _ rfl;simp at h0 h1;cases h0;cases h1;rfl
theorem bs (s:ByteArray)(c:Int):Jc C0 297 [.prim (.string s),.prim (.int .u8 c)] (.prim (.int .i64 (firstIdx s c.toNat.toUInt8))):=λρ O w vs hn h=>by
 have:=sQ hn h
 subst this;refine⟨_,?_,.prim _⟩;show(callFunc 297 _).run Tryz.prog w=_;rw[run_callFunc_indexByte Tryz.func297 (by kernel_rfl) (by kernel_rfl) (by kernel_rfl) (by kernel_rfl),run_indexByte_string];rfl
theorem iN (x y b:Nat)(hb:b<=1):Jc C0 243 [.prim (.int .u64 x),.prim (.int .u64 y),.prim (.int .u64 b)]
  (.tup [.prim (.int .u64 (((x+18446744073709551616-y-b)%18446744073709551616:Nat):Int)),.prim (.int .u64 ((if x<y+b then 1 else 0:Nat):Int))]):=λρ O w vs hn h=>by
 have:=ak hn h
 subst this;refine⟨.tuple #[.int .u64 (((x+18446744073709551616-y-b)%18446744073709551616:Nat):Int),.int .u64 ((if x<y+b then 1 else 0:Nat):Int)],?_,.tup rfl λi d hd=>?_⟩
 ·show(callFunc 243 _).run Tryz.prog w=_
  rw[run_callFunc_extern Tryz.func243 (by kernel_rfl) (by kernel_rfl) (by kernel_rfl) (e:=sub64Entry) (by kernel_rfl),run_sub64 x y b hb];rfl
 ·match i with
  | 0=>simp at hd;subst hd;exact .prim _
  | 1=>simp at hd;subst hd;exact .prim _
  |n+2=>simp at hd
theorem PH {O:Nat->Prop}{w:World}{v:Value}{vs:Array Value}(hn:vs.size=1)(h:∀(i:Nat) (x:D),[D.prim v][i]?=some x->AV nol O w x (vs.getD i undef)):vs = #[v]:=by
 match vs,hn with
 |⟨[u]⟩,_=>
  have h0:=h 0 _ rfl;simp at h0;cases h0;rfl
theorem lG (n:Int)(h0 : -9223372036854775808<=n)(h1:n<=9223372036854775807):AK C0 208 [i64 n] (str ⟨(Lib.itoa n).toArray⟩):=by
 refine⟨⟨_,_,Tryz.func208,rfl,by kernel_rfl⟩,λY w vs hG hnG hX hvs hr=>?_⟩
 have:=PH hvs hr
 subst this;refine(Tryz.strconv_Itoa n h0 h1 w hG).mono ?_;rintro e w' ⟨rfl,k,os,rfl⟩;exact⟨_,_,rfl,Lib.below_grow _ _ (Ad _) _ _,rfl,.prim _⟩
theorem kG (s:ByteArray)(n:Int)(hl:s.size<=18)(h:Lib.atoi s.data.toList=some n):AK C0 191 [str s] (.tup [i64 n,.prim .nilIface]):=by
 refine⟨⟨_,_,Tryz.func191,rfl,by kernel_rfl⟩,λY w vs hG hnG hX hvs hr=>?_⟩
 have:=PH hvs hr
 subst this;refine(Tryz.strconv_Atoi s n hl h w).mono ?_;rintro e w' ⟨rfl,t,rfl⟩;exact⟨_,_,rfl,Joins.below_bytesWorld _ _ _ _ (Ad _),rfl,.tup rfl λi d hd=>by
  match i with
  | 0=>simp at hd;subst hd;exact .prim _
  | 1=>simp at hd;subst hd;exact .prim _
  |n+2=>simp at hd⟩
def J7 (f:Nat)(ds:List D):Option D:=match Nat.beq f 241 with
 |true=>match ds with
  | [.prim (.int .u64 (.ofNat a)),.prim (.int .u64 (.ofNat b)),.prim (.int .u64 (.ofNat c))]=>match Nat.ble c 1 with
   |true=>some (.tup [.prim (.int .u64 (((a+b+c)%18446744073709551616:Nat):Int)),.prim (.int .u64 (((a+b+c)/18446744073709551616:Nat):Int))])
   |false=>none
  |_=>none
 |false=>match Nat.beq f 243 with
  |true=>match ds with
   | [.prim (.int .u64 (.ofNat a)),.prim (.int .u64 (.ofNat b)),.prim (.int .u64 (.ofNat c))]=>match Nat.ble c 1 with
    |true=>some (.tup [.prim (.int .u64 (((a+18446744073709551616-b-c)%18446744073709551616:Nat):Int)),.prim (.int .u64 ((if a<b+c then 1 else 0:Nat):Int))])
    |false=>none
   |_=>none
  |false=>match Nat.beq f 297 with
   |true=>match ds with
    | [.prim (.string s),.prim (.int .u8 c)]=>some (.prim (.int .i64 (firstIdx s c.toNat.toUInt8)))
    |_=>none
   |false=>none
theorem Pb (f:Nat)(ds:List D)(d:D)(h:J7 f ds=some d):Jc C0 f ds d:=by
 unfold J7 at h;split at h
 ·rename_i hf
  obtain rfl:=B0 hf;split at h<;>try(cases h;done)
  split at h<;>try(cases h;done)
  rename_i hc;cases h;exact fU _ _ _ (Bc hc)
 ·split at h
  ·rename_i hf
   obtain rfl:=B0 hf;split at h<;>try(cases h;done)
   split at h<;>try(cases h;done)
   rename_i hc;cases h;exact iN _ _ _ (Bc hc)
  ·split at h
   ·rename_i hf
    obtain rfl:=B0 hf;split at h<;>try(cases h;done)
    cases h;exact bs _ _
   ·cases h
noncomputable def X1:EV:=⟨OT.get,LM.get,Md.get,λ_=>false,λ_ _=>none,λ_ _=>none,J7⟩
theorem DG:Eu C0 X1:=⟨ba,Qd,JI,λ_ _ _ h=>by simp[X1]at h,by kernel_rfl,λ_ _ _ h=>by simp[X1]at h,Pb⟩
theorem w1:C5 C0 X1:=DG.w
theorem wI {z:Int}(h1 : -9223372036854775808<=z)(h2:z<=9223372036854775807):IntKind.i64.wrap z=z:=by
 have e1:(2:Int)^IntKind.i64.bits=18446744073709551616:=rfl;have e2:(2:Int)^(IntKind.i64.bits-1)=9223372036854775808:=rfl;unfold IntKind.wrap;simp only[e1,e2];have e3:IntKind.i64.signed=true:=rfl;rw[e3];simp only[IZ,Gp];split<;>omega
theorem wN {n:Nat}(h:n<=9223372036854775807):IntKind.i64.wrap (n:Int)=n:=wI (by omega) (by omega)
set_option maxRecDepth 20000
theorem No (n:Int):AK C0 152 [i64 n] (Co n):=by
 refine Ak.walk w1 Ys rfl λF=>?_
 refine fR 0 ?_;refine fR 100 ?_;refine Af ?_;exact AQ rfl (AA.out (d:=Co n))
theorem LN:∀(k u:Nat),u<10^(k+1)->(Lib.decDigits u).length<=k+1
 | 0,u,h=>by
  unfold Lib.decDigits;rw[dif_pos (by simpa using h)];simp
 |k+1,u,h=>by
  unfold Lib.decDigits;split
  ·simp
  ·rw[Bf]
   have:=LN k (u/10) (by
    rw[CB]at h;omega)
   simp only[Bl,GM];omega
theorem IJ (a b:List UInt8):(⟨a.toArray⟩:ByteArray)++⟨b.toArray⟩=⟨(a++b).toArray⟩:=by
 apply ByteArray.ext;simp[ByteArray.data_append]
theorem NL (l:List UInt8):(⟨l.toArray⟩:ByteArray).size=l.length:=by simp[ByteArray.size]
def Sm (z:Int):Prop:=-9223372036854775808<z/\z<9223372036854775808
theorem wS {z:Int}(h:Sm z):IntKind.i64.wrap z=z:=wI (by have:=h.1;omega) (by have:=h.2;omega)
theorem Z9 {z:Int}(h:Sm z):(z != -9223372036854775808)=true:=by
 have:=h.1
 simp only[bne_iff_ne,ne_eq];omega
theorem wU {z:Int}(h1:0<=z)(h2:z<18446744073709551616):IntKind.u64.wrap z=z:=by
 have e1:(2:Int)^IntKind.u64.bits=18446744073709551616:=rfl;unfold IntKind.wrap;simp only[e1];have e3:IntKind.u64.signed=false:=rfl;rw[e3];simp only[KG,HK,if_false];omega
theorem kp (z:Int)(h:Sm z):AK C0 198 [i64 z] (u64 (z.natAbs:Nat)):=by
 refine Ak.walk w1 YK rfl λF=>?_
 obtain⟨h1,h2⟩:=h;refine fR 0 ?_;refine AC.seq ?_;refine fR 100 ?_;refine AL ?_
 (refine Br (λh4=>?_) (λh4=>?_))<;>(try simp only[Bb,Bq]at h4)<;>(try simp only[h4])
 ·have hz:z<0:=by simpa using h4
  have e1:IntKind.i64.wrap (0-z)=(z.natAbs:Nat):=by rw[wI (by omega) (by omega)];omega
  have e2:IntKind.u64.wrap ((z.natAbs:Nat):Int)=(z.natAbs:Nat):=wU (by omega) (by omega);refine sZ 200 ?_;refine JK (Ae e1 e2) ?_;refine Af ?_;exact AQ rfl AA.out
 ·have hz:¬z<0:=by simpa using h4
  have e2:IntKind.u64.wrap z=(z.natAbs:Nat):=by rw[wU (by omega) (by omega)];omega
  refine Am ?_;refine sZ 300 ?_;refine JK e2 ?_;refine Af ?_;exact AQ rfl AA.out
theorem qP (z:Int)(h:Sm z):AK C0 193 [Co z] (Co (-z)):=by
 refine Ak.walk w1 Sr rfl λF=>?_
 refine fR 0 ?_;refine AC.seq ?_;refine sZ 100 ?_
 repeat'(first|(refine And.intro (by exact Bz) ?_;refine At ?_)|((refine Br (λhb=>?_) (λhb=>?_))<;>(try simp only[Bb,Bq]at hb)<;>(try simp only[hb])<;>(refine At ?_)))
 rw[Z9 h];refine AL ?_;have e1:IntKind.i64.wrap (0-z) = -z:=by
  have:=h.1;have:=h.2
  rw[wI (by omega) (by omega)];omega
 refine sZ 200 ?_;refine JK e1 ?_;refine Af ?_;exact AQ rfl AA.out
theorem M7 (x y:Nat)(hx:x<18446744073709551616)(hy:y<18446744073709551616):AK C0 197 [u64 x,u64 y] (.tup [u64 (x*y/18446744073709551616:Nat),u64 (x*y%18446744073709551616:Nat)]):=by
 refine⟨⟨_,_,Tryz.func197,rfl,by kernel_rfl⟩,λY w vs hG hnG hX hvs hr=>?_⟩;obtain⟨v1,v2,rfl⟩:∃a b,vs = #[a,b]:=by
  match vs,hvs with
  |⟨[a,b]⟩,_=>exact⟨a,b,rfl⟩
 have h0:=hr 0 _ rfl;have h1:=hr 1 _ rfl;simp at h0 h1;cases h0;cases h1;refine(Tryz.bits_Mul64 x y hx hy w).mono ?_;rintro e w' ⟨rfl,rfl⟩;exact⟨_,_,rfl,.refl _ _,rfl,.tup rfl λi d hd=>by
  match i with
  | 0=>simp at hd;subst hd;exact .prim _
  | 1=>simp at hd;subst hd;exact .prim _
  |n+2=>simp at hd⟩
theorem mA {a b:Int}(hb:0<b):(a.tmod b<0->a.tdiv b-1=a/b/\a.tmod b+b=a%b)/\(¬a.tmod b<0->a.tdiv b=a/b/\a.tmod b=a%b):=by
 have h1:=Int.mul_tdiv_add_tmod a b;have h2:=Int.tmod_lt_of_pos a hb;have h3:=Int.lt_tmod_of_pos a hb;constructor
 ·intro h
  have:=(Int.ediv_emod_unique (a:=a) (r:=a.tmod b+b) (q:=a.tdiv b-1) hb).2 ⟨by rw[Int.mul_sub,Int.mul_one];omega,by omega,by omega⟩
  exact⟨this.1.symm,this.2.symm⟩
 ·intro h
  have:=(Int.ediv_emod_unique (a:=a) (r:=a.tmod b) (q:=a.tdiv b) hb).2 ⟨by omega,by omega,by omega⟩
  exact⟨this.1.symm,this.2.symm⟩
theorem Xc {a b:Int}(ha:Sm a):Sm (a.tdiv b):=by
 have h:(a.tdiv b).natAbs<=a.natAbs:=by rw[Int.natAbs_tdiv];exact GO _ _
 have:=ha.1;have:=ha.2
 exact⟨by omega,by omega⟩
theorem fF (a b:Int)(hb0:0<b)(ha:Sm a)(hb:Sm b):AK C0 240 [Co a,Co b] (.tup [Co (a/b),Co (a%b)]):=by
 refine Ak.walk w1 Ss rfl λF=>?_
 obtain⟨t1,t2⟩:=mA (a:=a) hb0;have h2:=Int.tmod_lt_of_pos a hb0;have h3:=Int.lt_tmod_of_pos a hb0;have q1:=wS (Xc (b:=b) ha);have q2:IntKind.i64.wrap (a.tmod b)=a.tmod b:=wI (by have:=hb.2;omega) (by have:=hb.2;omega);have q0:=Xc (b:=b) ha;refine fR 0 ?_;refine AC.seq ?_;refine sZ 100 ?_
 repeat'(first|(refine And.intro (by exact Bz) ?_;refine At ?_)|((refine Br (λhb=>?_) (λhb=>?_))<;>(try simp only[Bb,Bq]at hb)<;>(try simp only[hb])<;>(refine At ?_)))
 rw[Z9 ha];refine AL ?_;refine AC.seq ?_;refine B3 w1 200 [0,1,2,3,4,5,6,7,8,9,10] [11] (by kernel_rfl) ?_;refine And.intro (by(refine At ?_);(try simp only[q1,q2]);all_goals exact Bz) ?_;refine At ?_
 try simp only[q1,q2]
 refine AC.seq ?_;refine fR 300 ?_;refine AL ?_
 (refine Br (λh40=>?_) (λh40=>?_))<;>(try simp only[Bb,Bq]at h40)<;>(try simp only[h40])
 ·obtain⟨e1,e2⟩:=t1 (by simpa using h40)
  have q3:IntKind.i64.wrap (a.tdiv b-1)=a/b:=by rw[wI (by have:=q0.1;omega) (by have:=q0.2;omega)];exact e1
  have q4:IntKind.i64.wrap (a.tmod b+b)=a%b:=by rw[wI (by have:=hb.2;omega) (by have:=hb.2;omega)];exact e2
  refine B3 w1 400 [0,1,2,3,4,5,6] [7] (by kernel_rfl) ?_;refine And.intro (by(refine At ?_);(try simp only[q3,q4]);all_goals exact Bz) ?_;refine At ?_
  try simp only[q3,q4]
  refine fR 500 ?_;refine Af ?_;exact AQ rfl AA.out
 ·obtain⟨e1,e2⟩:=t2 (by simpa using h40)
  refine Am ?_;refine AC.seq ?_;rw[e1,e2];refine fI 500 ?_;refine Af ?_;exact AQ rfl AA.out
theorem je (z:Int):AK C0 148 [Co z] (LK z 1):=by
 refine Ak.walk w1 Sl rfl λF=>?_
 refine fR 0 ?_;refine AC.seq ?_;refine B3 w1 100 [0,1] [2,3] (by kernel_rfl) ?_;refine B6 ?_;refine BT.same _ (No 1) AI ?_;refine B6 ?_;refine Af ?_;exact AQ rfl AA.out
theorem tS (z:Int):AK C0 105 [i64 z] (LK z 1):=by
 refine Ak.walk w1 Xy rfl λF=>?_
 refine fR 0 ?_;refine fR 100 ?_;refine dI (No z) ?_;refine dI (je z) ?_;refine Af ?_;exact AQ rfl AA.out
def Dh (a b:Int):Int:=if a<b then -1 else if b<a then 1 else 0
theorem ky (a b:Int):AK C0 272 [Co a,Co b] (i64 (Dh a b)):=by
 refine Ak.walk w1 Su rfl λF=>?_
 unfold Dh;refine fR 0 ?_;refine AC.seq ?_;refine sZ 100 ?_
 repeat'(first|(refine And.intro (by exact Bz) ?_;refine At ?_)|((refine Br (λhb=>?_) (λhb=>?_))<;>(try simp only[Bb,Bq]at hb)<;>(try simp only[hb])<;>(refine At ?_)))
 refine AL ?_;refine AC.seq ?_;refine AC.block ?_;refine fR 200 ?_;refine AL ?_
 (refine Br (λh13=>?_) (λh13=>?_))<;>(try simp only[Bb,Bq]at h13)<;>(try simp only[h13])
 ·have h1:a<b:=by simpa using h13
  rw[AH h1];refine fR 300 ?_;refine Af ?_;exact AQ rfl AA.out
 ·have h1:¬a<b:=by simpa using h13
  rw[AG h1];refine fR 400 ?_;refine AL ?_
  (refine Br (λh19=>?_) (λh19=>?_))<;>(try simp only[Bb,Bq]at h19)<;>(try simp only[h19])
  ·have h2:b<a:=by simpa using h19
   rw[AH h2];refine fR 500 ?_;refine Af ?_;exact AQ rfl AA.out
  ·have h2:¬b<a:=by simpa using h19
   rw[AG h2];refine Am ?_;refine fR 600 ?_;refine Af ?_;exact AQ rfl AA.out
theorem YE {n k:Nat}(h:Nat.blt n k=true):n<k:=by rw[Nat.blt_eq]at h;exact h
def vT:Int->Bool
 | .ofNat n=>Nat.blt n 9223372036854775808
 | .negSucc n=>Nat.blt n 9223372036854775807
theorem q6 {z:Int}(h:vT z=true):Sm z:=by
 cases z with
 |ofNat n=>have:=YE h;exact⟨by rw[Int.ofNat_eq_natCast];omega,by rw[Int.ofNat_eq_natCast];omega⟩
 |negSucc n=>have:=YE h;exact⟨by omega,by omega⟩
abbrev BB:Nat:=18446744073709551616
def Ab (n:Nat):List Nat:=if _h:n=0 then[]else(n%BB)::Ab (n/BB)
termination_by n
decreasing_by exact HL (Dl _h) (by decide)
def AT:List Nat->Nat
 | []=>0
 |a::l=>a+BB*AT l
def Wd (l:List Nat):Prop:=∀a∈l,a<BB
theorem FM:Ab 0=[]:=by unfold Ab;rfl
theorem Fd {n:Nat}(h:n≠0):Ab n=(n%BB)::Ab (n/BB):=by rw[Ab,dif_neg h]
theorem Eo (n:Nat):Wd (Ab n):=by
 induction n using Nat.strongRecOn with
 |ind n ih=>
  by_cases h:n=0
  ·subst h;rw[FM];intro a ha;cases ha
  ·rw[Fd h]
   intro a ha;rcases BA.1 ha with rfl|ha
   ·exact By _ (by decide)
   ·exact ih _ (HL (Dl h) (by decide)) a ha
theorem EZ (n:Nat):AT (Ab n)=n:=by
 induction n using Nat.strongRecOn with
 |ind n ih=>
  by_cases h:n=0
  ·subst h;rw[FM];rfl
  ·rw[Fd h,AT,ih _ (HL (Dl h) (by decide))]
   exact EW n BB
theorem JQ (l m:List Nat):AT (l++m)=AT l+BB^l.length*AT m:=by
 induction l with
 |nil=>simp[AT]
 |cons a l ih=>
  simp only[ES,AT,ih,Bl,CB,BK];rw[BO (BB^l.length) BB,Bs,EH]
theorem Wd.tail {a:Nat}{l:List Nat}(h:Wd (a::l)):Wd l:=λb hb=>h b (CN _ hb)
theorem Wd.head {a:Nat}{l:List Nat}(h:Wd (a::l)):a<BB:=h a CH
theorem Wd.append {l m:List Nat}(h:Wd l)(k:Wd m):Wd (l++m):=λa ha=>(List.mem_append.1 ha).elim (h a) (k a)
theorem Wd.take {l:List Nat}(h:Wd l)(n:Nat):Wd (l.take n):=λa ha=>h a (Hy ha)
theorem G4:∀ {l:List Nat},Wd l->AT l<BB^l.length
 | [],_=>by simp[AT]
 |a::l,h=>by
  have h1:=G4 h.tail;have h2:=h.head;rw[AT,Bl,CB]
  calc a+BB*AT l<BB+BB*AT l:=by omega
   _=BB*(AT l+1):=by rw[BK,Du,KH]
   _<=BB*BB^l.length:=CR _ h1
   _=_:=BO _ _
theorem Vo:∀ {l:List Nat},Wd l->(∀a∈l.getLast?,a≠0)->Ab (AT l)=l
 | [],_,_=>FM
 | [a],h,hl=>by
  have ha:a≠0:=hl a (by simp);have hb:=h.head;rw[show AT [a]=a from by simp[AT],Fd ha,DS hb,Gr hb,FM]
 |a::b::l,h,hl=>by
  have ih:=Vo h.tail (λx hx=>hl x (by simpa using hx));have hb:=h.head;have hv:AT (b::l)≠0:=by
   intro h0;rw[h0,FM]at ih;cases ih
  have e1:AT (a::b::l)%BB=a:=by rw[AT,Qj,DS hb]
  have e2:AT (a::b::l)/BB=AT (b::l):=by
   rw[AT,Qq _ _ (by decide),Gr hb,BR]
  have hne:AT (a::b::l)≠0:=by
   intro h0;rw[h0]at e2;exact hv (by rw[<-e2];rfl)
  rw[Fd hne,e1,e2,ih]
theorem Om:∀(k:Nat),AT (List.replicate k 0)=0
 | 0=>rfl
 |k+1=>by rw[List.replicate_succ,AT,Om k,EI]
theorem U6 {l:List Nat}(h:Wd l)(n:Nat)(hz:∀j,n<=j->∀a,l[j]?=some a->a=0)(hn:n<=l.length)(hl:∀m,n=m+1->∀a,l[m]?=some a->a≠0):l.take n=Ab (AT l):=by
 have hd:l.drop n=List.replicate (l.length-n) 0:=by
  refine OP λi=>?_
  rw[Gn,List.getElem?_replicate];split
  ·rename_i hi
   rw[BH (by omega)]
   congr 1
   exact hz _ (Nat.le_add_right _ _) _ (BH (by omega))
  ·exact DQ (by omega)
 have hv:AT l=AT (l.take n):=by
  conv=>lhs;rw[<-Ei n l]
  rw[JQ,hd,Om,EI,DL]
 rw[hv];refine(Vo (h.take n) λa ha=>?_).symm
 match n,hl,hn with
 | 0,_,_=>simp at ha
 |m+1,hl,hn=>
  refine hl m rfl a ?_;rw[List.getLast?_eq_getElem?,Bj,Eh hn,ET,AH (by omega)]at ha;simpa using ha
abbrev AR (n:Nat):D:=u64 (n:Int)
def wL (l:List Nat):D:=.sl false 1 (l.map AR)
def wD (n:Nat):D:=wL (Ab n)
theorem Ji (l:List Nat):B1 (wL l):=.sl λe he d hd=>by
 obtain⟨a,_,rfl⟩:=List.mem_map.1 he;simp only[D.cells,BA,DK,or_false]at hd;subst hd;exact .prim _
instance  (l:List Nat):AA (wL l):=⟨Ji l⟩
instance  (n:Nat):AA (wD n):=⟨Ji _⟩
theorem DD {l:List Nat}{i a:Nat}(h:l[i]?=some a):(l.map AR)[i]?=some (AR a):=by rw[BI,h];rfl
theorem trim_ok (l:List Nat)(h:Wd l)(hlen:l.length<4000000000):AK C0 242 [wL l] (wD (AT l)):=by
 refine Ak.walk w1 Ye rfl λF=>?_
 unfold wL;refine sR 0 ?_;refine sR 100 ?_;refine AC.seq ?_;refine AC.block ?_;have hml:((l.map AR).length:Int)=(l.length:Int):=by rw[Ap]
 rw[hml];refine AC.loop (α:=Nat×Nat) (λp=>⟨[(0,.sl false 1 (l.map AR)),(3,i64 p.1)],[],p.2⟩) (λp=>p.1)
  (λp=>p.1<=l.length/\∀j,p.1<=j->∀a,l[j]?=some a->a=0) (l.length,_) ⟨Ad _,λj hj a ha=>by rw[DQ hj]at ha;cases ha⟩ AJ ?_
 rintro⟨n,m⟩ F ⟨h1,h2⟩;dsimp only at h1 h2⊢;refine AC.seq ?_;refine AC.seq ?_;rcases n with _|n
 ·have z0:decide (((0:Nat):Int)>0)=false:=rfl
  refine An w1 200 (by kernel_rfl) ?_;refine AE z0 ?_;refine AL ?_;refine B5 ?_;have ht:=U6 h 0 h2 (BS _) (by simp);refine sR 400 ?_;refine Af ?_;refine AQ (d0:=wL (l.take 0)) ?_ AA.out;rw[ht];rfl
 ·obtain⟨a,ha⟩:∃a,l[n]?=some a:=⟨l[n],BH (by omega)⟩
  have hx:=DD ha;have z1:decide (((n+1:Nat):Int)>0)=true:=AY (by omega);have w2:IntKind.i64.wrap (((n+1:Nat):Int)-1)=(n:Int):=by rw[wI (by omega) (by omega)];omega
  refine An w1 200 (by kernel_rfl) ?_;refine AE (Ae z1 w2) ?_;refine Bo z1 hx ?_;refine AE (Ae z1 w2) ?_;refine AL ?_
  (refine Br (λh15=>?_) (λh15=>?_))<;>(try simp only[Bb,Bq]at h15)<;>(try simp only[h15])
  ·have ha0:a=0:=by
    have:(a:Int)=0:=by simpa using h15
    omega
   subst ha0;refine Am ?_;refine AC.block ?_;refine An w1 300 (by kernel_rfl) ?_;refine AU w2 ?_;refine⟨(n,_),⟨by dsimp only;omega,λj hj b hb=>?_⟩,by dsimp only;omega,AJ⟩;rcases Nat.eq_or_lt_of_le hj with rfl|hlt
   ·exact FD (hb.symm.trans ha)
   ·exact h2 j hlt b hb
  ·have ha0:a≠0:=by
    intro h0;subst h0;simp at h15
   refine B5 ?_;have ht:=U6 h (n+1) h2 h1 (λm hm b hb=>by
    obtain rfl:n=m:=by omega
    rw[ha]at hb;cases hb;exact ha0)
   refine sR 400 ?_;refine Af ?_;have e4:List.take ((((n+1:Nat):Int)).toNat-0) (List.drop 0 (l.map AR))=(l.take (n+1)).map AR:=by
    rw[List.map_take];simp
   rw[e4];refine AQ (d0:=wL (l.take (n+1))) ?_ AA.out;rw[ht];rfl
theorem Gx (b:Nat):∀a,b<=a->(Ab b).length<=(Ab a).length:=by
 induction b using Nat.strongRecOn with
 |ind b ih=>
  intro a h
  by_cases hb:b=0
  ·subst hb;rw[FM];exact BS _
  ·rw[Fd hb,Fd (n:=a) (by omega),Bl,Bl]
   exact Nat.succ_le_succ (ih _ (HL (Dl hb) (by decide)) _ (Nat.div_le_div_right h))
theorem UQ {a b:Nat}(h:(Ab a).length<(Ab b).length):a<b:=by
 rcases BL a b with h1|h1
 ·exact h1
 ·have:=Gx b a h1;omega
theorem Jj {l:List Nat}{k a:Nat}(h:l[k]?=some a):AT l=AT (l.take k)+BB^k*(a+BB*AT (l.drop (k+1))):=by
 have hk:k<l.length:=(List.getElem?_eq_some_iff.1 h).1
 conv=>lhs;rw[<-Ei k l]
 rw[JQ,Bj,Eh (by omega)]
 have:l.drop k=a::l.drop (k+1):=by
  rw[D9 hk]
  congr 1
  exact(List.getElem?_eq_some_iff.1 h).2
 rw[this,AT]
theorem Uw {l m:List Nat}{k a b:Nat}(hl:Wd l)(ha:l[k]?=some a)(hb:m[k]?=some b)(hd:l.drop (k+1)=m.drop (k+1))(hab:a<b):AT l<AT m:=by
 have hk:k<l.length:=(List.getElem?_eq_some_iff.1 ha).1;rw[Jj ha,Jj hb,hd];have h1:=G4 (hl.take k);rw[Bj,Eh (by omega)]at h1;generalize AT (m.drop (k+1))=r;have h2:BB^k*(a+BB*r)+BB^k<=BB^k*(b+BB*r):=by
  rw[<-Nat.mul_succ];exact CR _ (by omega)
 omega
theorem PR (a b:Nat)(ha:(Ab a).length<4000000000)(hb:(Ab b).length<4000000000):AK C0 203 [wD a,wD b] (i64 (Dh a b)):=by
 refine Ak.walk w1 YP rfl λF=>?_
 have hwa:=Eo a;have hwb:=Eo b;have va:=EZ a;have vb:=EZ b;have hlt:=@UQ a b;have hgt:=@UQ b a;unfold wD wL Dh;generalize Ab a=la at*;generalize Ab b=lb at*;have ea:(((la.map AR).length:Nat):Int)=(la.length:Int):=by rw[Ap]
 have eb:(((lb.map AR).length:Nat):Int)=(lb.length:Int):=by rw[Ap]
 refine sR 0 ?_;refine AC.seq ?_;refine sZ 100 ?_;refine AU (Ae ea eb) ?_;refine AL ?_
 (refine Br (λh10=>?_) (λh10=>?_))<;>(try simp only[Bb,Bq]at h10)<;>(try simp only[h10])
 ·have hne:la.length≠lb.length:=by
   have:(la.length:Int)≠lb.length:=by simpa using h10
   omega
  refine AC.seq ?_;refine sZ 200 ?_;refine AU (Ae ea eb) ?_;refine AL ?_
  (refine Br (λh15=>?_) (λh15=>?_))<;>(try simp only[Bb,Bq]at h15)<;>(try simp only[h15])
  ·have h1:la.length<lb.length:=by
    have:(la.length:Int)<lb.length:=by simpa using h15
    omega
   rw[AH (by have:=hlt h1;omega)];refine sR 300 ?_;refine Af ?_;exact AQ rfl AA.out
  ·have h1:lb.length<la.length:=by
    have:¬(la.length:Int)<lb.length:=by simpa using h15
    omega
   have h2:=hgt h1;rw[AG (by omega),AH (by omega)];refine Am ?_;refine sR 400 ?_;refine Af ?_;exact AQ rfl AA.out
 ·have hl:la.length=lb.length:=by
   have:(la.length:Int)=lb.length:=by simpa using h10
   omega
  clear hlt hgt;refine Am ?_;refine AC.seq ?_;refine sZ 500 ?_;refine AU ea ?_;refine AC.block ?_;have w0:IntKind.i64.wrap ((la.length:Int)-1)=(la.length:Int)-1:=wI (by omega) (by omega);rw[w0];refine AC.loop (α:=Nat×Nat) (λp=>⟨[(0,.sl false 1 (la.map AR)),(1,.sl false 1 (lb.map AR)),(5,i64 ((p.1:Int)-1))],[],p.2⟩) (λp=>p.1)
   (λp=>p.1<=la.length/\la.drop p.1=lb.drop p.1) (la.length,_) ⟨Ad _,by rw[Ia,hl,Ia]⟩ AJ ?_
  rintro⟨k,m⟩ F ⟨h1,h2⟩;dsimp only at h1 h2⊢;refine AC.seq ?_;refine sR 600 ?_;refine AL ?_
  (refine Br (λh20=>?_) (λh20=>?_))<;>(try simp only[Bb,Bq]at h20)<;>(try simp only[h20])
  ·obtain⟨j,rfl⟩:∃j,k=j+1:=⟨k-1,by
    have:(k:Int)-1>=0:=by simpa using h20
    omega⟩
   have wj:((j+1:Nat):Int)-1=(j:Int):=by omega
   obtain⟨x,hx⟩:∃x,la[j]?=some x:=⟨la[j],BH (by omega)⟩
   obtain⟨y,hy⟩:∃y,lb[j]?=some y:=⟨lb[j],BH (by omega)⟩
   have hx':=DD hx;have hy':=DD hy;rw[wj];refine Am ?_;refine AC.seq ?_;refine AC.block ?_;refine AC.seq ?_;refine B3 w1 800 [0,1,2,3,4,5,6,7] [8] (by kernel_rfl) ?_;refine AE kN ?_;refine Bo kT hx' ?_;refine AE kN ?_;refine Bo kT hy' ?_;refine AE kN ?_;refine AE kN ?_;refine AL ?_
   (refine Br (λh31=>?_) (λh31=>?_))<;>(try simp only[Bb,Bq]at h31)<;>(try simp only[h31])
   ·have hne:x≠y:=by
     intro h0;subst h0;simp at h31
    refine AC.seq ?_;refine AC.seq ?_;refine B3 w1 900 [0,1,2,3,4,5,6,7] [8] (by kernel_rfl) ?_;refine AE kN ?_;refine Bo kT hx' ?_;refine AE kN ?_;refine Bo kT hy' ?_;refine AE kN ?_;refine AE kN ?_;refine AL ?_
    (refine Br (λh40=>?_) (λh40=>?_))<;>(try simp only[Bb,Bq]at h40)<;>(try simp only[h40])
    ·have hxy:x<y:=by
      have:(x:Int)<y:=by simpa using h40
      omega
     have:=Uw hwa hx hy h2 hxy
     rw[AH (by omega)];refine sR 1000 ?_;refine Af ?_;exact AQ rfl AA.out
    ·have hxy:y<x:=by
      have:¬(x:Int)<y:=by simpa using h40
      omega
     have:=Uw hwb hy hx h2.symm hxy
     rw[AG (by omega),AH (by omega)];refine Am ?_;refine sR 1100 ?_;refine Af ?_;exact AQ rfl AA.out
   ·have hxy:x=y:=by
     have:(x:Int)=y:=by simpa using h31
     omega
    subst hxy;have w5:IntKind.i64.wrap ((j:Int)-1)=(j:Int)-1:=wI (by omega) (by omega);refine Am ?_;refine An w1 700 (by kernel_rfl) ?_;refine AU w5 ?_;have hj:=(List.getElem?_eq_some_iff.1 hx)
    have hj':=(List.getElem?_eq_some_iff.1 hy)
    refine⟨(j,_),⟨by dsimp only;omega,?_⟩,by dsimp only;omega,AJ⟩;dsimp only;rw[D9 hj.1,D9 hj'.1,hj.2,hj'.2,h2]
  ·have hk:k=0:=by
    have:¬((k:Int)-1>=0):=by simpa using h20
    omega
   subst hk;have hab:a=b:=by
    rw[<-va,<-vb]
    have:la=lb:=by simpa using h2
    rw[this]
   subst hab;rw[AG (by omega),AG (by omega)];refine B5 ?_;refine sR 1200 ?_;refine Af ?_;exact AQ rfl AA.out
theorem WA {a b c:Nat}(hc:c<=1):J7 241 [AR a,AR b,AR c]=some (.tup [AR ((a+b+c)%BB),AR ((a+b+c)/BB)]):=by
 show(match Nat.ble c 1 with
  |true=>some (D.tup [.prim (.int .u64 (((a+b+c)%18446744073709551616:Nat):Int)),.prim (.int .u64 (((a+b+c)/18446744073709551616:Nat):Int))])
  |false=>none)=_
 have h1:Nat.ble c 1=true:=by rw[Nat.ble_eq];exact hc
 rw[h1]
theorem En {l:List Nat}{i a:Nat}(h:l[i]?=some a):l.take (i+1)=l.take i++[a]:=by rw[EB,h];rfl
theorem PJ {l:List Nat}{i a:Nat}(h:i<l.length):(l.set i a).take (i+1)=l.take i++[a]:=by
 rw[En (l:=l.set i a) (i:=i) (a:=a) (by simp[h]),List.take_set_of_le (Ad _)]
theorem GC {l:List Nat}{i a:Nat}(hi:l.length=i):AT (l++[a])=AT l+BB^i*a:=by rw[JQ,hi];simp[AT]
theorem map_set {l:List Nat}{i a:Nat}:(l.map AR).set i (AR a)=(l.set i a).map AR:=List.map_set.symm
theorem Wd.set {l:List Nat}(h:Wd l){i a:Nat}(ha:a<BB):Wd (l.set i a):=λb hb=>by
 rcases List.mem_or_eq_of_mem_set hb with h1|rfl
 ·exact h b h1
 ·exact ha
theorem LY (n:Nat):Wd (List.replicate n 0):=λa ha=>by rw[ON ha];decide
theorem TD {env:Ar}{t K g n N:Nat}{z:List Nat}{T:Nat}(hl:z.length=N)(he:env.get t=.osl K g 1 0 N:=by exact rfl):Wk ⟨env,[⟨K,g,T,1,z.map AR⟩],n⟩ ⟨[(t,.sl false 1 (z.map AR))],[],n⟩:=by
 subst hl;refine⟨.drop .nil,⟨?_,trivial⟩,Ad _⟩;dsimp only;rw[he]
 have:=Pu K g T 1 (z.map AR)
 rwa [Ap]at this
theorem kE (la lb:List Nat)(ha:Wd la)(hb:Wd lb)(hla:la.length<4000000)(hlb:lb.length<4000000):AK C0 202 [wL la,wL lb] (wD (AT la+AT lb)):=by
 refine Ak.walk w1 YO rfl λF=>?_
 unfold wL;have ea:(((la.map AR).length:Nat):Int)=(la.length:Int):=by rw[Ap]
 have eb:(((lb.map AR).length:Nat):Int)=(lb.length:Int):=by rw[Ap]
 obtain⟨x,y,hsw,hle,hx,hy,hlx,hv⟩:∃x y:List Nat,(la.length<lb.length/\x=lb/\y=la\/¬la.length<lb.length/\x=la/\y=lb)/\y.length<=x.length/\Wd x/\Wd y/\x.length<4000000/\AT la+AT lb=AT x+AT y:=by
  by_cases h:la.length<lb.length
  ·exact⟨lb,la,.inl ⟨h,rfl,rfl⟩,by omega,hb,ha,hlb,by omega⟩
  ·exact⟨la,lb,.inr ⟨h,rfl,rfl⟩,by omega,ha,hb,hla,rfl⟩
 rw[hv];refine sR 0 ?_;refine Db ⟨[(0,.sl false 1 (x.map AR)),(1,.sl false 1 (y.map AR)),(4,CD)],[],20⟩ ?_ ?_
 ·refine sZ 100 ?_
  refine AU (Ae ea eb) ?_;refine AL ?_;rcases hsw with⟨h,rfl,rfl⟩|⟨h,rfl,rfl⟩
  ·have e1:decide ((y.length:Int)<(x.length:Int))=true:=AY (by omega)
   rw[e1];refine rI 200 ?_;exact And.intro (by trivial) (AJ)
  ·have e1:decide ((x.length:Int)<(y.length:Int))=false:=Ah (by omega)
   rw[e1];refine Am ?_;exact And.intro (by trivial) (AJ)
 clear hsw ea eb;have ex:(((x.map AR).length:Nat):Int)=(x.length:Int):=by rw[Ap]
 have ey:(((y.map AR).length:Nat):Int)=(y.length:Int):=by rw[Ap]
 have w3:IntKind.i64.wrap ((x.length:Int)+1)=((x.length+1:Nat):Int):=by rw[wI (by omega) (by omega)];omega
 have r3:List.replicate (x.length+1) (ofV (.int .u64 0))=(List.replicate (x.length+1) 0).map AR:=by rw[JG];rfl
 refine sZ 300 ?_;refine AU (Av ex w3 kN) ?_;refine sR 400 ?_;refine AC.seq ?_;refine sZ 500 ?_;refine AU ex ?_;refine AC.block ?_;refine AC.loop (α:=Nat×Nat×List Nat×Nat) (λp=>⟨[(0,.sl false 1 (x.map AR)),(1,.sl false 1 (y.map AR)),(4,CD),(5,.osl 303 23 1 0 (x.length+1)),(6,AR p.2.1),(21,i64 x.length),(22,i64 p.1)],[⟨303,23,225,1,p.2.2.1.map AR⟩],p.2.2.2⟩) (λp=>x.length-p.1)
  (λp=>p.1<=x.length/\p.2.1<=1/\p.2.2.1.length=x.length+1/\Wd p.2.2.1/\AT (p.2.2.1.take p.1)+BB^p.1*p.2.1=AT (x.take p.1)+AT (y.take p.1)) (0,0,List.replicate (x.length+1) 0,_)
  ⟨BS _,BS _,by simp,LY _,by simp[AT]⟩ (by rw[<-r3];exact AJ) ?_
 rintro⟨i,c,o,m⟩ F ⟨h1,h2,h3,h4,h5⟩;dsimp only at h1 h2 h3 h4 h5⊢;refine sR 600 ?_;refine AC.seq ?_;refine AL ?_
 (refine Br (λh23=>?_) (λh23=>?_))<;>(try simp only[Bb,Bq]at h23)<;>(try simp only[h23])
 ·have hi:i<x.length:=by simpa using h23
  obtain⟨a,hxa⟩:∃a,x[i]?=some a:=⟨x[i],BH hi⟩
  have ha:=DD hxa;obtain⟨v,hvl,hvv⟩:∃v,v<BB/\(i<y.length/\y[i]?=some v\/y.length<=i/\v=0):=by
   by_cases h:i<y.length
   ·exact⟨y[i],hy _ (List.getElem_mem h),.inl ⟨h,BH h⟩⟩
   ·exact⟨0,by decide,.inr ⟨by omega,rfl⟩⟩
  have hal:a<BB:=hx a (BE hxa);have hyv:AT (y.take (i+1))=AT (y.take i)+BB^i*v:=by
   rcases hvv with⟨h,hh⟩|⟨h,rfl⟩
   ·rw[En hh,GC (i:=i) (by rw[Bj];omega)]
   ·rw[B4 (by omega),B4 h];simp
  have hoi:i<o.length:=by omega
  obtain⟨oi,hoa⟩:∃a,o[i]?=some a:=⟨o[i],BH hoi⟩
  have hob:=DD hoa;have hadd:=WA (a:=a) (b:=v) h2;have wi:IntKind.i64.wrap ((i:Int)+1)=((i+1:Nat):Int):=wI (by omega) (by omega);refine Am ?_;refine AC.seq ?_;refine AC.block ?_;refine sR 700 ?_;refine sR 800 ?_;refine Db ⟨[(0,.sl false 1 (x.map AR)),(1,.sl false 1 (y.map AR)),(4,CD),(5,.osl 303 23 1 0 (x.length+1)),(6,AR c),(7,i64 i),(8,AR v),(21,i64 x.length),(22,i64 i)],[⟨303,23,225,1,o.map AR⟩],m+30⟩ ?_ ?_
  ·refine sZ 900 ?_
   refine AU ey ?_;refine AL ?_;rcases hvv with⟨h,hh⟩|⟨h,rfl⟩
   ·have hy':=DD hh
    have e1:decide ((i:Int)<(y.length:Int))=true:=AY (by omega);rw[e1];refine rI 1000 ?_;refine AE kN ?_;refine Bo kT hy' ?_;refine BN ?_;exact And.intro (by trivial) (AJ)
   ·have e1:decide ((i:Int)<(y.length:Int))=false:=Ah (by omega)
    rw[e1];refine Am ?_;exact And.intro (by trivial) (AJ)
  refine rI 1100 ?_;refine AE kN ?_;refine Bo kT ha ?_;refine AE kN ?_
  first|(refine Dq rfl rfl ?_;refine PX rfl rfl (hadd) ?_)|(refine EM rfl rfl ?_;refine NO rfl rfl (hadd) ?_)
  refine AE (Av kN BR hob) ?_;have hs:(a+v+c)%BB<BB:=By _ (by decide);have hc':(a+v+c)/BB<=1:=by
   have:a+v+c<2*BB:=by omega
   exact MV (Ej (by rw[BO];exact this))
  rw[map_set];refine An w1 1200 (by kernel_rfl) ?_;refine AU wi ?_;refine⟨(i+1,(a+v+c)/BB,o.set i ((a+v+c)%BB),_),⟨hi,hc',by dsimp only;rw[DT];exact h3,h4.set hs,?_⟩,by dsimp only;omega,AJ⟩;dsimp only;rw[PJ hoi,GC (i:=i) (by rw[Bj];omega),En hxa,GC (i:=i) (by rw[Bj];omega),hyv];have hm:=EW (a+v+c) BB;rw[CB,Bs,EH,<-BK,hm,BK,BK];omega
 ·have hi:i=x.length:=by
   have:¬i<x.length:=by simpa using h23
   omega
  subst hi;obtain⟨oi,hoa⟩:∃a,o[x.length]?=some a:=⟨o[x.length],BH (by omega)⟩
  have hob:=DD hoa;refine B5 ?_;refine sZ 1300 ?_;refine AE (Bk ex kN BR hob) ?_;rw[map_set];have ho:o.set x.length c=o.take x.length++[c]:=by
   have:=PJ (l:=o) (i:=x.length) (a:=c) (by omega)
   rwa [B4 (by rw[DT];omega)]at this
  have hov:AT (o.set x.length c)=AT x+AT y:=by
   rw[ho,GC (i:=x.length) (by rw[Bj];omega),h5,B4 (Ad _),B4 hle]
  have how:Wd (o.set x.length c):=h4.set (DJ h2 (by decide));have hol:(o.set x.length c).length=x.length+1:=by rw[DT];exact h3
  generalize o.set x.length c=z at*;refine AC.weak ⟨[(5,.sl false 1 (z.map AR))],[],_⟩ (TD hol) ?_;refine sR 1400 ?_;refine A9.same _ (trim_ok z how (by omega)) AI ?_;refine BN ?_;refine Af ?_;exact AQ (by rw[hov]) AA.out
theorem R2 {a b c:Nat}(hc:c<=1):J7 243 [AR a,AR b,AR c]=some (.tup [AR ((a+BB-b-c)%BB),AR (if a<b+c then 1 else 0)]):=by
 show(match Nat.ble c 1 with
  |true=>some (D.tup [.prim (.int .u64 (((a+18446744073709551616-b-c)%18446744073709551616:Nat):Int)),.prim (.int .u64 ((if a<b+c then 1 else 0:Nat):Int))])
  |false=>none)=_
 have h1:Nat.ble c 1=true:=by rw[Nat.ble_eq];exact hc
 rw[h1]
theorem Rl {a v c:Nat}(ha:a<BB)(hv:v<BB)(hc:c<=1):(a+BB-v-c)%BB+v+c=a+BB*(if a<v+c then 1 else 0):=by
 by_cases h:a<v+c
 ·rw[AH h,DS (by omega)];omega
 ·rw[AG h]
  have:a+BB-v-c=(a-v-c)+BB:=by omega
  rw[this,Nat.add_mod_right,DS (by omega)];omega
theorem ly (x y:List Nat)(hx:Wd x)(hy:Wd y)(hlx:x.length<4000000)(hle:y.length<=x.length)(hv:AT y<=AT x):AK C0 204 [wL x,wL y] (wD (AT x-AT y)):=by
 refine Ak.walk w1 YQ rfl λF=>?_
 unfold wL;have ex:(((x.map AR).length:Nat):Int)=(x.length:Int):=by rw[Ap]
 have ey:(((y.map AR).length:Nat):Int)=(y.length:Int):=by rw[Ap]
 have r3:List.replicate x.length (ofV (.int .u64 0))=(List.replicate x.length 0).map AR:=by rw[JG];rfl
 refine sR 0 ?_;refine sZ 100 ?_;refine AU (Ae ex kN) ?_;refine sR 200 ?_;refine AC.seq ?_;refine sZ 300 ?_;refine AU ex ?_;refine AC.block ?_;refine AC.loop (α:=Nat×Nat×List Nat×Nat) (λp=>⟨[(0,.sl false 1 (x.map AR)),(1,.sl false 1 (y.map AR)),(4,CD),(5,.osl 102 3 1 0 x.length),(6,AR p.2.1),(13,i64 x.length),(14,i64 p.1)],[⟨102,3,225,1,p.2.2.1.map AR⟩],p.2.2.2⟩) (λp=>x.length-p.1)
  (λp=>p.1<=x.length/\p.2.1<=1/\p.2.2.1.length=x.length/\Wd p.2.2.1/\AT (p.2.2.1.take p.1)+AT (y.take p.1)=AT (x.take p.1)+BB^p.1*p.2.1) (0,0,List.replicate x.length 0,_)
  ⟨BS _,BS _,by simp,LY _,by simp[AT]⟩ (by rw[<-r3];exact AJ) ?_
 rintro⟨i,c,o,m⟩ F ⟨h1,h2,h3,h4,h5⟩;dsimp only at h1 h2 h3 h4 h5⊢;refine sR 400 ?_;refine AC.seq ?_;refine AL ?_
 (refine Br (λh23=>?_) (λh23=>?_))<;>(try simp only[Bb,Bq]at h23)<;>(try simp only[h23])
 ·have hi:i<x.length:=by simpa using h23
  obtain⟨a,hxa⟩:∃a,x[i]?=some a:=⟨x[i],BH hi⟩
  have ha:=DD hxa;obtain⟨v,hvl,hvv⟩:∃v,v<BB/\(i<y.length/\y[i]?=some v\/y.length<=i/\v=0):=by
   by_cases h:i<y.length
   ·exact⟨y[i],hy _ (List.getElem_mem h),.inl ⟨h,BH h⟩⟩
   ·exact⟨0,by decide,.inr ⟨by omega,rfl⟩⟩
  have hal:a<BB:=hx a (BE hxa);have hyv:AT (y.take (i+1))=AT (y.take i)+BB^i*v:=by
   rcases hvv with⟨h,hh⟩|⟨h,rfl⟩
   ·rw[En hh,GC (i:=i) (by rw[Bj];omega)]
   ·rw[B4 (by omega),B4 h];simp
  have hoi:i<o.length:=by omega
  obtain⟨oi,hoa⟩:∃a,o[i]?=some a:=⟨o[i],BH hoi⟩
  have hob:=DD hoa;have hsub:=R2 (a:=a) (b:=v) h2;have hdig:=Rl hal hvl h2;have hc':(if a<v+c then 1 else 0)<=1:=by split<;>decide
  have hs:(a+BB-v-c)%BB<BB:=By _ (by decide);generalize(if a<v+c then 1 else 0)=c' at*;generalize(a+BB-v-c)%BB=d at*;have wi:IntKind.i64.wrap ((i:Int)+1)=((i+1:Nat):Int):=wI (by omega) (by omega);refine Am ?_;refine AC.seq ?_;refine AC.block ?_;refine sR 500 ?_;refine sR 600 ?_;refine Db ⟨[(0,.sl false 1 (x.map AR)),(1,.sl false 1 (y.map AR)),(4,CD),(5,.osl 102 3 1 0 x.length),(6,AR c),(7,i64 i),(8,AR v),(13,i64 x.length),(14,i64 i)],[⟨102,3,225,1,o.map AR⟩],m+30⟩ ?_ ?_
  ·refine sZ 700 ?_
   refine AU ey ?_;refine AL ?_;rcases hvv with⟨h,hh⟩|⟨h,rfl⟩
   ·have hy':=DD hh
    have e1:decide ((i:Int)<(y.length:Int))=true:=AY (by omega);rw[e1];refine rI 800 ?_;refine AE kN ?_;refine Bo kT hy' ?_;refine BN ?_;exact And.intro (by trivial) (AJ)
   ·have e1:decide ((i:Int)<(y.length:Int))=false:=Ah (by omega)
    rw[e1];refine Am ?_;exact And.intro (by trivial) (AJ)
  refine rI 900 ?_;refine AE kN ?_;refine Bo kT ha ?_;refine AE kN ?_
  first|(refine Dq rfl rfl ?_;refine PX rfl rfl (hsub) ?_)|(refine EM rfl rfl ?_;refine NO rfl rfl (hsub) ?_)
  refine AE (Av kN BR hob) ?_;rw[map_set];refine An w1 1000 (by kernel_rfl) ?_;refine AU wi ?_;refine⟨(i+1,c',o.set i d,_),⟨hi,hc',by dsimp only;rw[DT];exact h3,h4.set hs,?_⟩,by dsimp only;omega,AJ⟩;dsimp only;rw[PJ hoi,GC (i:=i) (by rw[Bj];omega),En hxa,GC (i:=i) (by rw[Bj];omega),hyv];have h6:BB^i*d+BB^i*v+BB^i*c=BB^i*a+BB^(i+1)*c':=by
   rw[CB,Bs,<-BK,<-BK,<-BK,hdig]
  omega
 ·have hi:i=x.length:=by
   have:¬i<x.length:=by simpa using h23
   omega
  subst hi;rw[B4 (Nat.le_of_eq h3),B4 (Ad _),B4 hle]at h5;have hlt:=G4 h4;rw[h3]at hlt;have hc0:c=0:=by
   rcases DR c with h|h
   ·exact h
   ·have:c=1:=by omega
    subst this;rw[Du]at h5;omega
  subst hc0;have hov:AT o=AT x-AT y:=by
   rw[EI]at h5;omega
  refine B5 ?_;refine AC.weak ⟨[(5,.sl false 1 (o.map AR))],[],_⟩ (TD h3) ?_;refine sR 1100 ?_;refine A9.same _ (trim_ok o h4 (by omega)) AI ?_;refine BN ?_;refine Af ?_;exact AQ (by rw[hov]) AA.out
theorem Ik:∀ {l:List Nat} {k o d:Nat},l[k]?=some o->AT (l.set k d)+BB^k*o=AT l+BB^k*d
 |a::l,0,o,d,h=>by
  simp only[Qk,BJ]at h;subst h;simp only[List.set_cons_zero,AT,LH,IX];omega
 |a::l,k+1,o,d,h=>by
  simp only[JC]at h;have ih:=Ik (d:=d) h;simp only[List.set_cons_succ,AT];have h1:BB^(k+1)*o=BB*(BB^k*o):=by rw[CB,BO (BB^k) BB,Bs]
  have h2:BB^(k+1)*d=BB*(BB^k*d):=by rw[CB,BO (BB^k) BB,Bs]
  have h3:BB*AT (l.set k d)+BB*(BB^k*o)=BB*AT l+BB*(BB^k*d):=by rw[<-BK,<-BK,ih]
  omega
theorem gC {x y o c:Nat}(hx:x<BB)(hy:y<BB)(ho:o<BB)(hc:c<BB):
  ∃hi lo c1 lo1 hi1 c2 lo2 c',hi=x*y/BB/\lo=x*y%BB/\lo1=(lo+o+0)%BB/\c1=(lo+o+0)/BB/\hi1=hi+c1/\hi1<BB/\lo2=(lo1+c+0)%BB/\c2=(lo1+c+0)/BB/\c'=hi1+c2/\c'<BB/\lo2<BB /\
   lo2+BB*c'=x*y+o+c:=by
 refine⟨_,_,_,_,_,_,_,_,rfl,rfl,rfl,rfl,rfl,?_,rfl,rfl,rfl,?_,By _ (by decide),?_⟩
 all_goals
  unfold BB at*;have e1:=EW (x*y) 18446744073709551616;have e2:=EW (x*y%18446744073709551616+o+0) 18446744073709551616;have e3:=EW ((x*y%18446744073709551616+o+0)%18446744073709551616+c+0) 18446744073709551616;have hxy:x*y<=(18446744073709551616-1)*(18446744073709551616-1):=H6 (by omega) (by omega);have hk:(18446744073709551616-1)*(18446744073709551616-1)=340282366920938463426481119284349108225:=by decide
  rw[hk]at hxy;have l1:=By (x*y) (show 18446744073709551616>0 by decide);have l2:=By (x*y%18446744073709551616+o+0) (show 18446744073709551616>0 by decide);have l3:=By ((x*y%18446744073709551616+o+0)%18446744073709551616+c+0) (show 18446744073709551616>0 by decide);generalize x*y=p at*;generalize hA:p/18446744073709551616=A at*;generalize hB:p%18446744073709551616=B at*;generalize hC:(B+o+0)/18446744073709551616=C at*;generalize hD:(B+o+0)%18446744073709551616=D at*;generalize hE:(D+c+0)/18446744073709551616=E at*;generalize hF:(D+c+0)%18446744073709551616=F at*;omega
theorem T8 {n:Nat}(h:n<BB):IntKind.u64.wrap (n:Int)=(n:Int):=wU (by omega) (by unfold BB at h;omega)
theorem lR (a b:List Nat)(ha:Wd a)(hb:Wd b)(hla:a.length<1000000)(hlb:b.length<1000000):AK C0 201 [wL a,wL b] (wD (AT a*AT b)):=by
 refine Ak.walk w1 YN rfl λF=>?_
 unfold wL;have ea:(((a.map AR).length:Nat):Int)=(a.length:Int):=by rw[Ap]
 have eb:(((b.map AR).length:Nat):Int)=(b.length:Int):=by rw[Ap]
 have wl:IntKind.i64.wrap ((a.length:Int)+(b.length:Int))=((a.length+b.length:Nat):Int):=by rw[wI (by omega) (by omega)];omega
 have r3:List.replicate (a.length+b.length) (ofV (.int .u64 0))=(List.replicate (a.length+b.length) 0).map AR:=by rw[JG];rfl
 refine sR 0 ?_;refine sZ 100 ?_;refine AU (Bk ea eb wl kN) ?_;refine AC.seq ?_;refine sZ 200 ?_;refine AU ea ?_;refine AC.block ?_;refine AC.loop (α:=Nat×List Nat×Nat) (λp=>⟨[(0,.sl false 1 (a.map AR)),(1,.sl false 1 (b.map AR)),(4,CD),(5,.osl 105 6 1 0 (a.length+b.length)),(20,.sl false 1 (a.map AR)),(21,i64 a.length),(22,i64 p.1)],[⟨105,6,225,1,p.2.1.map AR⟩],p.2.2⟩) (λp=>a.length-p.1)
  (λp=>p.1<=a.length/\p.2.1.length=a.length+b.length/\Wd p.2.1/\AT p.2.1=AT (a.take p.1)*AT b/\∀k,p.1+b.length<=k->∀d,p.2.1[k]?=some d->d=0) (0,List.replicate (a.length+b.length) 0,_)
  ⟨BS _,by simp,LY _,by simp[AT,Om],λk _ d hd=>ON (BE hd)⟩ (by rw[<-r3];exact AJ) ?_
 rintro⟨i,o,m⟩ F ⟨h1,h2,h3,h4,h5⟩;dsimp only at h1 h2 h3 h4 h5⊢;refine sR 300 ?_;refine AC.seq ?_;refine AL ?_
 (refine Br (λh23=>?_) (λh23=>?_))<;>(try simp only[Bb,Bq]at h23)<;>(try simp only[h23])
 ·have hi:i<a.length:=by simpa using h23
  obtain⟨x,hx⟩:∃x,a[i]?=some x:=⟨a[i],BH hi⟩
  have hx':=DD hx;have hxl:x<BB:=ha x (BE hx);have wi:IntKind.i64.wrap ((i:Int)+1)=((i+1:Nat):Int):=wI (by omega) (by omega);have hax:AT (a.take (i+1))=AT (a.take i)+BB^i*x:=by rw[En hx,GC (i:=i) (by rw[Bj];omega)]
  refine Am ?_;refine AC.seq ?_;refine AC.block ?_;refine sR 400 ?_;refine Bo kT hx' ?_;refine BN ?_;refine sR 500 ?_;refine AC.seq ?_;refine sZ 600 ?_;refine AU eb ?_;refine AC.block ?_;refine AC.loop (α:=Nat×Nat×List Nat×Nat) (λp=>⟨[(0,.sl false 1 (a.map AR)),(1,.sl false 1 (b.map AR)),(4,CD),(5,.osl 105 6 1 0 (a.length+b.length)),(6,i64 i),(7,AR x),(8,AR p.2.1),(20,.sl false 1 (a.map AR)),(21,i64 a.length),(22,i64 i),(27,.sl false 1 (b.map AR)),(28,i64 b.length),(29,i64 p.1)],[⟨105,6,225,1,p.2.2.1.map AR⟩],p.2.2.2⟩) (λp=>b.length-p.1)
   (λp=>p.1<=b.length/\p.2.1<BB/\p.2.2.1.length=a.length+b.length/\Wd p.2.2.1/\AT p.2.2.1+BB^(i+p.1)*p.2.1=AT (a.take i)*AT b+BB^i*x*AT (b.take p.1)/\∀k,i+b.length<=k->∀d,p.2.2.1[k]?=some d->d=0) (0,0,o,_)
   ⟨BS _,show 0<BB by decide,h2,h3,by simp[AT,h4],h5⟩ AJ ?_
  rintro⟨j,c,q,m2⟩ F ⟨g1,g2,g3,g4,g5,g6⟩;dsimp only at g1 g2 g3 g4 g5 g6⊢;clear h2 h3 h4 h5 r3 wl;refine sR 700 ?_;refine AC.seq ?_;refine AL ?_
  (refine Br (λh30=>?_) (λh30=>?_))<;>(try simp only[Bb,Bq]at h30)<;>(try simp only[h30])
  ·have hj:j<b.length:=by simpa using h30
   obtain⟨y,hy⟩:∃y,b[j]?=some y:=⟨b[j],BH hj⟩
   have hy':=DD hy;have hyl:y<BB:=hb y (BE hy);obtain⟨z,hz⟩:∃z,q[i+j]?=some z:=⟨q[i+j],BH (by omega)⟩
   have hz':=DD hz;have hzl:z<BB:=g4 z (BE hz);have wj:IntKind.i64.wrap ((j:Int)+1)=((j+1:Nat):Int):=wI (by omega) (by omega);have wij:IntKind.i64.wrap ((i:Int)+(j:Int))=((i+j:Nat):Int):=by rw[wI (by omega) (by omega)];omega
   have hbx:AT (b.take (j+1))=AT (b.take j)+BB^j*y:=by rw[En hy,GC (i:=j) (by rw[Bj];omega)]
   have cm:=M7 x y hxl hyl;obtain⟨hi',lo,c1,lo1,hi1,c2,lo2,c',e1,e2,e3,e4,e5,e6,e7,e8,e9,e10,e11,e12⟩:=gC hxl hyl hzl g2;rw[show x*y/18446744073709551616=hi' from e1.symm,show x*y%18446744073709551616=lo from e2.symm]at cm;have e3':(lo+z+0)%18446744073709551616=lo1:=e3.symm;have e4':(lo+z+0)/18446744073709551616=c1:=e4.symm;have e7':(lo1+c+0)%18446744073709551616=lo2:=e7.symm;have e8':(lo1+c+0)/18446744073709551616=c2:=e8.symm;have w6:IntKind.u64.wrap ((hi':Int)+(c1:Int))=(hi1:Int):=by rw[<-Int.natCast_add,<-e5];exact T8 e6
   have w7:IntKind.u64.wrap ((hi1:Int)+(c2:Int))=(c':Int):=by rw[<-Int.natCast_add,<-e9];exact T8 e10
   refine Am ?_;refine AC.seq ?_;refine AC.block ?_;refine sR 800 ?_;refine Bo kT hy' ?_;refine BN ?_;refine sR 900 ?_;refine A9.same _ cm AI ?_;refine BN ?_;refine sR 1000 ?_;refine sZ 1100 ?_;refine AE (E5 wij kN BR hz' e3' e4') ?_;refine sZ 1200 ?_;refine AU w6 ?_;refine sZ 1300 ?_;refine AU (Ae e7' e8') ?_;refine An w1 1400 (by kernel_rfl) ?_;refine AE (Cv wij w7 kN BR hz') ?_;rw[show(D.prim (Value.int IntKind.u64 (lo2:Int)))=AR lo2 from rfl,map_set];refine An w1 1500 (by kernel_rfl) ?_;refine AU wj ?_;refine⟨(j+1,c',q.set (i+j) lo2,_),⟨hj,e10,by dsimp only;rw[DT];exact g3,g4.set e11,?_,λk hk d hd=>?_⟩,by dsimp only;omega,AJ⟩
   ·dsimp only
    have hs:=Ik (d:=lo2) hz;rw[hbx,BK,<-EH (AT (a.take i)*AT b),<-g5];have h6:BB^(i+j)*lo2+BB^(i+(j+1))*c'=BB^i*x*(BB^j*y)+BB^(i+j)*z+BB^(i+j)*c:=by
     have:BB^i*x*(BB^j*y)=BB^(i+j)*(x*y):=by
      rw[FX,Bs,Bs,H4 x]
     rw[this,<-EH i j 1,CB,Bs,<-BK,<-BK,<-BK,e12]
    omega
   ·dsimp only at hk hd
    rw[Hx (by omega)]at hd;exact g6 k hk d hd
  ·have hj:j=b.length:=by
    have:¬j<b.length:=by simpa using h30
    omega
   subst hj;obtain⟨z,hz⟩:∃z,q[i+b.length]?=some z:=⟨q[i+b.length],BH (by omega)⟩
   have hz0:z=0:=g6 _ (Ad _) _ hz;subst hz0;have hz':=DD hz;have wij:IntKind.i64.wrap ((i:Int)+(b.length:Int))=((i+b.length:Nat):Int):=by rw[wI (by omega) (by omega)];omega
   have wij0:IntKind.i64.wrap ((i:Int)+(((b.map AR).length:Nat):Int))=((i+b.length:Nat):Int):=by rw[eb];exact wij
   refine B5 ?_;refine An w1 1600 (by kernel_rfl) ?_;refine AE (Cv eb wij kN BR hz') ?_;rw[map_set];refine An w1 1700 (by kernel_rfl) ?_;refine AU wi ?_;refine⟨(i+1,q.set (i+b.length) c,_),⟨hi,by dsimp only;rw[DT];exact g3,g4.set g2,?_,λk hk d hd=>?_⟩,by dsimp only;omega,AJ⟩
   ·dsimp only
    have hs:=Ik (d:=c) hz;rw[B4 (Ad _)]at g5;rw[hax,Bp];omega
   ·dsimp only at hk hd
    rw[Hx (by omega)]at hd;exact g6 k (by omega) d hd
 ·have hi:i=a.length:=by
   have:¬i<a.length:=by simpa using h23
   omega
  subst hi;rw[B4 (Ad _)]at h4;refine B5 ?_;refine AC.weak ⟨[(5,.sl false 1 (o.map AR))],[],_⟩ (TD h2) ?_;refine sR 1800 ?_;refine A9.same _ (trim_ok o h3 (by omega)) AI ?_;refine BN ?_;refine Af ?_;exact AQ (by rw[h4]) AA.out
structure GI where
 z:Int
 sm:Bool
def GI.wf (x:GI):Prop:=(x.sm=true→-9223372036854775808<=x.z/\x.z<9223372036854775808)/\(x.sm=false->¬Sm x.z)
def GI.s (x:GI):Int:=match x.sm with
 |true=>x.z
 |false=>if x.z<0 then -1 else 1
def GI.w (x:GI):D:=match x.sm with
 |true=>CD
 |false=>wD x.z.natAbs
abbrev GI.D (x:GI):D:=.agg [i64 x.s,x.w]
theorem rK (x:GI):B1 x.w:=by
 unfold GI.w;split
 ·exact .prim _
 ·exact Ji _
instance  (x:GI):AA x.w:=⟨rK x⟩
instance  (z:Int):Decidable (Sm z):=inferInstanceAs (Decidable (_/\_))
def AW (z:Int):GI:=⟨z,decide (Sm z)⟩
theorem CT (z:Int):(AW z).wf:=by
 refine⟨λh=>?_,λh=>?_⟩
 ·have h:Sm z:=C3 h
  exact⟨Int.le_of_lt h.1,h.2⟩
 ·exact DA h
theorem In {z:Int}(h:Sm z):AW z=⟨z,true⟩:=by unfold AW;rw[AY h]
theorem Sf {z:Int}(h:¬Sm z):AW z=⟨z,false⟩:=by unfold AW;rw[Ah h]
theorem LT {n:Nat}(h0:n≠0)(h:n<BB):Ab n=[n]:=by
 rw[Fd h0,DS h,Gr h,FM]
theorem Gz {n:Nat}(h:n≠0):(Ab n).map AR≠[]:=by rw[Fd h];simp
theorem ZI (x:GI)(h:x.wf):(x.s<0)=(x.z<0):=by
 obtain⟨z,sm⟩:=x;cases sm with
 |true=>rfl
 |false=>
  unfold GI.s;dsimp only;split<;>simp<;>omega
theorem tD {H Hf:Hp}(n:Nat)(h0:n≠0)(h:n<BB):Fz H Hf (.sl true 1 [AR n]) (wD n):=by
 unfold wD wL;rw[LT h0 h];exact .nn true 1 _
theorem ZR {H Hf:Hp}{a b c d:D}(h:Fz H Hf a c)(k:Fz H Hf b d):Fz H Hf (.tup [a,b]) (.tup [c,d]):=.tup rfl λi x y hx hy=>by
 match i with
 | 0=>simp at hx hy;subst hx;subst hy;exact h
 | 1=>simp at hx hy;subst hx;subst hy;exact k
 |i+2=>simp at hx
instance  (a b:Nat):AA (.tup [wD a,wD b]):=AI
theorem ja:AK C0 198 [i64 (-9223372036854775808)] (AR 9223372036854775808):=B8 DG 1000 40 (by kernel_rfl)
theorem NX {z:Int}(h1 : -9223372036854775808<=z)(h2:z<9223372036854775808):AK C0 198 [i64 z] (AR z.natAbs):=by
 by_cases h:z = -9223372036854775808
 ·subst h;exact ja
 ·exact kp z ⟨by omega,h2⟩
theorem Ij (x:GI)(h:x.wf):AK C0 199 [x.D] (.tup [Au (decide (x.z<0)),wD x.z.natAbs]):=by
 refine Ak.walk w1 YL rfl λF=>?_
 obtain⟨z,sm⟩:=x;obtain⟨h1,h2⟩:=h;unfold GI.D GI.s GI.w;cases sm with
 |true=>
  obtain⟨h3,h4⟩:=h1 rfl;dsimp only at h3 h4⊢;have cs:=NX h3 h4;refine sR 0 ?_;refine AC.seq ?_;refine AC.block ?_;refine sR 100 ?_;refine AL ?_;refine sR 300 ?_;refine AL ?_
  (refine Br (λh13=>?_) (λh13=>?_))<;>(try simp only[Bb,Bq]at h13)<;>(try simp only[h13])
  ·have hz:z=0:=by simpa using h13
   subst hz;refine sR 400 ?_;refine Af ?_;refine⟨_,ZR (.refl _) (c:=Au (decide ((0:Int)<0))) (d:=wD (Int.natAbs 0)) ?_,AA.out,rfl⟩;show Fz _ _ CD (wD 0);unfold wD wL;rw[FM];exact .nil 1
  ·have hz:z≠0:=by simpa using h13
   refine Am ?_;refine AC.seq ?_;refine B3 w1 500 [0,1,2,3,4,5,6,7] [8] (by kernel_rfl) ?_;refine AE kN ?_;refine BT.same _ cs AI ?_;refine BN ?_;refine Af ?_;refine⟨_,ZR (.refl _) (c:=Au (decide (z<0))) (tD z.natAbs (by omega) (by unfold BB;omega)),AA.out,rfl⟩
 |false=>
  have hb:=h2 rfl;have hs:=ZI ⟨z,false⟩ ⟨h1,h2⟩;unfold GI.s at hs;dsimp only at hb hs⊢;have hne:=Gz (n:=z.natAbs) (by intro h0;apply hb;exact⟨by omega,by omega⟩);have hp:B1 (.sl false 1 ((Ab z.natAbs).map AR)):=Ji _;unfold wD wL;generalize(Ab z.natAbs).map AR=l at*;generalize(if z<0 then(-1:Int)else 1)=sg at*;refine sR 0 ?_;refine AC.seq ?_;refine AC.block ?_;refine sZ 100 ?_;refine AU (Av (@ne_eq (List D)) hne EC) ?_;refine AL ?_;refine AC.seq ?_;refine B3 w1 200 [0,1,2,3,4,5] [6] (by kernel_rfl) ?_;refine BN ?_;refine Af ?_;refine AQ ?_ (.tup λd hd=>?_)
  ·simp only[hs]
  ·simp only[BA,DK,or_false]at hd
   rcases hd with rfl|rfl
   ·exact .prim _
   ·exact hp
def Dj (neg:Bool)(n:Nat):Int:=match neg with
 |true=>-(n:Int)
 |false=>n
theorem Kk (neg:Bool)(n:Nat)(hlen:(Ab n).length<4000000):AK C0 200 [Au neg,wD n] (AW (Dj neg n)).D:=by
 refine Ak.walk w1 YM rfl λF=>?_
 by_cases h0:n=0
 ·subst h0
  have e:AW (Dj neg 0)=⟨0,true⟩:=by cases neg<;>exact In ⟨by decide,by decide⟩
  rw[e];unfold wD wL GI.D GI.s GI.w;rw[FM];dsimp only[List.map];refine sR 0 ?_;refine AC.seq ?_;refine AC.block ?_;refine sR 100 ?_;refine AL ?_;refine sR 200 ?_;refine Af ?_;exact AQ rfl AA.out
 ·by_cases h1:n<BB
  ·have hl:=LT h0 h1
   have b1:(((1:Nat):Int)==0)=false:=rfl;have b2:(((1:Nat):Int)==1)=true:=rfl;have hx:[AR n][(0:Int).toNat]?=some (AR n):=rfl
   by_cases h2:n<=9223372036854775807
   ·have b3:decide ((n:Int)<=9223372036854775807)=true:=AY (by omega)
    have hsm:Sm (Dj neg n):=by unfold Dj;split<;>exact⟨by omega,by omega⟩
    rw[In hsm];unfold wD wL GI.D GI.s GI.w;rw[hl];dsimp only[List.map];have w1':IntKind.i64.wrap (n:Int)=(n:Int):=wN h2;have w2':IntKind.i64.wrap (0-(n:Int)) = -(n:Int):=by rw[wI (by omega) (by omega)];omega
    cases neg with
    |true=>
     unfold Dj;dsimp only;refine sR 0 ?_;refine AC.seq ?_;refine AC.block ?_;refine sZ 100 ?_;refine AU b1 ?_;refine AL ?_;refine sZ 300 ?_;refine AE (Ae b2 b3) ?_;refine AE (Ae b2 b3) ?_;refine Bo b2 hx ?_;refine AE (Ae b2 b3) ?_;refine AE (Ae b2 b3) ?_;refine AL ?_;refine sZ 400 ?_;refine AE b2 ?_;refine Bo b2 hx ?_;refine AE (Ae w1' w2') ?_;refine Af ?_;exact AQ rfl AA.out
    |false=>
     unfold Dj;dsimp only;refine sR 0 ?_;refine AC.seq ?_;refine AC.block ?_;refine sZ 100 ?_;refine AU b1 ?_;refine AL ?_;refine sZ 300 ?_;refine AE (Ae b2 b3) ?_;refine AE (Ae b2 b3) ?_;refine Bo b2 hx ?_;refine AE (Ae b2 b3) ?_;refine AE (Ae b2 b3) ?_;refine AL ?_;refine sZ 500 ?_;refine AE (Ae b2 b3) ?_;refine AE (Ae b2 b3) ?_;refine Bo b2 hx ?_;refine AE (Ae b2 b3) ?_;refine AE (Ae b2 b3) ?_;refine AL ?_;refine sZ 600 ?_;refine AE b2 ?_;refine Bo b2 hx ?_;refine AE (Ae w1' w2') ?_;refine Af ?_;exact AQ rfl AA.out
   ·have b3:decide ((n:Int)<=9223372036854775807)=false:=Ah (by omega)
    have hsm:¬Sm (Dj neg n):=by
     intro hs;have h3:=hs.1;have h4:=hs.2
     revert h3 h4
     unfold Dj;split<;>intro h3 h4<;>omega
    rw[Sf hsm];have ha:(Dj neg n).natAbs=n:=by unfold Dj;split<;>omega
    unfold GI.D GI.s GI.w;dsimp only;rw[ha];unfold wD wL;rw[hl];dsimp only[List.map];cases neg with
    |true=>
     have hs:(if Dj true n<0 then(-1:Int)else 1) = -1:=AH (by show -(n:Int)<0;omega);rw[hs];refine sR 0 ?_;refine AC.seq ?_;refine AC.block ?_;refine sZ 100 ?_;refine AU b1 ?_;refine AL ?_;refine sZ 300 ?_;refine AE (Ae b2 b3) ?_;refine AE (Ae b2 b3) ?_;refine Bo b2 hx ?_;refine AE (Ae b2 b3) ?_;refine AE (Ae b2 b3) ?_;refine AL ?_;refine sZ 500 ?_;refine AE (Ae b2 b3) ?_;refine AE (Ae b2 b3) ?_;refine Bo b2 hx ?_;refine AE (Ae b2 b3) ?_;refine AE (Ae b2 b3) ?_;refine AL ?_;refine sR 700 ?_;refine AL ?_;refine sR 800 ?_;refine Af ?_;exact AQ rfl AA.out
    |false=>
     have hs:(if Dj false n<0 then(-1:Int)else 1)=1:=AG (by show ¬(n:Int)<0;omega);rw[hs];refine sR 0 ?_;refine AC.seq ?_;refine AC.block ?_;refine sZ 100 ?_;refine AU b1 ?_;refine AL ?_;refine sZ 300 ?_;refine AE (Ae b2 b3) ?_;refine AE (Ae b2 b3) ?_;refine Bo b2 hx ?_;refine AE (Ae b2 b3) ?_;refine AE (Ae b2 b3) ?_;refine AL ?_;refine sZ 500 ?_;refine AE (Ae b2 b3) ?_;refine AE (Ae b2 b3) ?_;refine Bo b2 hx ?_;refine AE (Ae b2 b3) ?_;refine AE (Ae b2 b3) ?_;refine AL ?_;refine sR 700 ?_;refine AL ?_;refine Am ?_;refine sR 900 ?_;refine Af ?_;exact AQ rfl AA.out
  ·have hl2:2<=(Ab n).length:=by
    rw[Fd h0,Fd (n:=n/BB) (by
     intro h
     have:=EJ n BB
     have:=By n (show BB>0 by decide)
     rw[h]at*;omega)]
    simp
   have hsm:¬Sm (Dj neg n):=by
    intro hs;have h3:=hs.1;have h4:=hs.2;have h5:BB<=n:=by omega
    unfold BB at h5
    revert h3 h4
    unfold Dj;split<;>intro h3 h4<;>omega
   rw[Sf hsm];have ha:(Dj neg n).natAbs=n:=by unfold Dj;split<;>omega
   have hp:AA (.sl false 1 ((Ab n).map AR)):=⟨Ji _⟩
   unfold GI.D GI.s GI.w;dsimp only;rw[ha];unfold wD wL;have hel:((((Ab n).map AR).length:Nat):Int)=((Ab n).length:Int):=by rw[Ap]
   generalize(Ab n).map AR=l at*;generalize hL:(Ab n).length=L at*;have b1:((L:Int)==0)=false:=Bw.2 (by omega);have b2:((L:Int)==1)=false:=Bw.2 (by omega);cases neg with
   |true=>
    have hs:(if Dj true n<0 then(-1:Int)else 1) = -1:=AH (by show -(n:Int)<0;omega);rw[hs];refine sR 0 ?_;refine AC.seq ?_;refine AC.block ?_;refine sZ 100 ?_;refine AU (Ae hel b1) ?_;refine AL ?_;refine sZ 300 ?_;refine AU (Ae hel b2) ?_;refine AE (Ae hel b2) ?_;refine AE (Ae hel b2) ?_;refine AL ?_;refine sZ 500 ?_;refine AU (Ae hel b2) ?_;refine AE (Ae hel b2) ?_;refine AL ?_;refine sR 700 ?_;refine AL ?_;refine sR 800 ?_;refine Af ?_;exact AQ rfl AA.out
   |false=>
    have hs:(if Dj false n<0 then(-1:Int)else 1)=1:=AG (by show ¬(n:Int)<0;omega);rw[hs];refine sR 0 ?_;refine AC.seq ?_;refine AC.block ?_;refine sZ 100 ?_;refine AU (Ae hel b1) ?_;refine AL ?_;refine sZ 300 ?_;refine AU (Ae hel b2) ?_;refine AE (Ae hel b2) ?_;refine AE (Ae hel b2) ?_;refine AL ?_;refine sZ 500 ?_;refine AU (Ae hel b2) ?_;refine AE (Ae hel b2) ?_;refine AL ?_;refine sR 700 ?_;refine AL ?_;refine Am ?_;refine sR 900 ?_;refine Af ?_;exact AQ rfl AA.out
theorem Lu (x:GI)(h:x.wf):AK C0 194 [x.D] (i64 (max (-1) (min 1 x.z))):=by
 refine Ak.walk w1 YH rfl λF=>?_
 have e:max (-1) (min 1 x.s)=max (-1) (min 1 x.z):=by
  obtain⟨z,sm⟩:=x;cases sm with
  |true=>rfl
  |false=>
   have hb:=h.2 rfl;unfold GI.s;dsimp only at hb⊢;unfold Sm at hb;split<;>omega
 refine fR 0 ?_;refine fR 100 ?_;rw[e];refine Af ?_;exact AQ rfl AA.out
theorem j9 (z:Int):Dj (!decide (z<0)) z.natAbs = -z:=by
 by_cases h:z<0
 ·rw[AY h];show((z.natAbs:Nat):Int) = -z;omega
 ·rw[Ah h];show -((z.natAbs:Nat):Int) = -z;omega
def GI.few (x:GI):Prop:=(Ab x.z.natAbs).length<1000000
theorem Nm (x:GI)(h:x.wf)(hf:x.few):AK C0 193 [x.D] (AW (-x.z)).D:=by
 by_cases hs:x.sm=true/\x.z ≠ -9223372036854775808
 ·obtain⟨z,sm⟩:=x
  obtain⟨rfl,hz⟩:=hs;have h1:=h.1 rfl;dsimp only at h1 hz⊢;have hsm:Sm z:=⟨by omega,h1.2⟩
  have:=qP z hsm
  rw[In ⟨by have:=hsm.2;omega,by have:=hsm.1;omega⟩];exact this
 ·refine Ak.walk w1 Sr rfl λF=>?_
  have cp:=Ij x h;have cm:=Kk (!decide (x.z<0)) x.z.natAbs (FW hf (by decide));rw[j9]at cm;have hpr:AA (AW (-x.z)).w:=AI;dsimp only[GI.D]at cp cm⊢;generalize(AW (-x.z)).s=rs at*;generalize(AW (-x.z)).w=rw at*;obtain⟨z,sm⟩:=x;unfold GI.s GI.w at*;cases sm with
  |true=>
   have hz:z = -9223372036854775808:=DH λh0=>hs ⟨rfl,h0⟩
   subst hz;dsimp only at cp cm⊢;refine fR 0 ?_;refine AC.seq ?_;refine sZ 100 ?_
   repeat'(first|(refine And.intro (by exact Bz) ?_;refine At ?_)|((refine Br (λhb=>?_) (λhb=>?_))<;>(try simp only[Bb,Bq]at hb)<;>(try simp only[hb])<;>(refine At ?_)))
   refine AL ?_;refine Am ?_;refine fR 300 ?_;refine dI cp ?_;refine fR 400 ?_;refine dI cm ?_;refine Af ?_;exact AQ rfl AA.out
  |false=>
   have hne:=Gz (n:=z.natAbs) (by
    intro h0
    have:=h.2 rfl
    apply this;exact⟨by dsimp only;omega,by dsimp only;omega⟩)
   dsimp only at cp cm⊢;unfold wD wL at*;have hp:AA (.sl false 1 ((Ab z.natAbs).map AR)):=⟨Ji _⟩
   generalize(Ab z.natAbs).map AR=l at*;generalize(if z<0 then(-1:Int)else 1)=sg at*;generalize decide (z<0)=nb at*;refine fR 0 ?_;refine AC.seq ?_;refine AC.seq ?_;refine An w1 100 (by kernel_rfl) ?_;refine AU (Av (@ne_eq (List D)) hne EC) ?_;refine AE kT ?_;refine AE kT ?_;refine AL ?_;refine Am ?_;refine fR 300 ?_;refine dI cp ?_;refine fR 400 ?_;refine dI cm ?_;refine Af ?_;exact AQ rfl AA.out
theorem tw (a b:Nat)(ha:(Ab a).length<1000000)(hb:(Ab b).length<1000000):AK C0 202 [wD a,wD b] (wD (a+b)):=by
 have:=kE (Ab a) (Ab b) (Eo a) (Eo b) (FW ha (by decide)) (FW hb (by decide))
 rwa [EZ,EZ]at this
theorem bB (a b:Nat)(h:b<=a)(ha:(Ab a).length<1000000):AK C0 204 [wD a,wD b] (wD (a-b)):=by
 have:=ly (Ab a) (Ab b) (Eo a) (Eo b) (FW ha (by decide)) (Gx b a h) (by rw[EZ,EZ];exact h)
 rwa [EZ,EZ]at this
theorem tj (a b:Nat)(ha:(Ab a).length<1000000)(hb:(Ab b).length<1000000):AK C0 201 [wD a,wD b] (wD (a*b)):=by
 have:=lR (Ab a) (Ab b) (Eo a) (Eo b) ha hb
 rwa [EZ,EZ]at this
theorem GU {n k:Nat}(h:n<BB^k):(Ab n).length<=k:=by
 induction k generalizing n with
 |zero=>
  have:n=0:=by simpa using h
  subst this;rw[FM];exact Ad _
 |succ k ih=>
  by_cases h0:n=0
  ·subst h0;rw[FM];exact BS _
  ·rw[Fd h0,Bl]
   exact Nat.succ_le_succ (ih (Ej (by rw[BO,<-CB];exact h)))
theorem Ii (n:Nat):n<BB^(Ab n).length:=by
 have:=G4 (Eo n)
 rwa [EZ]at this
theorem Vm (a b:Nat):(Ab (a+b)).length<=max (Ab a).length (Ab b).length+1:=by
 refine GU ?_;have h1:=Ii a;have h2:=Ii b;have m1:BB^(Ab a).length<=BB^max (Ab a).length (Ab b).length:=E4 (by decide) (Nat.le_max_left _ _);have m2:BB^(Ab b).length<=BB^max (Ab a).length (Ab b).length:=E4 (by decide) (Nat.le_max_right _ _);rw[CB];generalize BB^max (Ab a).length (Ab b).length=q at*;unfold BB;omega
theorem Vn (a b:Nat):(Ab (a-b)).length<=(Ab a).length:=Gx _ _ (Nat.sub_le _ _)
def Dt (x y:GI):GI:=if x.sm=true/\y.sm=true/\x.z+y.z = -9223372036854775808 then⟨x.z+y.z,true⟩else AW (x.z+y.z)
theorem Lp (x y:GI):(Dt x y).z=x.z+y.z:=by unfold Dt;split<;>rfl
theorem Lc (x y:GI):(Dt x y).wf:=by
 unfold Dt;split
 ·rename_i h
  refine⟨λ_=>?_,λh=>by cases h⟩;dsimp only;rw[h.2.2];decide
 ·exact CT _
theorem fV (x y:GI)(hx:x.sm=true)(hy:y.sm=true)(h1 : -9223372036854775808<=x.z+y.z)(h2:x.z+y.z<9223372036854775808):AK C0 154 [x.D,y.D] (Dt x y).D:=by
 obtain⟨a,sa⟩:=x;obtain⟨b,sb⟩:=y;dsimp only at hx hy h1 h2;subst hx;subst hy;have e:(Dt ⟨a,true⟩ ⟨b,true⟩).D=Co (a+b):=by
  unfold Dt;dsimp only;split
  ·rfl
  ·rename_i h
   have h3:¬a+b = -9223372036854775808:=λh0=>h ⟨rfl,rfl,h0⟩
   rw[In ⟨by omega,h2⟩];rfl
 rw[e];show AK C0 _ [Co a,Co b] _;refine Ak.walk w1 Sp rfl λF=>?_
 refine fR 0 ?_;refine AC.seq ?_;refine sZ 100 ?_
 repeat'(first|(refine And.intro (by exact Bz) ?_;refine At ?_)|((refine Br (λhb=>?_) (λhb=>?_))<;>(try simp only[Bb,Bq]at hb)<;>(try simp only[hb])<;>(refine At ?_)))
 refine AL ?_;have e1:IntKind.i64.wrap (a+b)=a+b:=wI (by omega) (by omega);have e2:(decide (a+b>a)==decide (b>0))=true:=by
  rw[Dv,C4];omega
 refine sZ 200 ?_;refine JK e1 ?_;refine fR 300 ?_;rw[e2];refine AL ?_;refine fR 400 ?_;refine Af ?_;exact AQ rfl AA.out
theorem kD (x y:GI)(hx:x.wf)(hy:y.wf)(fx:x.few)(fy:y.few)(hn:¬(x.sm=true/\y.sm=true∧-9223372036854775808<=x.z+y.z/\x.z+y.z<9223372036854775808)):AK C0 154 [x.D,y.D] (AW (x.z+y.z)).D:=by
 refine Ak.walk w1 Sp rfl λF=>?_
 have cx:=Ij x hx;have cy:=Ij y hy;have hpr:AA (AW (x.z+y.z)).w:=AI;have hpx:AA x.w:=AI;have hpy:AA y.w:=AI;have la:=Vm x.z.natAbs y.z.natAbs;have ls:=Vn x.z.natAbs y.z.natAbs;have ls':=Vn y.z.natAbs x.z.natAbs;unfold GI.few at fx fy;dsimp only[GI.D]at*;refine fR 0 ?_;refine Db ⟨[(2,.optr 0 0 2 0 0),(3,.optr 1 1 2 0 0),(4,.optr 2 2 2 0 0)],[⟨2,2,139,2,[Co 0]⟩,⟨1,1,139,2,[.agg [i64 y.s,y.w]]⟩,⟨0,0,139,2,[.agg [i64 x.s,x.w]]⟩],60⟩ ?_ ?_
 ·obtain⟨a,sa⟩:=x
  obtain⟨b,sb⟩:=y;clear cx cy la ls ls' hpr;have nx:sa=false->(Ab a.natAbs).map AR≠[]:=λh=>Gz (by
   intro h0;subst h;exact hx.2 rfl ⟨by dsimp only;omega,by dsimp only;omega⟩)
  have ny:sb=false->(Ab b.natAbs).map AR≠[]:=λh=>Gz (by
   intro h0;subst h;exact hy.2 rfl ⟨by dsimp only;omega,by dsimp only;omega⟩)
  unfold GI.s GI.w wD wL at*;dsimp only at*;generalize(Ab a.natAbs).map AR=ka at*;generalize(Ab b.natAbs).map AR=kb at*;cases sa with
  |false=>
   have nx:=nx rfl;dsimp only at*;generalize(if a<0 then(-1:Int)else 1)=sg at*;generalize(match sb with|true=>b|false=>if b<0 then(-1:Int)else 1)=sh at*;generalize(match sb with|true=>CD|false=>D.sl false 1 kb)=wy at*;refine AC.seq ?_;refine An w1 100 (by kernel_rfl) ?_;refine AU (Av (@ne_eq (List D)) nx EC) ?_;refine AE kT ?_;refine AE kT ?_;refine AL ?_;refine Am ?_;exact And.intro (by trivial) (AJ)
  |true=>
   dsimp only at*;cases sb with
   |false=>
    have ny:=ny rfl;dsimp only at*;generalize(if b<0 then(-1:Int)else 1)=sh at*;refine AC.seq ?_;refine An w1 100 (by kernel_rfl) ?_;refine AU (Av (@ne_eq (List D)) ny EC) ?_;refine AE (Bk kT (@ne_eq (List D)) ny EC) ?_;refine AE (Bk kT (@ne_eq (List D)) ny EC) ?_;refine AL ?_;refine Am ?_;exact And.intro (by trivial) (AJ)
   |true=>
    have ra:=hx.1 rfl;have rb:=hy.1 rfl;dsimp only at*;have e2:(decide (IntKind.i64.wrap (a+b)>a)==decide (b>0))=false:=by
     have hov:¬(-9223372036854775808<=a+b/\a+b<9223372036854775808):=λh=>hn ⟨rfl,rfl,h.1,h.2⟩
     have ew:IntKind.i64.wrap (a+b)=a+b-18446744073709551616/\9223372036854775808<=a+b\/IntKind.i64.wrap (a+b)=a+b+18446744073709551616/\a+b < -9223372036854775808:=by
      have e1:(2:Int)^IntKind.i64.bits=18446744073709551616:=rfl;have e2:(2:Int)^(IntKind.i64.bits-1)=9223372036854775808:=rfl;have e3:IntKind.i64.signed=true:=rfl;unfold IntKind.wrap;simp only[e1,e2,e3,IZ,Gp];split<;>omega
     rw[Bw,ne_eq,C4];omega
    refine sZ 100 ?_
    repeat'(first|(refine And.intro (by exact Bz) ?_;refine At ?_)|((refine Br (λhb=>?_) (λhb=>?_))<;>(try simp only[Bb,Bq]at hb)<;>(try simp only[hb])<;>(refine At ?_)))
    refine AL ?_;refine fR 200 ?_;refine fR 300 ?_;rw[e2];refine AL ?_;refine Am ?_;exact And.intro (by trivial) (AJ)
 ·refine fR 500 ?_
  refine dI cx ?_;refine fR 600 ?_;refine dI cy ?_;refine AC.seq ?_;refine AC.block ?_;refine fR 700 ?_
  by_cases hs:(decide (x.z<0))=(decide (y.z<0))
  ·have e1:(decide (x.z<0)==decide (y.z<0))=true:=Dv.2 hs
   rw[e1];have ca:=tw x.z.natAbs y.z.natAbs fx fy;have cm:=Kk (decide (x.z<0)) (x.z.natAbs+y.z.natAbs) (by omega);have ez:Dj (decide (x.z<0)) (x.z.natAbs+y.z.natAbs)=x.z+y.z:=by
    rw[C4]at hs
    by_cases h:x.z<0
    ·rw[AY h];have:=hs.1 h;show -(((x.z.natAbs+y.z.natAbs:Nat)):Int)=_;omega
    ·rw[Ah h];have:¬y.z<0:=λh0=>h (hs.2 h0);show(((x.z.natAbs+y.z.natAbs:Nat)):Int)=_;omega
   rw[ez]at cm;dsimp only[GI.D]at cm;refine AL ?_;refine fR 800 ?_;refine dI ca ?_;refine dI cm ?_;refine Af ?_;exact AQ rfl AA.out
  ·have e1:(decide (x.z<0)==decide (y.z<0))=false:=Bw.2 hs
   rw[e1];have cc:=PR x.z.natAbs y.z.natAbs (by omega) (by omega);refine AL ?_;refine fR 900 ?_;refine dI cc ?_
   by_cases hc:y.z.natAbs<=x.z.natAbs
   ·have e2:decide (Dh (x.z.natAbs:Nat) (y.z.natAbs:Nat)>=0)=true:=AY (by unfold Dh;split<;>(try split)<;>omega)
    rw[e2];have ca:=bB x.z.natAbs y.z.natAbs hc fx;have cm:=Kk (decide (x.z<0)) (x.z.natAbs-y.z.natAbs) (by omega);have ez:Dj (decide (x.z<0)) (x.z.natAbs-y.z.natAbs)=x.z+y.z:=by
     rw[C4]at hs
     by_cases h:x.z<0
     ·rw[AY h];have:¬y.z<0:=λh0=>hs ⟨λ_=>h0,λ_=>h⟩;show -(((x.z.natAbs-y.z.natAbs:Nat)):Int)=_;omega
     ·rw[Ah h];have:y.z<0:=DH λh0=>hs ⟨λh1=>Aj h1 h,λh1=>Aj h1 h0⟩;show(((x.z.natAbs-y.z.natAbs:Nat)):Int)=_;omega
    rw[ez]at cm;dsimp only[GI.D]at cm;refine AL ?_;refine fR 1000 ?_;refine dI ca ?_;refine dI cm ?_;refine Af ?_;exact AQ rfl AA.out
   ·have e2:decide (Dh (x.z.natAbs:Nat) (y.z.natAbs:Nat)>=0)=false:=Ah (by unfold Dh;split<;>(try split)<;>omega)
    rw[e2];have ca:=bB y.z.natAbs x.z.natAbs (by omega) fy;have cm:=Kk (decide (y.z<0)) (y.z.natAbs-x.z.natAbs) (by omega);have ez:Dj (decide (y.z<0)) (y.z.natAbs-x.z.natAbs)=x.z+y.z:=by
     rw[C4]at hs
     by_cases h:y.z<0
     ·rw[AY h];have:¬x.z<0:=λh0=>hs ⟨λ_=>h,λ_=>h0⟩;show -(((y.z.natAbs-x.z.natAbs:Nat)):Int)=_;omega
     ·rw[Ah h];have:x.z<0:=DH λh0=>hs ⟨λh1=>Aj h1 h0,λh1=>Aj h1 h⟩;show(((y.z.natAbs-x.z.natAbs:Nat)):Int)=_;omega
    rw[ez]at cm;dsimp only[GI.D]at cm;refine AL ?_;refine Am ?_;refine fR 1100 ?_;refine dI ca ?_;refine dI cm ?_;refine Af ?_;exact AQ rfl AA.out
theorem Ng (x y:GI)(hx:x.wf)(hy:y.wf)(fx:x.few)(fy:y.few):AK C0 154 [x.D,y.D] (Dt x y).D:=by
 by_cases h:x.sm=true/\y.sm=true∧-9223372036854775808<=x.z+y.z/\x.z+y.z<9223372036854775808
 ·exact fV x y h.1 h.2.1 h.2.2.1 h.2.2.2
 ·have:=kD x y hx hy fx fy h
  have e:Dt x y=AW (x.z+y.z):=by
   unfold Dt;rw[AG];rintro⟨h1,h2,h3⟩;exact h ⟨h1,h2,by omega,by omega⟩
  rw[e];exact this
theorem Wn {z:Int}(h:(Ab z.natAbs).length<1000000):(AW (-z)).few:=by
 show(Ab (-z).natAbs).length<1000000;rw[LD];exact h
def Hu (x y:GI):GI:=Dt x (AW (-y.z))
theorem ZL (x y:GI):(Hu x y).z=x.z-y.z:=by unfold Hu;rw[Lp];show x.z + -y.z=_;omega
theorem XY (x y:GI):(Hu x y).wf:=Lc _ _
theorem ab (x y:GI)(hx:x.wf)(hy:y.wf)(fx:x.few)(fy:y.few):AK C0 282 [x.D,y.D] (Hu x y).D:=by
 refine Ak.walk w1 Zb rfl λF=>?_
 have c1:=Nm y hy fy;have c2:=Ng x (AW (-y.z)) hx (CT _) fx (Wn fy);unfold Hu;refine fR 0 ?_;refine AC.seq ?_;refine B3 w1 100 [0,1,2] [3,4] (by kernel_rfl) ?_;refine B6 ?_;refine BT.same _ (c1) AI ?_;refine B6 ?_;refine dI c2 ?_;refine Af ?_;exact AQ rfl AA.out
theorem rY (x y:GI)(hx:x.wf)(hy:y.wf)(fx:x.few)(fy:y.few):AK C0 272 [x.D,y.D] (i64 (Dh x.z y.z)):=by
 by_cases h:x.sm=true/\y.sm=true
 ·obtain⟨a,sa⟩:=x
  obtain⟨b,sb⟩:=y;obtain⟨h1,h2⟩:=h;dsimp only at h1 h2;subst h1;subst h2;exact ky a b
 ·have cs:=ab x y hx hy fx fy
  have cg:=Lu (Hu x y) (XY x y);rw[ZL]at cg;have e:max (-1) (min 1 (x.z-y.z))=Dh x.z y.z:=by unfold Dh;split<;>(try split)<;>omega
  rw[e]at cg;have hpr:AA (Hu x y).w:=AI;have hpx:AA x.w:=AI;have hpy:AA y.w:=AI;dsimp only[GI.D]at*;generalize(Hu x y).s=rs at*;generalize(Hu x y).w=rw at*;generalize Dh x.z y.z=r at*;refine Ak.walk w1 Su rfl λF=>?_
  obtain⟨a,sa⟩:=x;obtain⟨b,sb⟩:=y;have nx:sa=false->(Ab a.natAbs).map AR≠[]:=λh=>Gz (by
   intro h0;subst h;exact hx.2 rfl ⟨by dsimp only;omega,by dsimp only;omega⟩)
  have ny:sb=false->(Ab b.natAbs).map AR≠[]:=λh=>Gz (by
   intro h0;subst h;exact hy.2 rfl ⟨by dsimp only;omega,by dsimp only;omega⟩)
  unfold GI.s GI.w wD wL at*;dsimp only at*;generalize(Ab a.natAbs).map AR=ka at*;generalize(Ab b.natAbs).map AR=kb at*;cases sa with
  |false=>
   have nx:=nx rfl;dsimp only at*;generalize(if a<0 then(-1:Int)else 1)=sg at*;generalize(match sb with|true=>b|false=>if b<0 then(-1:Int)else 1)=sh at*;generalize(match sb with|true=>CD|false=>D.sl false 1 kb)=wy at*;refine fR 0 ?_;refine AC.seq ?_;refine AC.seq ?_;refine An w1 100 (by kernel_rfl) ?_;refine AU (Av (@ne_eq (List D)) nx EC) ?_;refine AE kT ?_;refine AE kT ?_;refine AL ?_;refine Am ?_;refine fR 700 ?_;refine dI cs ?_;refine dI cg ?_;refine Af ?_;exact AQ rfl AA.out
  |true=>
   dsimp only at*;cases sb with
   |false=>
    have ny:=ny rfl;dsimp only at*;generalize(if b<0 then(-1:Int)else 1)=sh at*;refine fR 0 ?_;refine AC.seq ?_;refine AC.seq ?_;refine An w1 100 (by kernel_rfl) ?_;refine AU (Av (@ne_eq (List D)) ny EC) ?_;refine AE (Bk kT (@ne_eq (List D)) ny EC) ?_;refine AE (Bk kT (@ne_eq (List D)) ny EC) ?_;refine AL ?_;refine Am ?_;refine fR 700 ?_;refine dI cs ?_;refine dI cg ?_;refine Af ?_;exact AQ rfl AA.out
   |true=>exact Aj ⟨rfl,rfl⟩ h
theorem KT (a b:Nat):(Ab (a*b)).length<=(Ab a).length+(Ab b).length:=by
 refine GU ?_;rw[FX];exact Nat.mul_lt_mul'' (Ii a) (Ii b)
theorem j8 (a b:Int):Dj (decide (a<0) != decide (b<0)) (a.natAbs*b.natAbs)=a*b:=by
 rw[<-MZ]
 by_cases h1:a<0<;>by_cases h2:b<0
 ·rw[AY h1,AY h2]
  have:0<=a*b:=Int.mul_nonneg_of_nonpos_of_nonpos (by omega) (by omega)
  show(((a*b).natAbs:Nat):Int)=a*b;omega
 ·rw[AY h1,Ah h2]
  have:a*b<=0:=Int.mul_nonpos_of_nonpos_of_nonneg (by omega) (by omega)
  show -(((a*b).natAbs:Nat):Int)=a*b;omega
 ·rw[Ah h1,AY h2]
  have:a*b<=0:=Int.mul_nonpos_of_nonneg_of_nonpos (by omega) (by omega)
  show -(((a*b).natAbs:Nat):Int)=a*b;omega
 ·rw[Ah h1,Ah h2]
  have:0<=a*b:=Int.mul_nonneg (by omega) (by omega)
  show(((a*b).natAbs:Nat):Int)=a*b;omega
theorem lO (x y:GI)(hx:x.wf)(hy:y.wf)(fx:(Ab x.z.natAbs).length<400000)(fy:(Ab y.z.natAbs).length<400000)(hn:¬(x.sm=true/\y.sm=true/\(x.z*y.z).natAbs<=9223372036854775807)):AK C0 151 [x.D,y.D] (AW (x.z*y.z)).D:=by
 refine Ak.walk w1 So rfl λF=>?_
 have cx:=Ij x hx;have cy:=Ij y hy;have hpr:AA (AW (x.z*y.z)).w:=AI;have hpx:AA x.w:=AI;have hpy:AA y.w:=AI;have lm:=KT x.z.natAbs y.z.natAbs;have ca:=tj x.z.natAbs y.z.natAbs (by omega) (by omega);have cm:=Kk (decide (x.z<0) != decide (y.z<0)) (x.z.natAbs*y.z.natAbs) (by omega);rw[j8]at cm;dsimp only[GI.D]at*;refine fR 0 ?_;refine Db ⟨[(2,.optr 0 0 2 0 0),(3,.optr 1 1 2 0 0),(4,.optr 2 2 2 0 0)],[⟨2,2,139,2,[Co 0]⟩,⟨1,1,139,2,[.agg [i64 y.s,y.w]]⟩,⟨0,0,139,2,[.agg [i64 x.s,x.w]]⟩],90⟩ ?_ ?_
 ·obtain⟨a,sa⟩:=x
  obtain⟨b,sb⟩:=y;clear cx cy lm ca cm hpr;have nx:sa=false->(Ab a.natAbs).map AR≠[]:=λh=>Gz (by
   intro h0;subst h;exact hx.2 rfl ⟨by dsimp only;omega,by dsimp only;omega⟩)
  have ny:sb=false->(Ab b.natAbs).map AR≠[]:=λh=>Gz (by
   intro h0;subst h;exact hy.2 rfl ⟨by dsimp only;omega,by dsimp only;omega⟩)
  unfold GI.s GI.w wD wL at*;dsimp only at*;generalize(Ab a.natAbs).map AR=ka at*;generalize(Ab b.natAbs).map AR=kb at*;cases sa with
  |false=>
   have nx:=nx rfl;dsimp only at*;generalize(if a<0 then(-1:Int)else 1)=sg at*;generalize(match sb with|true=>b|false=>if b<0 then(-1:Int)else 1)=sh at*;generalize(match sb with|true=>CD|false=>D.sl false 1 kb)=wy at*;refine AC.seq ?_;refine An w1 100 (by kernel_rfl) ?_;refine AU (Av (@ne_eq (List D)) nx EC) ?_;refine AE kT ?_;refine AE kT ?_;refine AL ?_;refine Am ?_;exact And.intro (by trivial) (AJ)
  |true=>
   dsimp only at*;cases sb with
   |false=>
    have ny:=ny rfl;dsimp only at*;generalize(if b<0 then(-1:Int)else 1)=sh at*;refine AC.seq ?_;refine An w1 100 (by kernel_rfl) ?_;refine AU (Av (@ne_eq (List D)) ny EC) ?_;refine AE (Bk kT (@ne_eq (List D)) ny EC) ?_;refine AE (Bk kT (@ne_eq (List D)) ny EC) ?_;refine AL ?_;refine Am ?_;exact And.intro (by trivial) (AJ)
   |true=>
    have ra:=hx.1 rfl;have rb:=hy.1 rfl;dsimp only at*;have sa:=NX ra.1 ra.2;have sb:=NX rb.1 rb.2;have la:a.natAbs<BB:=by unfold BB;omega
    have lb:b.natAbs<BB:=by unfold BB;omega
    have c0:=M7 a.natAbs b.natAbs la lb;have hab:a.natAbs*b.natAbs=(a*b).natAbs:=(MZ a b).symm;have hbig:9223372036854775807<(a*b).natAbs:=DH λh=>hn ⟨rfl,rfl,by omega⟩
    rw[hab]at c0;generalize(a*b).natAbs=p at*;refine sZ 100 ?_
    repeat'(first|(refine And.intro (by exact Bz) ?_;refine At ?_)|((refine Br (λhb=>?_) (λhb=>?_))<;>(try simp only[Bb,Bq]at hb)<;>(try simp only[hb])<;>(refine At ?_)))
    refine AL ?_;refine AC.seq ?_;refine B3 w1 200 [0,1,2,3,4,5,6,7,8,9,10] [11] (by kernel_rfl) ?_;refine B6 ?_;refine BT.same _ (sa) AI ?_;refine B6 ?_;refine BT.same _ (sb) AI ?_;refine B6 ?_;refine BT.same _ (c0) AI ?_;refine B6 ?_;refine AC.seq ?_
    by_cases h0:p/18446744073709551616=0
    ·rw[h0]
     have h1:p%18446744073709551616=p:=by omega
     rw[h1];have e3:decide ((p:Int)<=9223372036854775807)=false:=Ah (by omega);refine An w1 300 (by kernel_rfl) ?_
     repeat'(first|(refine And.intro (by exact Bz) ?_;refine At ?_)|((refine Br (λhb=>?_) (λhb=>?_))<;>(try simp only[Bb,Bq]at hb)<;>(try simp only[hb])<;>(refine At ?_)))
     rw[e3];refine AL ?_;refine Am ?_;exact And.intro (by trivial) (AJ)
    ·have e3:(((p/18446744073709551616:Nat):Int)==0)=false:=Bw.2 (by omega)
     refine An w1 300 (by kernel_rfl) ?_;refine AU e3 ?_;refine AE e3 ?_;refine AE e3 ?_;refine AL ?_;refine Am ?_;exact And.intro (by trivial) (AJ)
 ·refine fR 700 ?_
  refine dI cx ?_;refine fR 800 ?_;refine dI cy ?_;refine fR 900 ?_;refine dI ca ?_;refine dI cm ?_;refine Af ?_;exact AQ rfl AA.out
theorem gD (a b:Int)(hc:Sm (a*b))(ha : -9223372036854775808<=a/\a<9223372036854775808)(hb : -9223372036854775808<=b/\b<9223372036854775808):AK C0 151 [Co a,Co b] (Co (a*b)):=by
 refine Ak.walk w1 So rfl λF=>?_
 have hab:a.natAbs*b.natAbs=(a*b).natAbs:=(MZ a b).symm;have h1:a.natAbs*b.natAbs/18446744073709551616=0:=by rw[hab];have:=hc.1;have:=hc.2;omega
 have h2:a.natAbs*b.natAbs%18446744073709551616=(a*b).natAbs:=by rw[hab];have:=hc.1;have:=hc.2;omega
 have c0:=M7 a.natAbs b.natAbs (by omega) (by omega);rw[h1,h2]at c0;refine fR 0 ?_;refine AC.seq ?_;refine sZ 100 ?_
 repeat'(first|(refine And.intro (by exact Bz) ?_;refine At ?_)|((refine Br (λhb=>?_) (λhb=>?_))<;>(try simp only[Bb,Bq]at hb)<;>(try simp only[hb])<;>(refine At ?_)))
 refine AL ?_;refine AC.seq ?_;refine B3 w1 200 [0,1,2,3,4,5,6,7,8,9,10] [11] (by kernel_rfl) ?_;refine B6 ?_;refine BT.same _ (NX ha.1 ha.2) AI ?_;refine B6 ?_;refine BT.same _ (NX hb.1 hb.2) AI ?_;refine B6 ?_;refine BT.same _ (c0) AI ?_;refine B6 ?_;refine sZ 300 ?_
 repeat'(first|(refine And.intro (by exact Bz) ?_;refine At ?_)|((refine Br (λhb=>?_) (λhb=>?_))<;>(try simp only[Bb,Bq]at hb)<;>(try simp only[hb])<;>(refine At ?_)))
 have e3:decide ((((a*b).natAbs:Nat):Int)<=9223372036854775807)=true:=AY (by have:=hc.1;have:=hc.2;omega);rw[e3];refine AL ?_;refine AC.seq ?_;refine fR 400 ?_;refine AL ?_;have e4:IntKind.i64.wrap (((a*b).natAbs:Nat):Int)=((a*b).natAbs:Nat):=wN (by have:=hc.1;have:=hc.2;omega)
 (refine Br (λh41=>?_) (λh41=>?_))<;>(try simp only[Bb,Bq]at h41)<;>(try simp only[h41])
 ·have e5:IntKind.i64.wrap (0-(((a*b).natAbs:Nat):Int)) = -((a*b).natAbs:Nat):=by
   rw[wI (by have:=hc.1;have:=hc.2;omega) (by have:=hc.1;have:=hc.2;omega)];omega
  have e6 : -(((a*b).natAbs:Nat):Int)=a*b:=by
   have hs:(a<0)≠(b<0):=by simpa using h41
   have:a*b<=0:=by
    by_cases h1:a<0
    ·have h2:¬b<0:=λh2=>hs (by simp[h1,h2])
     exact Int.mul_nonpos_of_nonpos_of_nonneg (by omega) (by omega)
    ·have h2:b<0:=DH λh2=>hs (by simp[h1,h2])
     exact Int.mul_nonpos_of_nonneg_of_nonpos (by omega) (by omega)
   omega
  refine sZ 500 ?_;refine JK (Av e4 e5 e6) ?_;refine Af ?_;exact AQ rfl AA.out
 ·have e6:(((a*b).natAbs:Nat):Int)=a*b:=by
   have hs:¬((a<0)≠(b<0)):=by simpa using h41
   have:0<=a*b:=by
    by_cases h1:a<0
    ·have h2:b<0:=DH λh2=>hs (by simp[h1,h2])
     exact Int.mul_nonneg_of_nonpos_of_nonpos (by omega) (by omega)
    ·have h2:¬b<0:=λh2=>hs (by simp[h1,h2])
     exact Int.mul_nonneg (by omega) (by omega)
   omega
  rw[e6]at e4;refine Am ?_;refine sZ 600 ?_;refine JK (Ae e6 e4) ?_;refine Af ?_;exact AQ rfl AA.out
theorem aA (x y:GI)(hx:x.wf)(hy:y.wf)(fx:(Ab x.z.natAbs).length<400000)(fy:(Ab y.z.natAbs).length<400000):AK C0 151 [x.D,y.D] (AW (x.z*y.z)).D:=by
 by_cases h:x.sm=true/\y.sm=true/\(x.z*y.z).natAbs<=9223372036854775807
 ·obtain⟨a,sa⟩:=x
  obtain⟨b,sb⟩:=y;obtain⟨h1,h2,h3⟩:=h;dsimp only at h1 h2 h3;subst h1;subst h2;have hs:Sm (a*b):=⟨by omega,by omega⟩
  dsimp only;rw[In hs];exact gD a b hs (hx.1 rfl) (hy.1 rfl)
 ·exact lO x y hx hy fx fy h
def K6 (x:GI):GI:=if x.z<0 then AW (-x.z)else x
theorem l7 (x:GI):(K6 x).z=(x.z.natAbs:Nat):=by
 unfold K6;split
 ·show -x.z=_;omega
 ·omega
theorem kA (x:GI)(h:x.wf):(K6 x).wf:=by
 unfold K6;split
 ·exact CT _
 ·exact h
theorem Zw (x:GI)(h:x.wf)(hf:x.few):AK C0 239 [x.D] (K6 x).D:=by
 refine Ak.walk w1 Yd rfl λF=>?_
 have hs:=ZI x h;have cn:=Nm x h hf;have hpx:AA x.w:=AI;have hpr:AA (AW (-x.z)).w:=AI;unfold K6
 by_cases hz:x.z<0
 ·have e:decide (x.s<0)=true:=AY (by rw[hs];exact hz)
  rw[AH hz];dsimp only[GI.D]at*;refine fR 0 ?_;refine AC.seq ?_;refine fR 100 ?_;rw[e];refine AL ?_;refine fR 200 ?_;refine dI cn ?_;refine Af ?_;exact AQ rfl AA.out
 ·have e:decide (x.s<0)=false:=Ah (by rw[hs];exact hz)
  rw[AG hz];dsimp only[GI.D]at*;refine fR 0 ?_;refine AC.seq ?_;refine fR 100 ?_;rw[e];refine AL ?_;refine Am ?_;refine fR 300 ?_;refine Af ?_;exact AQ rfl AA.out
structure Ki (B Y u1 u0:Nat)(q r:Nat):Prop where
 eq:q*(Y/B)+r=u1
 up:u1*B+u0<(q+1)*Y
 q2:q<=B+1
theorem Uq {B Y u1 u0:Nat}(hB:0<B)(hY:B*B<=2*Y)(hY2:Y<B*B)(hev:B%2=0)(hu:u1<Y)(h0:u0<B):
  Ki B Y u1 u0 (u1/(Y/B)) (u1-u1/(Y/B)*(Y/B))/\u1-u1/(Y/B)*(Y/B)<B:=by
 have e:=EJ Y B;have m:=By Y hB;generalize hg:Y/B=y1 at*;generalize Y%B=y0 at*;have hy1:y1<B:=by
  rcases BL y1 B with h|h
  ·exact h
  ·have:=CR B h
   omega
 have hy2:B<=2*y1:=by
  rcases BL (2*y1) B with h|h
  ·exfalso
   have h1:2*y1+2<=B:=by omega
   have h2:=CR B h1;have h3:B*(2*y1+2)=2*(B*y1)+2*B:=by
    rw[BK,H4,BO B 2]
   omega
  ·exact h
 have e1:=EJ u1 y1;have m1:=By u1 (show 0<y1 by omega);have c1:y1*(u1/y1)=u1/y1*y1:=BO _ _;refine⟨⟨by rw[hg];omega,?_,?_⟩,by omega⟩
 ·generalize hq:u1/y1=q at*
  have h1:u1+1<=(q+1)*y1:=by rw[Bp];omega
  have h2:=CA B h1;have h3:(q+1)*Y=(q+1)*y1*B+(q+1)*y0:=by
   rw[<-e,BK,BO B y1,Bs]
  rw[Bp]at h2;omega
 ·rcases BL (B+1) (u1/y1)with h|h
  ·exfalso
   have h1:=CR y1 (show B+2<=u1/y1 by omega);have h2:y1*(B+2)=B*y1+2*y1:=by rw[BK,BO y1 B,BO y1 2]
   omega
  ·exact h
theorem VI {B Y u1 u0 q r:Nat}(hB:0<B)(hu:u1<Y)(h0:u0<B)(I:Ki B Y u1 u0 q r)
  (c:B<=q\/B*r+u0<q*(Y%B)):0<q/\Ki B Y u1 u0 (q-1) (r+Y/B):=by
 have e:=EJ Y B;obtain⟨i1,i2,i3⟩:=I;generalize hg:Y/B=y1 at*;generalize Y%B=y0 at*;have hq:0<q:=by
  rcases c with c|c
  ·omega
  ·rcases DR q with h|h
   ·subst h;omega
   ·exact h
 obtain⟨p,rfl⟩:∃p,q=p+1:=⟨q-1,by omega⟩
 refine⟨hq,⟨?_,?_,?_⟩⟩
 ·rw[Hz,hg,BO p];rw[Bp,BO p]at i1;omega
 ·rw[Hz]
  rcases c with c|c
  ·have h1:=CA Y c
   have h2:(u1+1)*B<=Y*B:=CA B hu;rw[Bp]at h2;rw[BO Y B]at h2;omega
  ·have h3:(p+1)*Y=(p+1)*y1*B+(p+1)*y0:=by
    rw[<-e,BK,BO B y1,Bs]
   have h4:u1*B=(p+1)*y1*B+r*B:=by rw[<-i1,Bp]
   rw[BO r B]at h4;omega
 ·omega
theorem Re {B Y u1 u0 q r:Nat}(I:Ki B Y u1 u0 q r)
  (c:q*(Y%B)<=B*r+u0):q=(u1*B+u0)/Y:=by
 have e:=EJ Y B;obtain⟨i1,i2,i3⟩:=I;have h3:q*Y=q*(Y/B)*B+q*(Y%B):=by
  conv=>lhs;rw[<-e]
  rw[BK,BO B (Y/B),Bs]
 have h4:u1*B=q*(Y/B)*B+r*B:=by rw[<-i1,Bp]
 rw[BO r B]at h4;have h5:0<Y:=by
  rcases DR Y with h|h
  ·subst h;omega
  ·exact h
 symm
 apply Nat.div_eq_of_lt_le
 ·omega
 ·exact i2
theorem Uo {B Y u1 u0 q r:Nat}(hB:0<B)(I:Ki B Y u1 u0 q r)(hq:q<=B)(hr:B<=r):
  q=(u1*B+u0)/Y:=by
 refine Re I ?_;have m:=By Y hB;have h1:q*(Y%B)<=B*B:=H6 hq (by omega);have h2:=CR B hr;omega
theorem dg {B N S y u32 u1 u0 v:Nat}(hS:0<S)(hy:0<y)(hN:N*S=u32*(B*B)+(u1*B+u0))(hv:v=(u32*B+u1)%(y*S)):
  (u32*B+u1)/(y*S)*B+(v*B+u0)/(y*S)=N/y/\(v*B+u0)%(y*S)/S=N%y:=by
 have hY0:0<y*S:=Gu hy hS;have e1:=EJ (u32*B+u1) (y*S);have e2:=EJ (v*B+u0) (y*S);have m2:=By (v*B+u0) hY0;rw[<-hv]at e1;have dY:N*S/(y*S)=N/y:=OH _ _ hS;have mY:N*S%(y*S)=N%y*S:=OI _ _ _;generalize(u32*B+u1)/(y*S)=q1 at*;generalize(v*B+u0)/(y*S)=q0 at*;generalize(v*B+u0)%(y*S)=r at*;generalize y*S=Y at*;have hT:N*S=r+Y*(q1*B+q0):=by
  have c1:u32*(B*B)+u1*B=Y*q1*B+v*B:=by
   rw[<-Bs,<-Bp,<-e1,Bp]
  rw[hN,BK,<-Bs Y q1 B];omega
 refine⟨?_,?_⟩
 ·rw[<-dY,hT,Qq _ _ hY0,Gr m2,BR]
 ·rw[hT,Qj,DS m2]at mY
  rw[mY,Nat.mul_div_cancel _ hS]
theorem ig {hi lo y s:Nat}(hs:s<=63)(h1:hi<y)(hlo:lo<18446744073709551616):
  lo/2^(64-s)<2^s/\hi*2^s+lo/2^(64-s)<y*2^s /\
   (hi*18446744073709551616+lo)*2^s=(hi*2^s+lo/2^(64-s))*18446744073709551616+lo*2^s%18446744073709551616:=by
 have hp:0<2^s:=GP s;have hpp:2^(64-s)*2^s=18446744073709551616:=by
  rw[<-FX,show 64-s+s=64 by omega]
 have hl:lo*2^s/18446744073709551616=lo/2^(64-s):=by
  rw[<-hpp,OH _ _ hp]
 have hl2:lo/2^(64-s)<2^s:=Ej (by rw[hpp];exact hlo);refine⟨hl2,?_,?_⟩
 ·have:(hi+1)*2^s<=y*2^s:=CA _ h1
  rw[Bp]at this;omega
 ·have e:=EJ (lo*2^s) 18446744073709551616
  rw[hl]at e;rw[Bp,Bp,Nat.mul_right_comm];omega
theorem S0 {a b s:Nat}(h:b<2^s):(a*2^s) ||| b=a*2^s+b:=by
 rw[BO,Nat.two_pow_add_eq_or_of_lt h]
theorem Z8 (x:Nat)(hx:x<BB):AK C0 255 [AR x] (i64 (64-(Lib.bitLen x:Int))):=by
 refine⟨⟨_,_,Tryz.func255,rfl,by kernel_rfl⟩,λY w vs hG hnG hX hvs hr=>?_⟩
 have:=PH hvs hr
 subst this;refine(Tryz.bits_LeadingZeros64 x w (by omega) (by unfold BB at hx;omega)).mono ?_;rintro e w' ⟨rfl,rfl⟩;exact⟨_,_,rfl,.refl _ _,rfl,.prim _⟩
theorem Ue {x:Nat}(h0:x≠0)(hx:x<BB):∃s,s<=63/\(64-(Lib.bitLen x:Int))=(s:Nat)/\9223372036854775808<=x*2^s/\x*2^s<18446744073709551616:=by
 obtain⟨h1,h2,h3⟩:=Lib.bitLenAux_bounds 64 x hx h0;have h4:=Lib.bitLen_le x 64 (Ad _) hx;have h5:Lib.bitLenAux 64 x=Lib.bitLen x:=rfl;rw[h5]at h1 h2 h3;refine⟨64-Lib.bitLen x,by omega,by omega,?_,?_⟩
 ·have:=CA (2^(64-Lib.bitLen x)) h2
  rw[<-FX,show Lib.bitLen x-1+(64-Lib.bitLen x)=63 by omega]at this;exact this
 ·have:=(Nat.mul_lt_mul_right (GP (64-Lib.bitLen x))).2 h3
  rw[<-FX,show Lib.bitLen x+(64-Lib.bitLen x)=64 by omega]at this;exact this
theorem IC (n:Nat):IntKind.u64.wrap (n:Int)=((n%18446744073709551616:Nat):Int):=by
 have e1:(2:Int)^IntKind.u64.bits=18446744073709551616:=rfl;unfold IntKind.wrap;simp only[e1];have e3:IntKind.u64.signed=false:=rfl;rw[e3];simp only[KG,HK,if_false];omega
theorem Nl (x s:Nat)(hs:s<=63):J4 .u64 (x:Int) (s:Int)=((x*2^s%18446744073709551616:Nat):Int):=by
 have hm:min ((s:Int)).toNat (IntKind.bits .u64)=s:=by
  have:IntKind.bits .u64=64:=rfl
  rw[this];omega
 unfold J4;rw[hm]
 have:(x:Int)*2^s=((x*2^s:Nat):Int):=by simp
 rw[this];exact IC _
theorem L6 (x s:Nat)(hs:s<=64):K8 .u64 (x:Int) (s:Int)=((x/2^s:Nat):Int):=by
 have hm:min ((s:Int)).toNat (IntKind.bits .u64)=s:=by
  have:IntKind.bits .u64=64:=rfl
  rw[this];omega
 unfold K8;rw[hm]
 have:(2:Int)^s=((2^s:Nat):Int):=by simp
 rw[this,Int.fdiv_eq_ediv_of_nonneg _ (Int.natCast_nonneg _)];exact(Int.natCast_ediv _ _).symm
theorem QR (a:Nat)(ha:a<18446744073709551616):(BitVec.ofInt (IntKind.bits .u64) (a:Int)).toNat=a:=by
 rw[show IntKind.bits .u64=64 from rfl,BitVec.ofInt_natCast,BitVec.toNat_ofNat];exact DS ha
theorem Te (a b:Nat)(ha:a<18446744073709551616)(hb:b<18446744073709551616):GY .or .u64 (a:Int) (b:Int)=((a ||| b:Nat):Int):=by
 have h:a ||| b<2^64:=Nat.or_lt_two_pow ha hb;show IntKind.u64.wrap ((BitVec.ofInt (IntKind.bits .u64) (a:Int) ||| BitVec.ofInt (IntKind.bits .u64) (b:Int)).toNat:Int)=_;rw[BitVec.toNat_or,QR a ha,QR b hb,IC];exact congrArg Nat.cast (DS h)
theorem Zx (a:Nat)(ha:a<18446744073709551616):GY .and .u64 (a:Int) 4294967295=((a%4294967296:Nat):Int):=by
 show IntKind.u64.wrap ((BitVec.ofInt (IntKind.bits .u64) (a:Int) &&& BitVec.ofInt (IntKind.bits .u64) ((4294967295:Nat):Int)).toNat:Int)=_;rw[BitVec.toNat_and,QR a ha,QR _ (by decide),IC,show(4294967295:Nat)=2^32-1 from rfl,Nat.and_two_pow_sub_one_eq_mod];exact congrArg Nat.cast (DS (by omega))
theorem S8 (a b:Nat):IntKind.u64.wrap ((a:Int).tdiv (b:Int))=((a/b%18446744073709551616:Nat):Int):=by
 rw[<-Int.ofNat_tdiv];exact IC _
theorem ZM {a b:Nat}(h:b<=a)(ha:a<18446744073709551616):IntKind.u64.wrap ((a:Int)-(b:Int))=((a-b:Nat):Int):=by
 rw[<-Int.natCast_sub h,IC];exact congrArg Nat.cast (DS (by omega))
section
variable {C:A8} {B F:Aa} {s:St} {rd:Option Nat} {Q:Exit->Aa->St->Prop}
theorem bU {a b:Code}(S:Nat->St)(h1:AC C B rd F a s (λe F1 s1=>IP (F1=F/\∃n,Wk s1 (S n)) (λe=>Q e F1 s1) e))(h2:∀n,AC C B rd F b (S n) Q):AC C B rd F (.seq a b) s Q:=
 AC.seq (h1.mono λe F1 s1 h=>by
  cases e with
  |normal=>
   obtain⟨h0,n,h3⟩:=(show F1=F/\∃n,Wk s1 (S n)from h)
   rw[h0];exact AC.weak (S n) h3 (h2 n)
  |ret=>exact h
  |exit j=>exact h
  |goto l=>exact h
  |panic c=>exact h
  |outgrown=>exact h)
end
theorem Lj (z:Int):IntKind.u64.wrap z=z%18446744073709551616:=by
 have e1:(2:Int)^IntKind.u64.bits=18446744073709551616:=rfl;unfold IntKind.wrap;simp only[e1];have e3:IntKind.u64.signed=false:=rfl;rw[e3];simp only[KG,HK,if_false]
theorem dB (a b:Nat)(ha:a<4294967296)(hb:b<4294967296):IntKind.u64.wrap (IntKind.u64.wrap ((a:Int)*4294967296)+(b:Int))=((a*4294967296+b:Nat):Int):=by
 rw[Lj,Lj];omega
theorem Vl (a c q Y:Nat)(hY:0<Y)(hY2:Y<18446744073709551616)(hq:q=(a*4294967296+c)/Y):
  IntKind.u64.wrap (IntKind.u64.wrap (IntKind.u64.wrap ((a:Int)*4294967296)+(c:Int))-IntKind.u64.wrap ((q:Int)*(Y:Int)))=(((a*4294967296+c)%Y:Nat):Int):=by
 have e:=EJ (a*4294967296+c) Y;have m:=By (a*4294967296+c) hY;rw[<-hq,BO Y q]at e;generalize(a*4294967296+c)%Y=v at*;rw[<-FU q Y];generalize q*Y=Q at*;rw[Lj,Lj,Lj,Lj];omega
structure lX (hi lo y s Y u u10:Nat):Prop where
 s63:s<=63
 eY:Y=y*2^s
 big:9223372036854775808<=Y
 Yl:Y<18446744073709551616
 uY:u<Y
 u10l:u10<18446744073709551616
 N:(hi*BB+lo)*2^s=u*18446744073709551616+u10
 e8:J4 .u64 (y:Int) (s:Int)=(Y:Int)
 e9:K8 .u64 (Y:Int) 32=((Y/4294967296:Nat):Int)
 e10:GY .and .u64 (Y:Int) 4294967295=((Y%4294967296:Nat):Int)
 ew:IntKind.u64.wrap (64-(s:Int))=((64-s:Nat):Int)
 e11:GY .or .u64 (J4 .u64 (hi:Int) (s:Int)) (K8 .u64 (lo:Int) ((64-s:Nat):Int))=(u:Int)
 e12:J4 .u64 (lo:Int) (s:Int)=(u10:Int)
 e13:K8 .u64 (u10:Int) 32=((u10/4294967296:Nat):Int)
 e14:GY .and .u64 (u10:Int) 4294967295=((u10%4294967296:Nat):Int)
theorem iZ {hi lo y s:Nat}(h1:hi<y)(hlo:lo<BB)(hs:s<=63)(t1:9223372036854775808<=y*2^s)(t2:y*2^s<18446744073709551616):
  ∃Y u u10,lX hi lo y s Y u u10:=by
 obtain⟨m1,m2,m3⟩:=ig hs h1 hlo;have hpos:0<2^s:=GP s;have hh:hi*2^s<18446744073709551616:=DJ (Nat.le_add_right _ _) (FW m2 t2);have hl:lo/2^(64-s)<18446744073709551616:=DJ (GO _ _) hlo;refine⟨_,_,_,hs,rfl,t1,t2,m2,By _ (by decide),m3,?_,L6 _ 32 (by decide),Zx _ t2,?_,?_,Nl lo s hs,L6 _ 32 (by decide),Zx _ (By _ (by decide))⟩
 ·rw[Nl y s hs,DS t2]
 ·rw[wU (by omega) (by omega)];omega
 ·rw[Nl hi s hs,DS hh,L6 lo (64-s) (by omega),Te _ _ hh hl,S0 m1]
theorem Vx (hi lo y:Nat)(h1:hi<y)(hlo:lo<BB)(hy:y<BB):AK C0 254 [AR hi,AR lo,AR y] (.tup [AR ((hi*BB+lo)/y),AR ((hi*BB+lo)%y)]):=by
 refine Ak.walk w1 Yf rfl λF=>?_
 have y0:¬(y:Int)=0:=by omega
 have c1:((y:Int)==0)=false:=by simp;omega
 have c2:decide ((y:Int)<=(hi:Int))=false:=Ah (by omega);refine sR 0 ?_;refine AC.seq ?_;refine sZ 100 ?_;refine AU c1 ?_;refine AL ?_;refine Am ?_;refine AC.seq ?_;refine sZ 300 ?_;refine AU c2 ?_;refine AL ?_;refine Am ?_;refine AC.seq ?_;refine sR 500 ?_;refine AL ?_
 (refine Br (λh27=>?_) (λh27=>?_))<;>(try simp only[Bb,Bq]at h27)<;>(try simp only[h27])
 ·have hi0:hi=0:=by simpa using h27
  subst hi0;refine AC.seq ?_;refine B3 w1 600 [0,1,2,3,4,5,6] [7] (by kernel_rfl) ?_;refine BN ?_;refine Af ?_;refine AQ ?_ AA.out;have l1:lo/y<18446744073709551616:=DJ (GO _ _) hlo;rw[S8,DS l1,GQ,BR];rfl
 ·obtain⟨s,hs,es,t1,t2⟩:=Ue (x:=y) (by omega) hy
  have cl:=Z8 y hy;rw[es]at cl;have ws:IntKind.u64.wrap (s:Int)=(s:Int):=wU (by omega) (by omega);obtain⟨Y,u,u10,L⟩:=iZ h1 hlo hs t1 t2;have ew0:(0:Int)<=IntKind.u64.wrap (64-(s:Int)):=by rw[L.ew];omega
  refine Am ?_;refine sR 700 ?_;refine cI cl ?_;rw[ws];refine sZ 800 ?_;refine AU L.e8 ?_;refine sZ 900 ?_;refine AU L.e9 ?_;refine sZ 1000 ?_;refine AU L.e10 ?_;refine sZ 1100 ?_;refine AE (Ae L.ew L.e11) ?_;refine sZ 1200 ?_;refine AU L.e12 ?_;refine sZ 1300 ?_;refine AU L.e13 ?_;refine sZ 1400 ?_;refine AU L.e14 ?_;have hB:2147483648<=Y/4294967296:=by have:=L.big;omega
  have hB2:Y/4294967296<4294967296:=by have:=L.Yl;omega
  have n0:¬((Y/4294967296:Nat):Int)=0:=by omega
  obtain⟨I0,r0⟩:=Uq (B:=4294967296) (u0:=u10/4294967296) (by decide) (by have:=L.big;omega) L.Yl (by decide) L.uY (by have:=L.u10l;omega);have q0l:=I0.q2;have hu64:u<18446744073709551616:=FW L.uY L.Yl;have hqy:=Nat.div_mul_le_self u (Y/4294967296);have e15:IntKind.u64.wrap ((u:Int).tdiv ((Y/4294967296:Nat):Int))=((u/(Y/4294967296):Nat):Int):=by
   rw[S8,DS (by omega)]
  have e16:IntKind.u64.wrap ((u:Int)-IntKind.u64.wrap (((u/(Y/4294967296):Nat):Int)*((Y/4294967296:Nat):Int)))=((u-u/(Y/4294967296)*(Y/4294967296):Nat):Int):=by
   rw[<-FU,IC,DS (by omega),ZM hqy hu64]
  refine sZ 1500 ?_;refine AU e15 ?_;refine sZ 1600 ?_;refine AU e16 ?_;have hu1:u10/4294967296<4294967296:=by have:=L.u10l;omega
  have hy0:Y%4294967296<4294967296:=By _ (by decide);generalize hu1e:u10/4294967296=u1 at*;generalize hu0e:u10%4294967296=u0 at*;refine bU (λn=>⟨[(2,AR Y),(6,u64 0),(7,u64 0),(8,AR s),(9,AR (Y/4294967296)),(10,AR (Y%4294967296)),(11,AR u),(13,AR u1),(14,AR u0),(15,AR ((u*4294967296+u1)/Y))],[],n⟩) ?_ λn=>?_
  ·refine AC.block ?_
   refine Fv (α:=Nat×Nat×Nat) (λp=>⟨[(2,AR Y),(6,u64 0),(7,u64 0),(8,AR s),(9,AR (Y/4294967296)),(10,AR (Y%4294967296)),(11,AR u),(13,AR u1),(14,AR u0),(15,AR p.1),(16,AR p.2.1)],[],p.2.2⟩) (λp=>p.1)
    (λp F'=>F'=F/\Ki 4294967296 Y u u1 p.1 p.2.1/\p.2.1<4294967296) (_,_,_)
    ⟨rfl,I0,r0⟩ AJ ?_
   rintro⟨q,r,m⟩ F' ⟨rfl,I,hr⟩;dsimp only at I hr⊢;have hq2:=I.q2;refine AC.seq ?_;obtain⟨b,hbt⟩:∃b:Bool,b=decide (4294967296<=q\/4294967296*r+u1<q*(Y%4294967296)):=⟨_,rfl⟩
   refine Db ⟨[(2,AR Y),(6,u64 0),(7,u64 0),(8,AR s),(9,AR (Y/4294967296)),(10,AR (Y%4294967296)),(11,AR u),(13,AR u1),(14,AR u0),(15,AR q),(16,AR r),(78,Au b)],[],m+30⟩ ?_ ?_
   ·rcases BL q 4294967296 with hq|hq
    ·have e1:decide ((q:Int)>=4294967296)=false:=Ah (by omega)
     have hqy:q*(Y%4294967296)<=4294967295*4294967295:=H6 (by omega) (by omega);have k1:IntKind.u64.wrap ((q:Int)*((Y%4294967296:Nat):Int))=((q*(Y%4294967296):Nat):Int):=by
      rw[<-FU,IC,DS (by omega)]
     have k2:IntKind.u64.wrap (4294967296*(r:Int))=((4294967296*r:Nat):Int):=by rw[wU (by omega) (by omega)];omega
     have k3:IntKind.u64.wrap (((4294967296*r:Nat):Int)+(u1:Int))=((4294967296*r+u1:Nat):Int):=by rw[wU (by omega) (by omega)];omega
     have k4:decide (((q*(Y%4294967296):Nat):Int)>((4294967296*r+u1:Nat):Int))=b:=by
      rw[hbt];exact C4.2 ⟨λh=>Or.inr (by omega),λh=>by rcases h with h|h<;>omega⟩
     refine An w1 1700 (by kernel_rfl) ?_;refine AE e1 ?_;refine AE (Cv kF k1 k2 k3 k4) ?_;exact And.intro (by trivial) (AJ)
    ·have e1:decide ((q:Int)>=4294967296)=true:=AY (by omega)
     have hb:b=true:=by rw[hbt];exact AY (Or.inl hq)
     subst hb;refine An w1 1700 (by kernel_rfl) ?_;refine AE e1 ?_;refine AE kT ?_;exact And.intro (by trivial) (AJ)
   ·cases b
    ·have hc:=DA hbt.symm
     have hq:=Re I (by omega);subst hq;refine AL ?_;refine B5 ?_;exact⟨rfl,_,AJ⟩
    ·have hc:=C3 hbt.symm
     obtain⟨hq0,I2⟩:=VI (by decide) L.uY hu1 I hc;have hq3:=I2.q2;have k1:IntKind.u64.wrap ((q:Int)-1)=((q-1:Nat):Int):=by rw[wU (by omega) (by omega)];omega
     have k2:IntKind.u64.wrap ((r:Int)+((Y/4294967296:Nat):Int))=((r+Y/4294967296:Nat):Int):=by rw[wU (by omega) (by omega)];omega
     refine AL ?_;refine Am ?_;refine AC.block ?_;refine sZ 1800 ?_;refine AU k1 ?_;refine sZ 1900 ?_;refine AU k2 ?_;refine sR 2000 ?_;refine AL ?_
     (refine Br (λh85=>?_) (λh85=>?_))<;>(try simp only[Bb,Bq]at h85)<;>(try simp only[h85])
     ·have hq:=Uo (by decide) I2 (by omega) (by have:=C3 h85;omega)
      rw[hq];refine B5 ?_;exact⟨rfl,_,AJ⟩
     ·refine Am ?_
      refine⟨(q-1,r+Y/4294967296,_),⟨rfl,I2,by have:=DA h85;dsimp only;omega⟩,by dsimp only;omega,AJ⟩
  ·have hY0:0<Y:=by have:=L.big;omega
   have e21:=Vl u u1 _ Y hY0 L.Yl rfl;have q1l:(u*4294967296+u1)/Y<4294967296:=by
    refine Ej ?_
    have:(u+1)*4294967296<=Y*4294967296:=CA _ L.uY
    rw[Bp]at this;omega
   have hvY:(u*4294967296+u1)%Y<Y:=By _ hY0;have tr:=dg (B:=4294967296) (N:=hi*BB+lo) (S:=2^s) (y:=y) (u32:=u) (u1:=u1) (u0:=u0) (v:=(u*4294967296+u1)%Y) (GP s) (by omega) (by rw[L.N];omega) (by rw[L.eY]);rw[<-L.eY]at tr;clear e15 e16 I0 r0 q0l hqy;obtain⟨q1,hq1e⟩:∃x,x=(u*4294967296+u1)/Y:=⟨_,rfl⟩
   rw[<-hq1e]at e21 q1l tr⊢;obtain⟨v,hve⟩:∃x,x=(u*4294967296+u1)%Y:=⟨_,rfl⟩
   rw[<-hve]at e21 hvY tr;have hu0:u0<4294967296:=by rw[<-hu0e];exact By _ (by decide)
   obtain⟨J0,s0⟩:=Uq (B:=4294967296) (u0:=u0) (by decide) (by have:=L.big;omega) L.Yl (by decide) hvY hu0;have q0l:=J0.q2;have hv64:v<18446744073709551616:=FW hvY L.Yl;have hqy:=Nat.div_mul_le_self v (Y/4294967296);have e22:IntKind.u64.wrap ((v:Int).tdiv ((Y/4294967296:Nat):Int))=((v/(Y/4294967296):Nat):Int):=by
    rw[S8,DS (by omega)]
   have e23:IntKind.u64.wrap ((v:Int)-IntKind.u64.wrap (((v/(Y/4294967296):Nat):Int)*((Y/4294967296:Nat):Int)))=((v-v/(Y/4294967296)*(Y/4294967296):Nat):Int):=by
    rw[<-FU,IC,DS (by omega),ZM hqy hv64]
   refine sZ 2100 ?_;refine AU e21 ?_;refine sZ 2200 ?_;refine AU e22 ?_;refine sZ 2300 ?_;refine AU e23 ?_;refine bU (λn=>⟨[(2,AR Y),(6,u64 0),(7,u64 0),(8,AR s),(9,AR (Y/4294967296)),(10,AR (Y%4294967296)),(11,AR u),(13,AR u1),(14,AR u0),(15,AR q1),(17,AR v),(18,AR ((v*4294967296+u0)/Y))],[],n⟩) ?_ λn=>?_
   ·refine AC.block ?_
    refine Fv (α:=Nat×Nat×Nat) (λp=>⟨[(2,AR Y),(6,u64 0),(7,u64 0),(8,AR s),(9,AR (Y/4294967296)),(10,AR (Y%4294967296)),(11,AR u),(13,AR u1),(14,AR u0),(15,AR q1),(17,AR v),(18,AR p.1),(16,AR p.2.1)],[],p.2.2⟩) (λp=>p.1)
     (λp F'=>F'=F/\Ki 4294967296 Y v u0 p.1 p.2.1/\p.2.1<4294967296) (_,_,_)
     ⟨rfl,J0,s0⟩ AJ ?_
    rintro⟨q,r,m⟩ F' ⟨rfl,I,hr⟩;dsimp only at I hr⊢;have hq2:=I.q2;refine AC.seq ?_;obtain⟨b,hbt⟩:∃b:Bool,b=decide (4294967296<=q\/4294967296*r+u0<q*(Y%4294967296)):=⟨_,rfl⟩
    refine Db ⟨[(2,AR Y),(6,u64 0),(7,u64 0),(8,AR s),(9,AR (Y/4294967296)),(10,AR (Y%4294967296)),(11,AR u),(13,AR u1),(14,AR u0),(15,AR q1),(17,AR v),(18,AR q),(16,AR r),(113,Au b)],[],m+30⟩ ?_ ?_
    ·rcases BL q 4294967296 with hq|hq
     ·have e1:decide ((q:Int)>=4294967296)=false:=Ah (by omega)
      have hqy:q*(Y%4294967296)<=4294967295*4294967295:=H6 (by omega) (by omega);have k1:IntKind.u64.wrap ((q:Int)*((Y%4294967296:Nat):Int))=((q*(Y%4294967296):Nat):Int):=by
       rw[<-FU,IC,DS (by omega)]
      have k2:IntKind.u64.wrap (4294967296*(r:Int))=((4294967296*r:Nat):Int):=by rw[wU (by omega) (by omega)];omega
      have k3:IntKind.u64.wrap (((4294967296*r:Nat):Int)+(u0:Int))=((4294967296*r+u0:Nat):Int):=by rw[wU (by omega) (by omega)];omega
      have k4:decide (((q*(Y%4294967296):Nat):Int)>((4294967296*r+u0:Nat):Int))=b:=by
       rw[hbt];exact C4.2 ⟨λh=>Or.inr (by omega),λh=>by rcases h with h|h<;>omega⟩
      refine An w1 2400 (by kernel_rfl) ?_;refine AE e1 ?_;refine AE (Cv kF k1 k2 k3 k4) ?_;exact And.intro (by trivial) (AJ)
     ·have e1:decide ((q:Int)>=4294967296)=true:=AY (by omega)
      have hb:b=true:=by rw[hbt];exact AY (Or.inl hq)
      subst hb;refine An w1 2400 (by kernel_rfl) ?_;refine AE e1 ?_;refine AE kT ?_;exact And.intro (by trivial) (AJ)
    ·cases b
     ·have hc:=DA hbt.symm
      have hq:=Re I (by omega);subst hq;refine AL ?_;refine B5 ?_;exact⟨rfl,_,AJ⟩
     ·have hc:=C3 hbt.symm
      obtain⟨hq0,I2⟩:=VI (by decide) hvY hu0 I hc;have hq3:=I2.q2;have k1:IntKind.u64.wrap ((q:Int)-1)=((q-1:Nat):Int):=by rw[wU (by omega) (by omega)];omega
      have k2:IntKind.u64.wrap ((r:Int)+((Y/4294967296:Nat):Int))=((r+Y/4294967296:Nat):Int):=by rw[wU (by omega) (by omega)];omega
      refine AL ?_;refine Am ?_;refine AC.block ?_;refine sZ 2500 ?_;refine AU k1 ?_;refine sZ 2600 ?_;refine AU k2 ?_;refine sR 2700 ?_;refine AL ?_
      (refine Br (λh120=>?_) (λh120=>?_))<;>(try simp only[Bb,Bq]at h120)<;>(try simp only[h120])
      ·have hq:=Uo (by decide) I2 (by omega) (by have:=C3 h120;omega)
       rw[hq];refine B5 ?_;exact⟨rfl,_,AJ⟩
      ·refine Am ?_
       refine⟨(q-1,r+Y/4294967296,_),⟨rfl,I2,by have:=DA h120;dsimp only;omega⟩,by dsimp only;omega,AJ⟩
   ·have e28:=Vl v u0 _ Y hY0 L.Yl rfl
    have hm28:(v*4294967296+u0)%Y<Y:=By _ hY0;have q2l:(v*4294967296+u0)/Y<4294967296:=by
     refine Ej ?_
     have:(v+1)*4294967296<=Y*4294967296:=CA _ hvY
     rw[Bp]at this;omega
    have k1:=dB q1 ((v*4294967296+u0)/Y) q1l q2l;have k2:=L6 ((v*4294967296+u0)%Y) s (by omega);rw[tr.1]at k1;rw[tr.2]at k2;refine sZ 2800 ?_;refine AE (Av k1 e28 k2) ?_;refine Af ?_;exact AQ rfl AA.out
theorem UW {n2 v1 P U V q:Nat}(hU:U<(n2+1)*P)(hV:v1*P<=V)(hq:n2+1<=(q+1)*v1):U<(q+1)*V:=by
 have h1:=CA P hq;have h2:=CR (q+1) hV;rw[Bs]at h1;omega
theorem U2 {n3 D P U V q:Nat}(hU:U<(n3+1)*P)(hV:D*P<=V)(hq:n3<q*D):U<q*V:=by
 have h1:=CA P (show n3+1<=q*D from hq);have h2:=CR q hV;rw[Bs]at h1;omega
theorem Vi {n3 D P U V q B v:Nat}(hU:n3*P<=U)(hV:V=D*P+v)(hv:v<P)(hq:q*D<=n3)(hqB:q<=B)(hD:B<=D):q*V<=U+V:=by
 have h1:=CA P hq;rw[Bs]at h1;have h2:q*v<=B*P:=H6 hqB (by omega);have h3:=CA P hD;have h4:q*V=q*(D*P)+q*v:=by rw[hV,BK]
 omega
theorem Us {c x s:Nat}(hs:s<=63)(hc:c<2^s)(hx:x<18446744073709551616):
  c |||(x*2^s%18446744073709551616)=c+x*2^s%18446744073709551616/\c+x*2^s%18446744073709551616<18446744073709551616 /\
   c+x*2^s%18446744073709551616+18446744073709551616*(x/2^(64-s))=c+x*2^s/\x/2^(64-s)<2^s:=by
 have hp:0<2^s:=GP s;have hpp:2^(64-s)*2^s=18446744073709551616:=by
  rw[<-FX,show 64-s+s=64 by omega]
 have hl:x*2^s/18446744073709551616=x/2^(64-s):=by
  rw[<-hpp,OH _ _ hp]
 have hm:x*2^s%18446744073709551616=x%2^(64-s)*2^s:=by
  rw[<-hpp,OI]
 have hl2:x/2^(64-s)<2^s:=Ej (by rw[hpp];exact hx);have e:=EJ (x*2^s) 18446744073709551616;rw[hl]at e;have ho:c |||(x*2^s%18446744073709551616)=c+x*2^s%18446744073709551616:=by
  rw[hm,Nat.or_comm,S0 hc,KH]
 have hlt:c+x*2^s%18446744073709551616<18446744073709551616:=by
  rw[hm]
  have:(x%2^(64-s)+1)*2^s<=2^(64-s)*2^s:=CA _ (By _ (GP _))
  rw[hpp,Bp]at this;omega
 exact⟨ho,hlt,by omega,hl2⟩
structure QE (w out:List Nat)(s i c:Nat):Prop where
 le:i<=w.length
 len:out.length=w.length+1
 wd:Wd out
 val:AT out=AT (w.take i)*2^s
 at_:out[i]?=some c
 cl:c<2^s
 zero:∀k,i<k->∀d,out[k]?=some d->d=0
theorem mH {w out:List Nat}{s i c x:Nat}(hs:s<=63)(hw:Wd w)(hi:i<w.length)(hx:w[i]?=some x)(I:QE w out s i c):
  QE w ((out.set i (c+x*2^s%18446744073709551616)).set (i+1) (x/2^(64-s))) s (i+1) (x/2^(64-s)):=by
 have hxl:x<BB:=hw x (BE hx);obtain⟨_,d2,d3,d4⟩:=Us hs I.cl hxl;obtain⟨z,hz⟩:∃z,out[i+1]?=some z:=⟨out[i+1]'(by have:=I.len;omega),BH _⟩
 have hz0:=I.zero _ (Gs i) z hz;subst hz0;have s1:=Ik (d:=c+x*2^s%18446744073709551616) I.at_;have hz1:(out.set i (c+x*2^s%18446744073709551616))[i+1]?=some 0:=by rw[Hx (by omega)];exact hz
 have s2:=Ik (d:=x/2^(64-s)) hz1;have hbx:AT (w.take (i+1))=AT (w.take i)+BB^i*x:=by rw[En hx,GC (i:=i) (by rw[Bj];omega)]
 have hhi:x/2^(64-s)<BB:=DJ (GO _ _) hxl;refine⟨by omega,by rw[DT,DT];exact I.len,(I.wd.set d2).set hhi,?_,?_,d4,λk hk d hd=>?_⟩
 ·have e1:BB^(i+1)*(x/2^(64-s))=BB^i*(18446744073709551616*(x/2^(64-s))):=by rw[CB,Bs]
  have e2:BB^i*(c+x*2^s%18446744073709551616+18446744073709551616*(x/2^(64-s)))=BB^i*(c+x*2^s):=by rw[d3]
  rw[BK,BK _ c (x*2^s)]at e2;rw[hbx,Bp,<-I.val,Bs];omega
 ·rw[Ty (by rw[DT];have:=I.len;omega)]
 ·rw[Hx (by omega),Hx (by omega)]at hd
  exact I.zero k (by omega) d hd
def Up (w:List Nat)(s:Nat)(H:Hp)(n:Nat)(d:D)(H':Hp)(n':Nat):Prop:=
 ∃(out:List Nat) (g:Nat),out.length=w.length+1/\Wd out/\AT out=AT w*2^s/\d=.osl 103 g 1 0 (w.length+1)/\H'=⟨103,g,225,1,out.map AR⟩::H/\n<=n'
theorem Uu (w:List Nat)(s:Nat)(hs:s<=63)(hw:Wd w)(hl:w.length<4000000)(H:Hp)(n:Nat):CS C0 256 [wL w,i64 s] H n (Up w s H n):=by
 refine CS.walk w1 ZX rfl λF=>?_
 unfold wL;have ew:(((w.map AR).length:Nat):Int)=(w.length:Int):=by rw[Ap]
 have wl:IntKind.i64.wrap ((w.length:Int)+1)=((w.length+1:Nat):Int):=by rw[wI (by omega) (by omega)];omega
 have r3:List.replicate (w.length+1) (ofV (.int .u64 0))=(List.replicate (w.length+1) 0).map AR:=by rw[JG];rfl
 refine sR 0 ?_;refine sZ 100 ?_;refine AU (Av ew wl kN) ?_;refine AC.seq ?_;refine sZ 200 ?_;refine AU ew ?_;obtain⟨g,hg⟩:∃g,g=n+1+1+1+1:=⟨_,rfl⟩
 rw[<-hg];have I0:QE w (List.replicate (w.length+1) 0) s 0 0:=⟨BS _,by simp,LY _,by simp[AT,Om],by simp,GP s,λk _ d hd=>ON (BE hd)⟩
 refine AC.weak ⟨[(0,.sl false 1 (w.map AR)),(1,i64 s),(4,CD),(5,.osl 103 g 1 0 (w.length+1)),(12,.sl false 1 (w.map AR)),(13,i64 w.length),(14,i64 0)],⟨103,g,225,1,(List.replicate (w.length+1) 0).map AR⟩::H,n+30⟩ (by rw[<-r3];exact AJ) ?_;refine AC.block ?_;refine AC.loop (α:=Nat×Nat×List Nat×Nat) (λp=>⟨[(0,.sl false 1 (w.map AR)),(1,i64 s),(4,CD),(5,.osl 103 g 1 0 (w.length+1)),(12,.sl false 1 (w.map AR)),(13,i64 w.length),(14,i64 p.1)],⟨103,g,225,1,p.2.2.1.map AR⟩::H,p.2.2.2⟩) (λp=>w.length-p.1)
  (λp=>QE w p.2.2.1 s p.1 p.2.1/\n<=p.2.2.2) (0,0,List.replicate (w.length+1) 0,n+30)
  ⟨I0,Nat.le_add_right _ _⟩ AJ ?_
 rintro⟨i,c,o,m⟩ F ⟨I,hm⟩;dsimp only at I hm⊢;refine sR 300 ?_;refine AC.seq ?_;refine AL ?_
 (refine Br (λh15=>?_) (λh15=>?_))<;>(try simp only[Bb,Bq]at h15)<;>(try simp only[h15])
 ·have hi:i<w.length:=by simpa using h15
  obtain⟨x,hx⟩:∃x,w[i]?=some x:=⟨w[i],BH hi⟩
  have hx':=DD hx;have hc':=DD I.at_;have hxl:x<BB:=hw x (BE hx);obtain⟨d1,d2,d3,d4⟩:=Us hs I.cl hxl;have J:=mH hs hw hi hx I;have e5:GY .or .u64 (c:Int) (J4 .u64 (x:Int) (s:Int))=((c+x*2^s%18446744073709551616:Nat):Int):=by
   rw[Nl x s hs,Te _ _ (by omega) (By _ (by decide)),d1]
  refine Am ?_;refine AC.seq ?_;refine AC.block ?_;refine sR 400 ?_;refine Bo kT hx' ?_;refine BN ?_;refine AC.seq ?_;refine B3 w1 500 [0,1,2,3,4,5,6] [7,8,9] (by kernel_rfl) ?_;refine AE (Bk e5 kN BR hc') ?_;refine Dq rfl rfl ?_;refine Ly rfl rfl rfl hc' ?_;refine AE @map_set ?_;refine AC.seq ?_;obtain⟨z,hz⟩:∃z,o[i+1]?=some z:=⟨o[i+1]'(by have:=I.len;omega),BH _⟩
  have hz0:=I.zero _ (Gs i) z hz;subst hz0;have hz1:(o.set i (c+x*2^s%18446744073709551616))[i+1]?=some 0:=by rw[Hx (by omega)];exact hz
  have hz':=DD hz1;have wi:IntKind.i64.wrap ((i:Int)+1)=((i+1:Nat):Int):=wI (by omega) (by omega);rcases DR s with hs0|hs0
  ·have e1:decide ((s:Int)>0)=false:=Ah (by omega)
   have hx0:x/2^(64-s)=0:=by rw[hs0];exact Gr hxl
   have hset:(o.set i (c+x*2^s%18446744073709551616)).set (i+1) 0=o.set i (c+x*2^s%18446744073709551616):=by
    refine OP λk=>?_
    rcases Nat.decEq (i+1) k with hk|hk
    ·rw[Hx hk]
    ·subst hk
     rw[Ty (by have:=(List.getElem?_eq_some_iff.1 hz1).1;exact this),hz1]
   rw[hx0,hset]at J;refine An w1 600 (by kernel_rfl) ?_;refine AU e1 ?_;refine AL ?_;refine Am ?_;refine An w1 800 (by kernel_rfl) ?_;refine AU wi ?_;refine⟨(i+1,0,o.set i (c+x*2^s%18446744073709551616),m+200),⟨J,by dsimp only;omega⟩,by dsimp only;omega,AJ⟩
  ·have e1:decide ((s:Int)>0)=true:=AY (by omega)
   have w64:IntKind.i64.wrap (64-(s:Int))=((64-s:Nat):Int):=by rw[wI (by omega) (by omega)];omega
   have w640:(0:Int)<=IntKind.i64.wrap (64-(s:Int)):=by rw[w64];omega
   have e36:=L6 x (64-s) (by omega);refine An w1 600 (by kernel_rfl) ?_;refine AU e1 ?_;refine AL ?_;refine An w1 700 (by kernel_rfl) ?_;refine AE (E5 wi w64 e36 kN BR hz') ?_
   try rw[map_set]
   refine An w1 800 (by kernel_rfl) ?_;refine AU wi ?_;refine⟨(i+1,x/2^(64-s),(o.set i (c+x*2^s%18446744073709551616)).set (i+1) (x/2^(64-s)),m+200),⟨J,by dsimp only;omega⟩,by dsimp only;omega,AJ⟩
 ·have hi:i=w.length:=by
   have:¬i<w.length:=by simpa using h15
   have:=I.le
   omega
  subst hi;have hv:=I.val;rw[B4 (Ad _)]at hv;refine B5 ?_;refine sR 900 ?_;refine Af ?_;exact⟨o,g,I.len,I.wd,hv,rfl,rfl,by omega⟩
section
variable {C:A8} {B F:Aa} {s:St} {rd:Option Nat} {Q:Exit->Aa->St->Prop}
theorem Ck {a b:Code}{α:Type}(S:α->St)(J:α->Prop)(h1:AC C B rd F a s (λe F1 s1=>IP (F1=F/\∃x,J x/\Wk s1 (S x)) (λe=>Q e F1 s1) e))(h2:∀x,J x->AC C B rd F b (S x) Q):AC C B rd F (.seq a b) s Q:=
 AC.seq (h1.mono λe F1 s1 h=>by
  cases e with
  |normal=>
   obtain⟨h0,x,hx,h3⟩:=(show F1=F/\∃x,J x/\Wk s1 (S x)from h)
   rw[h0];exact AC.weak (S x) h3 (h2 x hx)
  |ret=>exact h
  |exit j=>exact h
  |goto l=>exact h
  |panic c=>exact h
  |outgrown=>exact h)
end
theorem eQ {q v c:Nat}(hq:q<BB)(hv:v<BB)(hc:c<BB):
  (q*v%BB+c)%BB+BB*(q*v/BB+(q*v%BB+c)/BB)=q*v+c/\q*v/BB+(q*v%BB+c)/BB<BB:=by
 have hqv:q*v<=(18446744073709551616-1)*(18446744073709551616-1):=H6 (by unfold BB at hq;omega) (by unfold BB at hv;omega);have hk:(18446744073709551616-1)*(18446744073709551616-1)=340282366920938463426481119284349108225:=by decide
 rw[hk]at hqv;generalize q*v=p at*;have e1:=EW p BB;have e2:=EW (p%BB+c) BB;have l1:=By p (show BB>0 by decide);have l2:=By (p%BB+c) (show BB>0 by decide);unfold BB at*;generalize p/18446744073709551616=A at*;generalize p%18446744073709551616=D at*;generalize(D+c)/18446744073709551616=E at*;generalize(D+c)%18446744073709551616=G at*;omega
theorem CG {l:List Nat}{i:Nat}(h:i<l.length):∃a,l[i]?=some a:=⟨l[i],BH h⟩
theorem Tk {l:List Nat}{k a:Nat}(hl:l.length=k+1)(ha:l[k]?=some a):AT l=AT (l.take k)+BB^k*a:=by
 rw[Jj ha,Gt (by omega)];simp[AT]
theorem ua {l:List Nat}{k a b:Nat}(hl:l.length=k+2)(ha:l[k]?=some a)(hb:l[k+1]?=some b):AT l=AT (l.take k)+BB^k*(a+BB*b):=by
 rw[Jj ha]
 have:l.drop (k+1)=[b]:=by
  rw[D9 (by omega),Gt (by omega)]
  congr 1
  exact(List.getElem?_eq_some_iff.1 hb).2
 rw[this];simp[AT]
theorem ub {l:List Nat}{k a b c:Nat}(hl:l.length=k+3)(ha:l[k]?=some a)(hb:l[k+1]?=some b)(hc:l[k+2]?=some c):AT l=AT (l.take k)+BB^k*(a+BB*(b+BB*c)):=by
 rw[Jj ha];have h1:=Tk (l:=l.drop (k+1)) (k:=1) (a:=c) (by rw[Do];omega) (by rw[Gn,EH];exact hc);have h2:(l.drop (k+1)).take 1=[b]:=by
  rw[D9 (by omega)];simp only[List.take_succ_cons,Ma]
  congr 1
  exact(List.getElem?_eq_some_iff.1 hb).2
 rw[h1,h2];simp[AT]
structure Lm (P v:List Nat)(m p0 p1 p2 v2 v1:Nat):Prop where
 lP:P.length=m+3
 lv:v.length=m+2
 wP:Wd P
 wv:Wd v
 h0:P[m]?=some p0
 h1:P[m+1]?=some p1
 h2:P[m+2]?=some p2
 g2:v[m]?=some v2
 g1:v[m+1]?=some v1
 top:0<v1
 less:AT P<AT v*BB
namespace Lm
variable {P v:List Nat} {m p0 p1 p2 v2 v1:Nat} (S:Lm P v m p0 p1 p2 v2 v1)
include S
theorem valP:AT P=AT (P.take m)+BB^m*(p0+BB*(p1+BB*p2)):=ub S.lP S.h0 S.h1 S.h2
theorem valv:AT v=AT (v.take m)+BB^m*(v2+BB*v1):=ua S.lv S.g2 S.g1
theorem lowP:AT (P.take m)<BB^m:=by
 have:=G4 (S.wP.take m)
 rwa [Bj,Eh (by have:=S.lP;omega)]at this
theorem lowv:AT (v.take m)<BB^m:=by
 have:=G4 (S.wv.take m)
 rwa [Bj,Eh (by have:=S.lv;omega)]at this
theorem p0l:p0<BB:=S.wP _ (BE S.h0)
theorem p1l:p1<BB:=S.wP _ (BE S.h1)
theorem p2l:p2<BB:=S.wP _ (BE S.h2)
theorem v1l:v1<BB:=S.wv _ (BE S.g1)
theorem v2l:v2<BB:=S.wv _ (BE S.g2)
theorem below3:AT P<(p0+BB*(p1+BB*p2)+1)*BB^m:=by
 rw[S.valP,Bp,IX,BO (BB^m)]
 have:=S.lowP
 omega
theorem below2:AT P<(p1+BB*p2+1)*BB^(m+1):=by
 have h:=S.below3;have h1:=S.p0l;generalize p1+BB*p2=t at*;have h2:(p0+BB*t+1)*BB^m<=(BB*(t+1))*BB^m:=CA _ (by rw[BK BB t 1];omega);have h3:(t+1)*BB^(m+1)=(BB*(t+1))*BB^m:=by rw[CB,BO (BB^m) BB,<-Bs,BO (t+1) BB]
 omega
theorem abovev:v1*BB^(m+1)<=AT v:=by
 rw[S.valv,CB,BK]
 have:v1*(BB^m*BB)=BB^m*(BB*v1):=by rw[BO v1,Bs]
 omega
theorem abovev2:(v2+BB*v1)*BB^m<=AT v:=by
 rw[S.valv,BO];omega
theorem pos:0<AT v:=CM (Gu S.top (Nat.pow_pos (by decide))) S.abovev
theorem p2v1:p2<=v1:=by
 rcases BL v1 p2 with h|h
 ·exfalso
  have e1:BB^(m+2)*p2<=AT P:=by
   rw[S.valP,BK,BK,BK]
   have:BB^(m+2)*p2=BB^m*(BB*(BB*p2)):=by rw[CB,CB,Bs,Bs]
   omega
  have e2:AT v<BB^(m+1)*(v1+1):=by
   have h1:=S.lowv;have h2:=S.v2l;have e3:BB^(m+1)*(v1+1)=BB^m*(BB*v1+BB):=by rw[CB,Bs,BK,Du]
   have e4:BB^m*(v2+BB*v1+1)<=BB^m*(BB*v1+BB):=CR _ (by omega);rw[BK _ _ 1,Du]at e4;rw[S.valv,e3];omega
  have e5:BB^(m+1)*(v1+1)*BB=BB^(m+2)*(v1+1):=by rw[Nat.mul_right_comm,<-CB]
  have e6:BB^(m+2)*(v1+1)<=BB^(m+2)*p2:=CR _ h;have e7:(AT v)*BB<=BB^(m+1)*(v1+1)*BB:=CA _ (JE e2)
  have:=S.less
  omega
 ·exact h
end Lm
theorem gF {B q v2 r c p0:Nat}(hq:q<B)(hv:v2<B)(h:0<c\/q*v2<=r*B+p0):q*v2<=(r+B*c)*B+p0:=by
 rcases h with h|h
 ·have h2:q*v2<=B*B:=H6 (by omega) (by omega)
  have h4:B*1<=B*c:=CR _ h;have h3:B*B<=(r+B*c)*B:=CA _ (by omega);omega
 ·have h3:r*B<=(r+B*c)*B:=CA _ (by omega)
  omega
structure Ks (U V n2 v1 q r c:Nat):Prop where
 eq:q*v1+(r+BB*c)=n2
 up:U<(q+1)*V
 qB:q<BB
 rB:r<BB
 c1:c<=1
section
variable {P v:List Nat} {m p0 p1 p2 v2 v1:Nat} (S:Lm P v m p0 p1 p2 v2 v1)
include S
theorem gG (h:v1<=p2):Ks (AT P) (AT v) (p1+BB*p2) v1 18446744073709551615 ((p1+v1+0)%BB) ((p1+v1+0)/BB):=by
 have h1:p2=v1:=Nat.le_antisymm S.p2v1 h;have h2:=S.less;have h3:=S.p1l;have h4:=S.v1l;have e:=EW (p1+v1+0) BB;refine⟨?_,?_,by decide,By _ (by decide),?_⟩
 ·rw[e,h1]
  show 18446744073709551615*v1+(p1+v1+0)=p1+18446744073709551616*v1;omega
 ·rw[BO];exact h2
 ·have:p1+v1+0<2*BB:=by omega
  exact MV (Ej (by rw[BO];exact this))
theorem ck (h:p2<v1):Ks (AT P) (AT v) (p1+BB*p2) v1 ((p2*BB+p1)/v1) ((p2*BB+p1)%v1) 0:=by
 have c0:p2*BB+p1=p1+BB*p2:=by rw[BO,KH]
 rw[c0];have e:=EJ (p1+BB*p2) v1;have l:=By (p1+BB*p2) S.top;have h3:=S.p1l;have h4:=S.v1l;have c1:=BO v1 ((p1+BB*p2)/v1);refine⟨by omega,UW S.below2 S.abovev ?_,?_,by omega,by decide⟩
 ·rw[Bp];omega
 ·refine Ej ?_
  have:BB*(p2+1)<=BB*v1:=CR _ h
  rw[BK]at this;rw[BO v1];omega
theorem eG {q r:Nat}(G:Ks (AT P) (AT v) (p1+BB*p2) v1 q r 0)(h:r*BB+p0<q*v2):
  0<q/\Ks (AT P) (AT v) (p1+BB*p2) v1 (q-1) ((r+v1+0)%BB) ((r+v1+0)/BB):=by
 obtain⟨e,u,b,rb,_⟩:=G;rcases DR q with h0|h0
 ·subst h0;omega
 obtain⟨k,rfl⟩:∃k,q=k+1:=⟨q-1,by omega⟩
 have e1:=EW (r+v1+0) BB;have h4:=S.v1l;have e2:(k+1)*(v2+BB*v1)=(k+1)*v2+BB*((k+1)*v1):=by rw[BK,H4]
 have hn3:p0+BB*(p1+BB*p2)<(k+1)*(v2+BB*v1):=by
  rw[e2,<-e,BK BB,EI,DL r,BO BB r];omega
 refine⟨by omega,⟨?_,?_,by omega,By _ (by decide),?_⟩⟩
 ·rw[Hz,e1,<-e,Bp];omega
 ·rw[Hz];exact U2 S.below3 S.abovev2 hn3
 ·have:r+v1+0<2*BB:=by omega
  exact MV (Ej (by rw[BO];exact this))
theorem Uz {q r c:Nat}(G:Ks (AT P) (AT v) (p1+BB*p2) v1 q r c)(h:0<c\/q*v2<=r*BB+p0):q*AT v<=AT P+AT v:=by
 obtain⟨e,u,b,rb,c1⟩:=G;have h5:=S.v2l;have hq:q*v2<=(r+BB*c)*BB+p0:=gF b h5 h;have e2:q*(v2+BB*v1)=q*v2+BB*(q*v1):=by rw[BK,H4]
 refine Vi (n3:=p0+BB*(p1+BB*p2)) (D:=v2+BB*v1) (P:=BB^m) (B:=BB) (v:=AT (v.take m)) ?_ ?_ S.lowv ?_ (by omega) ?_
 ·rw[S.valP,BO];omega
 ·rw[S.valv,BO];omega
 ·rw[e2,<-e,BK BB]
  have:BB*(r+BB*c)=(r+BB*c)*BB:=BO _ _
  omega
 ·have:=S.top
  have h1:=CR BB (show 1<=v1 from this);omega
end
theorem eH {x r p0:Nat}(hp:p0<BB):(x/BB<r\/x/BB=r/\x%BB<=p0)↔x<=r*BB+p0:=by
 have e:=EJ x BB;have l:=By x (show 0<BB by decide);generalize x/BB=h at*;generalize x%BB=d at*;unfold BB at*;omega
theorem Rj {U V q N:Nat}(h:N+q*V=U+0)(hu:U<(q+1)*V):U/V=q/\U%V=N:=by
 have h1:U=N+V*q:=by rw[BO];omega
 have h2:N<V:=by rw[Bp]at hu;omega
 subst h1;exact⟨by rw[Qq _ _ (by omega),Gr h2,BR],by rw[Qj,DS h2]⟩
theorem VX {U V q N N3 T c:Nat}(h:N+q*V=U+T)(hN:N<T)(hu:q*V<=U+V)(h3:N3+T*c=N+V)(hc:c<=1)(h3l:N3<T):0<q/\U/V=q-1/\U%V=N3:=by
 rcases DR q with h0|h0
 ·subst h0;omega
 obtain⟨k,rfl⟩:∃k,q=k+1:=⟨q-1,by omega⟩
 rw[Bp,IX]at h hu;have hc1:c=1:=by
  rcases DR c with h4|h4
  ·subst h4;omega
  ·omega
 subst hc1;have h5:N3+k*V=U+0:=by omega
 have h6:U<(k+1)*V:=by rw[Bp];omega
 obtain⟨a,b⟩:=Rj h5 h6;exact⟨by omega,by rw[a];omega,b⟩
theorem bu {A P v:List Nat}{q i z x d b c b' c' lo:Nat}(hz:A[i]?=some z)(hx:v[i]?=some x)(hI:AT A+q*AT (v.take i)=AT P+BB^i*(c+b))
  (h1:lo+BB*c'=q*x+c) (h2:d+lo+b=z+BB*b'):AT (A.set i d)+q*AT (v.take (i+1))=AT P+BB^(i+1)*(c'+b'):=by
 have hs:=Ik (d:=d) hz;have hi:i<v.length:=(List.getElem?_eq_some_iff.1 hx).1;rw[En hx,GC (i:=i) (by rw[Bj];omega),BK,H4 q,CB,Bs];have e:BB^i*(d+q*x+(c+b))=BB^i*(z+BB*(c'+b')):=by congr 1;rw[BK BB];omega
 rw[BK,BK,BK (BB^i) z]at e;omega
theorem bv {A P:List Nat}{i z d X b c b':Nat}(hz:A[i]?=some z)(hI:AT A+X=AT P+BB^i*(c+b))(h2:d+c+b=z+BB*b'):AT (A.set i d)+X=AT P+BB^(i+1)*b':=by
 have hs:=Ik (d:=d) hz;rw[CB,Bs];have e:BB^i*(d+(c+b))=BB^i*(z+BB*b'):=by congr 1;omega
 rw[BK,BK (BB^i) z]at e;omega
theorem bi {A P v:List Nat}{i z x c:Nat}(hz:A[i]?=some z)(hx:v[i]?=some x)(hI:AT A+BB^i*c=AT P+AT (v.take i)):
  AT (A.set i ((z+x+c)%BB))+BB^(i+1)*((z+x+c)/BB)=AT P+AT (v.take (i+1)):=by
 have hs:=Ik (d:=(z+x+c)%BB) hz;have hi:i<v.length:=(List.getElem?_eq_some_iff.1 hx).1;rw[En hx,GC (i:=i) (by rw[Bj];omega),CB,Bs];have e:BB^i*((z+x+c)%BB+BB*((z+x+c)/BB))=BB^i*(z+x+c):=by rw[EW]
 rw[BK,BK,BK (BB^i) z]at e;omega
theorem bn {A:List Nat}{i z c X:Nat}(hz:A[i]?=some z)(hI:AT A+BB^i*c=X):
  AT (A.set i ((z+c)%BB))+BB^(i+1)*((z+c)/BB)=X:=by
 have hs:=Ik (d:=(z+c)%BB) hz;rw[CB,Bs];have e:BB^i*((z+c)%BB+BB*((z+c)/BB))=BB^i*(z+c):=by rw[EW]
 rw[BK,BK (BB^i) z]at e;omega
theorem Ko {A P Z:List Nat}{i z:Nat}(h:P[i]?=some z):((A++(P++Z)).map AR)[A.length+i]?=some (AR z):=by
 have hi:i<P.length:=(List.getElem?_eq_some_iff.1 h).1;refine DD ?_;rw[E3 (by omega),J9,F3 hi];exact h
theorem Ph {A P Z:List Nat}{i d:Nat}(hi:i<P.length):((A++(P++Z)).map AR).set (A.length+i) (AR d)=(A++(P.set i d++Z)).map AR:=by
 rw[map_set,OG _ _ (by omega),J9,List.set_append_left _ _ hi]
set_option maxHeartbeats 2000000
def jz (A P Z v:List Nat)(gq Tq gu:Nat)(qs:List D)(d:D)(H':Hp)(_:Nat):Prop:=
 ∃P':List Nat,P'.length=P.length/\Wd P'/\AT P'=AT P%AT v/\d=AR (AT P/AT v)/\H'=[⟨1505,gq,Tq,1,qs⟩,⟨103,gu,225,1,(A++(P'++Z)).map AR⟩]
theorem ku (A P Z v:List Nat)(m p0 p1 p2 v2 v1:Nat)(S:Lm P v m p0 p1 p2 v2 v1)(hm:A.length+m<4000000)(gq Tq gu:Nat)(qs:List D)(n:Nat):
  CS C0 257 [.osl 103 gu 1 A.length (m+3),wL v] [⟨1505,gq,Tq,1,qs⟩,⟨103,gu,225,1,(A++(P++Z)).map AR⟩] n (jz A P Z v gq Tq gu qs):=by
 refine CS.walk w1 ZY rfl λF=>?_
 unfold wL;have hPl:=S.lP;have hvl:=S.lv;have ev:(((v.map AR).length:Nat):Int)=((m+2:Nat):Int):=by rw[Ap,hvl]
 have k1:IntKind.i64.wrap (((m+2:Nat):Int)-1)=((m+1:Nat):Int):=by rw[wI (by omega) (by omega)];omega
 have k2:IntKind.i64.wrap (((m+2:Nat):Int)-2)=(m:Int):=by rw[wI (by omega) (by omega)];omega
 have hp0:=Ko (A:=A) (Z:=Z) S.h0;have hp1:=Ko (A:=A) (Z:=Z) S.h1;have hp2:=Ko (A:=A) (Z:=Z) S.h2;have hv1:=DD S.g1;have hv2:=DD S.g2;have l0:=S.p0l;have l1:=S.p1l;have l2:=S.p2l;have lv1:=S.v1l;have lv2:=S.v2l;refine sR 0 ?_;refine sZ 100 ?_;refine AU ev ?_;refine sR 200 ?_;refine sR 300 ?_;refine Ck (α:=Nat×Nat×Nat×Nat) (λp=>⟨[(0,.osl 103 gu 1 A.length (m+3)),(1,.sl false 1 (v.map AR)),(5,i64 ((m+2:Nat):Int)),(6,AR p.1),(7,AR p.2.1),(8,AR p.2.2.1)],[⟨1505,gq,Tq,1,qs⟩,⟨103,gu,225,1,(A++(P++Z)).map AR⟩],p.2.2.2⟩)
  (λp=>Ks (AT P) (AT v) (p1+BB*p2) v1 p.1 p.2.1 p.2.2.1) ?_ ?_
 ·refine AC.seq ?_
  refine B3 w1 400 [0,1,2,3,4,5,6,7,8] [9] (by kernel_rfl) ?_;refine AE (Av kN k1 hp2) ?_;refine Bo kT hv1 ?_;refine AE (Av kN k1 hp2) ?_;rcases BL p2 v1 with h|h
  ·have e1:decide ((p2:Int)>=(v1:Int))=false:=Ah (by omega)
   have G:=ck S h;rw[e1];refine AL ?_;refine B3 w1 700 [0,1,2,3,4,5,6,7,8,9,10,11,12,13,14,15,16,17,18] [19] (by kernel_rfl) ?_;refine AE (Bk kN k1 hp2 hp1) ?_;refine Bo kT hv1 ?_;refine AE (Bk kN k1 hp2 hp1) ?_;refine BT.same _ (Vx p2 p1 v1 h l1 lv1) AI ?_;refine BN ?_;exact⟨trivial,⟨(p2*BB+p1)/v1,(p2*BB+p1)%v1,0,_⟩,G,AJ⟩
  ·have e1:decide ((p2:Int)>=(v1:Int))=true:=AY (by omega)
   have G:=gG S h;rw[e1];refine AL ?_;refine sR 500 ?_;refine B3 w1 600 [0,1,2,3,4,5,6,7,8,9,10,11,12,13,14] [15] (by kernel_rfl) ?_;refine AE (Bk kN k1 hp2 hp1) ?_;refine Bo kT hv1 ?_;refine AE (Bk kN k1 hp2 hp1) ?_;exact⟨trivial,⟨18446744073709551615,(p1+v1+0)%BB,(p1+v1+0)/BB,_⟩,G,AJ⟩
 rintro⟨q0,r0,c0,n0⟩ G0;dsimp only at G0⊢;refine Ck (α:=Nat×Nat) (λp=>⟨[(0,.osl 103 gu 1 A.length (m+3)),(1,.sl false 1 (v.map AR)),(5,i64 ((m+2:Nat):Int)),(6,AR p.1)],[⟨1505,gq,Tq,1,qs⟩,⟨103,gu,225,1,(A++(P++Z)).map AR⟩],p.2⟩)
  (λp=>p.1<BB/\AT P<(p.1+1)*AT v/\p.1*AT v<=AT P+AT v) ?_ ?_
 ·refine AC.block ?_
  refine Fv (α:=Nat×Nat×Nat×Nat) (λp=>⟨[(0,.osl 103 gu 1 A.length (m+3)),(1,.sl false 1 (v.map AR)),(5,i64 ((m+2:Nat):Int)),(6,AR p.1),(7,AR p.2.1),(8,AR p.2.2.1)],[⟨1505,gq,Tq,1,qs⟩,⟨103,gu,225,1,(A++(P++Z)).map AR⟩],p.2.2.2⟩)
   (λp=>p.1) (λp F'=>F'=F/\Ks (AT P) (AT v) (p1+BB*p2) v1 p.1 p.2.1 p.2.2.1) (q0,r0,c0,n0) ⟨rfl,G0⟩ AJ ?_
  rintro⟨q,r,c,n1⟩ F' ⟨rfl,G⟩;dsimp only at G⊢;refine AC.seq ?_;refine AC.seq ?_;rcases DR c with hc|hc
  ·subst hc
   have e8:(((0:Nat):Int)==0)=true:=rfl;refine An w1 800 (by kernel_rfl) ?_;refine AU e8 ?_;refine AL ?_;refine Am ?_;refine AC.block ?_;have lq:=G.qB;have cm:=M7 q v2 lq lv2;refine sZ 900 ?_;refine AE (Ae kN k2) ?_;refine Bo kT hv2 ?_;refine AE (Ae kN k2) ?_;refine A9.same _ cm AI ?_;refine BN ?_;have ht:=eH (x:=q*v2) (r:=r) l0;obtain⟨b,hb⟩:∃b:Bool,b=decide (q*v2<=r*BB+p0):=⟨_,rfl⟩
   refine AC.seq ?_;refine Db ⟨[(0,.osl 103 gu 1 A.length (m+3)),(1,.sl false 1 (v.map AR)),(5,i64 ((m+2:Nat):Int)),(6,AR q),(7,AR r),(91,Au b)],[⟨1505,gq,Tq,1,qs⟩,⟨103,gu,225,1,(A++(P++Z)).map AR⟩],n1+100⟩ ?_ ?_
   ·change(q*v2/18446744073709551616<r\/q*v2/18446744073709551616=r/\q*v2%18446744073709551616<=p0)↔_ at ht
    generalize q*v2/18446744073709551616=hi at*;generalize q*v2%18446744073709551616=lo at*;rcases BL hi r with h|h
    ·have e1:decide ((hi:Int)<(r:Int))=true:=AY (by omega)
     have hb1:b=true:=by rw[hb];exact AY (ht.1 (.inl h))
     subst hb1;refine An w1 1000 (by kernel_rfl) ?_;refine AE e1 ?_;refine AE kT ?_;exact And.intro (by trivial) (AJ)
    ·have e1:decide ((hi:Int)<(r:Int))=false:=Ah (by omega)
     rcases Nat.eq_or_lt_of_le h with h2|h2
     ·have e2:((hi:Int)==(r:Int))=true:=Dv.2 (by omega)
      have e3:decide ((lo:Int)<=(p0:Int))=b:=by
       rw[hb];exact C4.2 ⟨λh3=>ht.1 (.inr ⟨h2.symm,by omega⟩),λh3=>by rcases ht.2 h3 with h4|h4<;>omega⟩
      refine An w1 1000 (by kernel_rfl) ?_;refine AE e1 ?_;refine AE (Ae kF e2) ?_;refine AE (E5 kF e2 kN k2 hp0 e3) ?_;exact And.intro (by trivial) (AJ)
     ·have e2:((hi:Int)==(r:Int))=false:=Bw.2 (by omega)
      have hb1:b=false:=by rw[hb];exact Ah λh3=>by rcases ht.2 h3 with h4|h4<;>omega
      subst hb1;refine An w1 1000 (by kernel_rfl) ?_;refine AE e1 ?_;refine AE kF ?_;simp only[e2];refine AE (Ae kF HK) ?_;exact And.intro (by trivial) (AJ)
   ·cases b
    ·have hn:=DA hb.symm
     obtain⟨hq0,G2⟩:=eG S G (by omega);have j1:IntKind.u64.wrap ((q:Int)-1)=((q-1:Nat):Int):=by rw[wU (by omega) (by have:=G.qB;unfold BB at this;omega)];omega
     refine AL ?_;refine Am ?_;refine sZ 1100 ?_;refine AU j1 ?_;refine An w1 1200 (by kernel_rfl) ?_;refine AE (Ae kN k1) ?_;refine Bo kT hv1 ?_;refine AE (Ae kN k1) ?_;exact⟨(q-1,(r+v1+0)%BB,(r+v1+0)/BB,_),⟨trivial,G2⟩,by dsimp only;omega,AJ⟩
    ·have hn:=C3 hb.symm
     refine AL ?_;refine B5 ?_;exact⟨rfl,⟨q,_⟩,⟨G.qB,G.up,Uz S G (.inr hn)⟩,AJ⟩
  ·have e8:((c:Int)==0)=false:=Bw.2 (by omega)
   refine An w1 800 (by kernel_rfl) ?_;refine AU e8 ?_;refine AL ?_;refine B5 ?_;exact⟨rfl,⟨q,_⟩,⟨G.qB,G.up,Uz S G (.inl hc)⟩,AJ⟩
 rintro⟨q,n1⟩ ⟨hq,hup,hdn⟩;dsimp only at hq hup hdn⊢;clear hp0 hp1 hp2;refine sR 1300 ?_;refine AC.seq ?_;refine sR 1400 ?_;refine AC.block ?_;refine AC.loop (α:=Nat×Nat×Nat×List Nat×Nat) (λp=>⟨[(0,.osl 103 gu 1 A.length (m+3)),(1,.sl false 1 (v.map AR)),(5,i64 ((m+2:Nat):Int)),(6,AR q),(11,AR p.2.1),(12,AR p.2.2.1),(104,i64 ((m+2:Nat):Int)),(105,i64 p.1)],[⟨1505,gq,Tq,1,qs⟩,⟨103,gu,225,1,(A++(p.2.2.2.1++Z)).map AR⟩],p.2.2.2.2⟩) (λp=>m+2-p.1)
  (λp=>p.1<=m+2/\p.2.1<=1/\p.2.2.1<BB/\p.2.2.2.1.length=m+3/\Wd p.2.2.2.1/\AT p.2.2.2.1+q*AT (v.take p.1)=AT P+BB^p.1*(p.2.2.1+p.2.1)) (0,0,0,P,_) ⟨BS _,BS _,(show 0<BB by decide),hPl,S.wP,by simp[AT]⟩ AJ ?_
 rintro⟨i,b,c,p,n2⟩ F ⟨hi,hb,hc,hpl,hpw,hI⟩;dsimp only at hi hb hc hpl hpw hI⊢;have hv1':=hv1;clear hv1 hv2;refine sR 1500 ?_;refine AC.seq ?_;refine AL ?_
 (refine Br (λhlt=>?_) (λhlt=>?_))<;>(try simp only[Bb,Bq]at hlt)<;>(try simp only[hlt])
 ·have hi2:i<m+2:=by
   have:=C3 hlt
   omega
  obtain⟨x,hx⟩:=CG (l:=v) (i:=i) (by omega);have hx':=DD hx;have hxl:x<BB:=S.wv x (BE hx);obtain⟨z,hz⟩:=CG (l:=p) (i:=i) (by omega);have hz':=Ko (A:=A) (Z:=Z) hz;have hzl:z<BB:=hpw z (BE hz);have cm:=M7 q x hq hxl;have md:=eQ hq hxl hc;obtain⟨h,l,lo,k,c',eh,el,elo,ek,ec,hlo,hc',hmd⟩:∃h l lo k c',q*x/18446744073709551616=h/\q*x%18446744073709551616=l/\(l+c+0)%18446744073709551616=lo/\(l+c+0)/18446744073709551616=k/\h+k=c'/\lo<BB/\c'<BB/\lo+BB*c'=q*x+c:=
   ⟨_,_,_,_,_,rfl,rfl,rfl,rfl,rfl,By _ (by decide),md.2,md.1⟩
  rw[eh,el]at cm;have j1:IntKind.u64.wrap ((h:Int)+(k:Int))=(c':Int):=by rw[<-Int.natCast_add,ec];exact T8 hc'
  have hsub:=R2 (a:=z) (b:=lo) hb;have hdig:=Rl hzl hlo hb;have hb':(if z<lo+b then 1 else 0)<=1:=by split<;>decide
  have hd:(z+BB-lo-b)%BB<BB:=By _ (by decide);generalize(if z<lo+b then 1 else 0)=b' at*;generalize(z+BB-lo-b)%BB=d at*;have wi:IntKind.i64.wrap ((i:Int)+1)=((i+1:Nat):Int):=wI (by omega) (by omega);refine Am ?_;refine AC.seq ?_;refine AC.block ?_;refine sR 1600 ?_;refine sZ 1700 ?_;refine AE kN ?_;refine Bo kT hx' ?_;refine AE kN ?_;refine A9.same _ cm AI ?_;refine BN ?_;refine sR 1800 ?_;refine sZ 1900 ?_;refine AU (Ae elo ek) ?_;refine sZ 2000 ?_;refine AU j1 ?_;refine An w1 2100 (by kernel_rfl) ?_;refine AE (Ae kN hz') ?_
  first|(refine Dq rfl rfl ?_;refine PX rfl rfl (hsub) ?_)|(refine EM rfl rfl ?_;refine NO rfl rfl (hsub) ?_)
  refine AE (Ae kN hz') ?_;rw[Ph (by omega)];refine An w1 2200 (by kernel_rfl) ?_;refine AU wi ?_;exact⟨(i+1,b',c',p.set i d,_),⟨hi2,hb',hc',by dsimp only;rw[DT];exact hpl,hpw.set hd,bu hz hx hI hmd hdig⟩,by dsimp only;omega,AJ⟩
 ·have hi2:i=m+2:=by
   have:=DA hlt
   omega
  subst hi2;rw[B4 (by omega)]at hI;obtain⟨z,hz⟩:=CG (l:=p) (i:=m+2) (by omega);have hz':=Ko (A:=A) (Z:=Z) hz;have hzl:z<BB:=hpw z (BE hz);have hsub:=R2 (a:=z) (b:=c) hb;have hdig:=Rl hzl hc hb;have hb':(if z<c+b then 1 else 0)<=1:=by split<;>decide
  have hd:(z+BB-c-b)%BB<BB:=By _ (by decide);generalize(if z<c+b then 1 else 0)=b' at*;generalize(z+BB-c-b)%BB=d at*;have hT:=bv hz hI hdig;have hml:m+2<p.length:=by omega
  refine B5 ?_;refine sZ 2300 ?_;refine AE (Ae kN hz') ?_
  first|(refine Dq rfl rfl ?_;refine PX rfl rfl (hsub) ?_)|(refine EM rfl rfl ?_;refine NO rfl rfl (hsub) ?_)
  refine AE (Ae kN hz') ?_;rw[Ph hml];have hpl2:(p.set (m+2) d).length=m+3:=by rw[DT];exact hpl
  have hpw2:=hpw.set (i:=m+2) hd;clear hz' hz hdig hsub hI;generalize p.set (m+2) d=p2 at*;refine AC.seq ?_;refine AC.seq ?_;rcases DR b' with hb0|hb0
  ·subst hb0
   have e24:(((0:Nat):Int)==0)=true:=rfl;obtain⟨ed,em⟩:=Rj hT hup;refine An w1 2400 (by kernel_rfl) ?_;refine AU e24 ?_;refine AL ?_;refine sR 2500 ?_;refine Af ?_;exact⟨p2,by omega,hpw2,em.symm,by rw[ed],rfl⟩
  ·have hb1:b'=1:=by omega
   subst hb1;have e24:(((1:Nat):Int)==0)=false:=rfl;have hpL:=G4 hpw2;rw[hpl2]at hpL;refine An w1 2400 (by kernel_rfl) ?_;refine AU e24 ?_;refine AL ?_;refine Am ?_;refine sR 2600 ?_;refine AC.seq ?_;refine sR 2700 ?_;refine AC.block ?_;refine AC.loop (α:=Nat×Nat×List Nat×Nat) (λp=>⟨[(0,.osl 103 gu 1 A.length (m+3)),(1,.sl false 1 (v.map AR)),(5,i64 ((m+2:Nat):Int)),(6,AR q),(17,AR p.2.1),(156,i64 ((m+2:Nat):Int)),(157,i64 p.1)],[⟨1505,gq,Tq,1,qs⟩,⟨103,gu,225,1,(A++(p.2.2.1++Z)).map AR⟩],p.2.2.2⟩) (λp=>m+2-p.1)
    (λp=>p.1<=m+2/\p.2.1<=1/\p.2.2.1.length=m+3/\Wd p.2.2.1/\AT p.2.2.1+BB^p.1*p.2.1=AT p2+AT (v.take p.1)) (0,0,p2,_) ⟨BS _,BS _,hpl2,hpw2,by simp[AT]⟩ AJ ?_
   rintro⟨i,c3,p3,n3⟩ F ⟨hi,hc3,hpl3,hpw3,hI⟩;dsimp only at hi hc3 hpl3 hpw3 hI⊢;refine sR 2800 ?_;refine AC.seq ?_;refine AL ?_
   (refine Br (λhlt=>?_) (λhlt=>?_))<;>(try simp only[Bb,Bq]at hlt)<;>(try simp only[hlt])
   ·have hi2:i<m+2:=by
     have:=C3 hlt
     omega
    obtain⟨x,hx⟩:=CG (l:=v) (i:=i) (by omega);have hx':=DD hx;have hxl:x<BB:=S.wv x (BE hx);obtain⟨z,hz⟩:=CG (l:=p3) (i:=i) (by omega);have hz':=Ko (A:=A) (Z:=Z) hz;have hzl:z<BB:=hpw3 z (BE hz);have hadd:=WA (a:=z) (b:=x) hc3;have J:=bi hz hx hI;have hs:(z+x+c3)%BB<BB:=By _ (by decide);have hc':(z+x+c3)/BB<=1:=by
     have:z+x+c3<2*BB:=by omega
     exact MV (Ej (by rw[BO];exact this))
    generalize(z+x+c3)%BB=d at*;generalize(z+x+c3)/BB=c' at*;have wi:IntKind.i64.wrap ((i:Int)+1)=((i+1:Nat):Int):=wI (by omega) (by omega);refine Am ?_;refine AC.seq ?_;refine AC.block ?_;refine sR 2900 ?_;refine N9 w1 3000 [0,1,2,3,4,5,6,7,8,9,10,11,12,13,14,15,16] [17] 16 [12,10,9,8,7,6,5,4,3,2,1,0,11,13,15] (103) (by kernel_rfl) (by kernel_rfl) ?_;refine At ?_;refine Ic (Ae kN hz') ?_;refine JW rfl rfl rfl rfl ?_;refine Jl (λ_ _=>rfl) (by exact Bz) ⟨rfl,by omega⟩ hx' ?_
    try dsimp only[D.cells,spot]
    refine Ic (Ae kN hz') ?_;refine JW rfl rfl rfl rfl ?_;refine NO rfl rfl hadd ?_;refine Ic (Ae kN hz') ?_;refine And.intro (by first|exact Or.inl AB|exact Or.inl rfl) ?_;refine AE kN ?_;rw[Ph (by omega)];refine An w1 3100 (by kernel_rfl) ?_;refine AU wi ?_;exact⟨(i+1,c',p3.set i d,_),⟨hi2,hc',by dsimp only;rw[DT];exact hpl3,hpw3.set hs,J⟩,by dsimp only;omega,AJ⟩
   ·have hi2:i=m+2:=by
     have:=DA hlt
     omega
    subst hi2;rw[B4 (l:=v) (by omega)]at hI;obtain⟨z,hz⟩:=CG (l:=p3) (i:=m+2) (by omega);have hz':=Ko (A:=A) (Z:=Z) hz;have hzl:z<BB:=hpw3 z (BE hz);have J:=bn hz hI;have hs:(z+c3)%BB<BB:=By _ (by decide);have hc':(z+c3)/BB<=1:=by
     have:z+c3<2*BB:=by omega
     exact MV (Ej (by rw[BO];exact this))
    have j1:IntKind.u64.wrap ((z:Int)+(c3:Int))=(((z+c3)%BB:Nat):Int):=by rw[<-Int.natCast_add];exact IC _
    generalize(z+c3)%BB=d at*;generalize(z+c3)/BB=c' at*;have hml:m+2<p3.length:=by omega
    have hpl4:(p3.set (m+2) d).length=m+3:=by rw[DT];exact hpl3
    have hpw4:=hpw3.set (i:=m+2) hs;have hpL4:=G4 hpw4;rw[hpl4]at hpL4;obtain⟨q0p,ed,em⟩:=VX (by rw[Du]at hT;exact hT) hpL hdn J hc' hpL4;have j2:IntKind.u64.wrap ((q:Int)-1)=((q-1:Nat):Int):=by rw[wU (by omega) (by unfold BB at hq;omega)];omega
    refine B5 ?_;refine sZ 3200 ?_;refine AE (Av kN hz' j1) ?_;rw[Ph hml];refine sZ 3300 ?_;refine AU j2 ?_;refine Af ?_;exact⟨p3.set (m+2) d,by omega,hpw4,em.symm,by rw[ed],rfl⟩
theorem CS.toP {C:A8}{f:Nat}{args:List D}{Φ:D->Hp->Nat->Prop}{Ψ:D->Prop}(h:CS C f args [] 0 Φ)(k:∀d H n,Φ d H n->∃d',Fz H [] d d'/\B1 d'/\Ψ d'):Ak C f args Ψ:=by
 refine⟨h.1,λY w vs hG hnG hX' hvs hr=>?_⟩
 let F0:Aa:=⟨w,Y,λ_=>False,0,nol,[]⟩
 have m0:Ao C F0 nol [] w:=⟨⟨by simp,.nil,by simp⟩,rfl,rfl,rfl,Ad _,λ_ _ _=>rfl,hX',hG,hnG,by simp[F0],λ_ _ _ h=>h,λ_ cs _ _ h=>⟨cs,_,h,rfl⟩⟩
 have hoe:AM F0.X nol []=Y:=funext λb=>propext (by simp[AM,F0])
 refine(h.2 F0 nol w vs m0 (λ_ _ _=>rfl) (by simp) hvs (λi d hd=>by rw[hoe];exact hr i d hd)).mono ?_;rintro e w' ⟨v,d,H',n',ρ',rfl,hΦ,m,x,fr,g,r⟩;obtain⟨d',h3,h4,h5⟩:=k d H' n' hΦ;have hH:CU H' [] H' []:=by
  generalize H'=H0
  have:∀H1:Hp,CU H0 [] H1 []:=λH1=>by
   induction H1 with
   |nil=>exact .nil
   |cons e r ih=>exact .drop ih
  exact this H0
 obtain⟨m2,hO,hN⟩:=hH.mem m;have r3:=h3.rep m hO hN r;have r4:=h4 _ nol _ _ _ r3;exact⟨v,d',rfl,⟨m.os,m.tape,m.output,m.size,λb hb=>m.blk b hb (by simp[F0])⟩,h5,r4.anti λb hb=>.inl hb⟩
theorem Zk {H Hf:Hp}{a a' b b':D}(h1:Fz H Hf a a')(h2:Fz H Hf b b'):Fz H Hf (.tup [a,b]) (.tup [a',b']):=
 .tup rfl λi d d' hd hd'=>by
  match i with
  | 0=>simp at hd hd';subst hd;subst hd';exact h1
  | 1=>simp at hd hd';subst hd;subst hd';exact h2
  |i+2=>simp at hd
theorem WZ {a b:D}(h1:B1 a)(h2:B1 b):B1 (.tup [a,b]):=B1.tup λd hd=>by
 simp only[BA,DK,or_false]at hd;rcases hd with rfl|rfl
 ·exact h1
 ·exact h2
theorem cj (K g T:Nat)(l l':List Nat)(h:l.take l'.length=l'):Fz [⟨K,g,T,1,l.map AR⟩] [] (.osl K g 1 0 l'.length) (wL l'):=by
 have hll:l'.length<=l.length:=by
  have:=congrArg List.length h
  rw[Bj]at this;omega
 have key:∀(j:Nat) (d d':D),(l.map AR)[0+j]?=some d->(l'.map AR)[j]?=some d'->d=d':=λj d d' h1 h2=>by
  rw[<-h,BI,ET]at h2;rw[BR,BI]at h1;split at h2
  ·rw[h1]at h2;exact FD h2
  ·simp at h2
 refine .osl (e:=⟨K,g,T,1,l.map AR⟩) (by simp[Hp.get]) rfl rfl rfl (by simp;exact hll) (by simp) (λj d d' h1 h2=>by rw[key j d d' h1 h2]) λj d d' q c c' h1 h2 h3 h4=>?_
 rw[key j d d' h1 h2]at h3;rw[h3]at h4;cases h4;exact Fz.refl _
theorem mM:wD 0=.sl false 1 []:=by unfold wD;rw[FM];rfl
theorem gY (w:List Nat)(s:Nat)(hs:s<=63)(hw:Wd w)(hl:w.length<4000000):Ak C0 256 [wL w,i64 s] (λd=>∃out:List Nat,out.length=w.length+1/\Wd out/\AT out=AT w*2^s/\d=wL out):=
 (Uu w s hs hw hl [] 0).toP λd H n ⟨out,g,h1,h2,h3,h4,h5,_⟩=>by
  subst h4;subst h5;refine⟨wL out,?_,Ji _,out,h1,h2,h3,rfl⟩
  have:=cj 103 g 225 out out (by simp)
  rw[h1]at this;exact this
theorem fj {n k:Nat}(h1:BB^k<=n)(h2:n<BB^(k+1)):(Ab n).length=k+1:=by
 have h3:=GU h2;have h4:=DJ h1 (Ii n);have h5:=(Nat.pow_lt_pow_iff_right (show 1<BB by decide)).1 h4;omega
theorem RR:∀(n:Nat) {k a:Nat},(Ab n).length=k+1->(Ab n)[k]?=some a->a≠0:=λn=>by
 induction n using Nat.strongRecOn with
 |ind n ih=>
  intro k a h1 h2
  by_cases h0:n=0
  ·subst h0;rw[FM]at h1;cases h1
  ·rw[Fd h0]at h1 h2
   rw[Bl]at h1;have h3:=Nat.succ.inj h1;cases k with
   |zero=>
    have h4:Ab (n/BB)=[]:=ER h3;have h5:n/BB=0:=by rw[<-EZ (n/BB),h4];rfl
    have h6:=EW n BB;rw[h5]at h6;simp at h2;intro h7;subst h7;rw[h2]at h6;omega
   |succ k=>
    rw[JC]at h2;exact ih _ (HL (Dl h0) (by decide)) h3 h2
theorem WO {n k:Nat}(h:(Ab n).length=k+1):BB^k<=n:=by
 obtain⟨a,ha⟩:=CG (l:=Ab n) (i:=k) (by omega);have h1:=RR n h ha;have h2:=Tk h ha;rw[EZ]at h2;have h3:=CR (BB^k) (show 1<=a by omega);omega
theorem qh {b m y s:Nat}(hs:s<=63)(hl:(Ab b).length=m+1)(hy:(Ab b)[m]?=some y)(h:y*2^s<BB):(Ab (b*2^s)).length=m+1:=by
 have hp:0<2^s:=GP s;have hpp:2^(64-s)*2^s=BB:=by rw[<-FX,show 64-s+s=64 by omega]
 have h1:y<2^(64-s):=by
  rw[<-hpp]at h;exact Nat.lt_of_mul_lt_mul_right h
 refine fj ?_ ?_
 ·have:=WO hl
  exact BQ this (Nat.le_mul_of_pos_right _ hp)
 ·have h2:=Tk hl hy
  have h3:=G4 ((Eo b).take m);rw[Bj,hl,Eh (by omega)]at h3;rw[EZ]at h2;have h4:b<BB^m*(y+1):=by rw[BK,Du];omega
  have h5:BB^m*(y+1)<=BB^m*2^(64-s):=CR _ h1;have h6:b*2^s<BB^m*2^(64-s)*2^s:=Qh (CM h4 h5) hp;rw[Bs,hpp]at h6;exact h6
theorem V3 {l:List Nat}{j a:Nat}(h:l[j]?=some a):AT (l.drop j)=a+BB*AT (l.drop (j+1)):=by
 have hj:j<l.length:=(List.getElem?_eq_some_iff.1 h).1;rw[D9 hj,(List.getElem?_eq_some_iff.1 h).2];rfl
theorem PI {l:List Nat}{j a:Nat}(h:j<l.length):(l.set j a).drop j=a::l.drop (j+1):=by
 rw[D9 (by rw[DT];exact h)]
 congr 1
 ·exact List.getElem_set_self _
 ·rw[List.drop_set_of_lt (by omega)]
theorem d5 {a q:List Nat}{j x b rest:Nat}(hb:0<b)(hx:a[j]?=some x)(hj:j<q.length)(hI:AT (q.drop (j+1))*b+rest=AT (a.drop (j+1))):
  AT ((q.set j ((rest*BB+x)/b)).drop j)*b+(rest*BB+x)%b=AT (a.drop j)/\(rest*BB+x)%b<b:=by
 refine⟨?_,By _ hb⟩;rw[PI hj,V3 hx,<-hI,AT];have e:=EJ (rest*BB+x) b;rw[Bp,BK BB,Bs BB,BO BB rest,BO _ b];omega
theorem Ow {q b r a:Nat}(h:q*b+r=a)(hr:r<b):q=a/b/\r=a%b:=by
 subst h;rw[BO];exact⟨by rw[Nat.mul_add_div (by omega),Gr hr,DL],by rw[Nat.mul_add_mod,DS hr]⟩
structure Kn (X:Nat)(v U q:List Nat)(lu lq k:Nat):Prop where
 lU:U.length=lu
 lQ:q.length=lq
 wU:Wd U
 wq:Wd q
 val:BB^k*AT (q.drop k)*AT v+AT U=X
 less:AT (U.drop k)<AT v
theorem aq {U:List Nat}(j n:Nat):U=U.take j++((U.drop j).take n++U.drop (j+n)):=by
 rw[<-List.drop_drop,Ei,Ei]
theorem jL {X:Nat}{v U q:List Nat}{lu lq j m:Nat}(I:Kn X v U q lu lq (j+1))(hv:v.length=m+2)(wv:Wd v)(v1 v2:Nat)(h2:v[m]?=some v2)(h1:v[m+1]?=some v1)(ht:0<v1)(hj:j+(m+3)<=lu):
  ∃p0 p1 p2,Lm ((U.drop j).take (m+3)) v m p0 p1 p2 v2 v1/\AT (U.drop (j+(m+3)))=0/\AT ((U.drop j).take (m+3))=AT (U.drop j):=by
 obtain⟨lU,lQ,wU,wq,val,less⟩:=I;obtain⟨x,hx⟩:=CG (l:=U) (i:=j) (by omega);have hxl:=wU x (BE hx);have e1:=V3 hx;have hlt:AT (U.drop j)<AT v*BB:=by
  have:BB*(AT (U.drop (j+1))+1)<=BB*AT v:=CR _ less
  rw[BK,BO BB (AT v)]at this;omega
 have hPl:((U.drop j).take (m+3)).length=m+3:=by rw[Bj,Do];omega
 have e2:AT (U.drop j)=AT ((U.drop j).take (m+3))+BB^(m+3)*AT (U.drop (j+(m+3))):=by
  conv=>lhs;rw[<-Ei (m+3) (U.drop j)]
  rw[JQ,hPl,List.drop_drop]
 have hvl:=G4 wv;rw[hv]at hvl;have hz:AT (U.drop (j+(m+3)))=0:=by
  rcases DR (AT (U.drop (j+(m+3))))with h|h
  ·exact h
  ·exfalso
   have e3:BB^(m+3)*1<=BB^(m+3)*AT (U.drop (j+(m+3))):=CR _ h;have e4:AT v*BB<=BB^(m+2)*BB:=CA _ (JE hvl);have e5:BB^(m+2)*BB=BB^(m+3):=(CB BB (m+2)).symm;rw[e5]at e4;omega
 rw[hz,EI,DL]at e2;obtain⟨p0,h0⟩:=CG (l:=(U.drop j).take (m+3)) (i:=m) (by omega);obtain⟨p1,h3⟩:=CG (l:=(U.drop j).take (m+3)) (i:=m+1) (by omega);obtain⟨p2,h4⟩:=CG (l:=(U.drop j).take (m+3)) (i:=m+2) (by omega);exact⟨p0,p1,p2,⟨hPl,hv,λa ha=>wU a (KE (Hy ha)),wv,h0,h3,h4,h2,h1,ht,by rw[<-e2];exact hlt⟩,hz,e2.symm⟩
theorem jK {X:Nat}{v U q P':List Nat}{lu lq j m:Nat}(I:Kn X v U q lu lq (j+1))(hv:0<AT v)(hj:j+(m+3)<=lu)(hjq:j<lq)(hz:AT (U.drop (j+(m+3)))=0)(hP:AT ((U.drop j).take (m+3))=AT (U.drop j))
  (h1:P'.length=m+3) (h2:Wd P') (h3:AT P'=AT ((U.drop j).take (m+3))%AT v) (hd:AT ((U.drop j).take (m+3))/AT v<BB):
  Kn X v (U.take j++(P'++U.drop (j+(m+3)))) (q.set j (AT ((U.drop j).take (m+3))/AT v)) lu lq j:=by
 obtain⟨lU,lQ,wU,wq,val,less⟩:=I;have hA:(U.take j).length=j:=by rw[Bj];omega
 have e0:AT U=AT (U.take j)+BB^j*AT (U.drop j):=by
  conv=>lhs;rw[<-Ei j U]
  rw[JQ,hA]
 have e1:AT (P'++U.drop (j+(m+3)))=AT P':=by rw[JQ,hz,EI,DL]
 refine⟨?_,by rw[DT];exact lQ,?_,wq.set hd,?_,?_⟩
 ·rw[Bf,Bf,hA,h1,Do];omega
 ·exact Wd.append (wU.take j) (Wd.append h2 λa ha=>wU a (KE ha))
 ·rw[PI (by omega),AT,JQ,hA,e1,h3,hP]
  rw[e0]at val;have e2:=EJ (AT (U.drop j)) (AT v);have e3:BB^(j+1)*AT (q.drop (j+1))*AT v=BB^j*(BB*AT (q.drop (j+1))*AT v):=by
   rw[CB,Bs,Bs,Bs]
  rw[e3]at val;have e4:BB^j*AT (U.drop j)=BB^j*(AT v*(AT (U.drop j)/AT v))+BB^j*(AT (U.drop j)%AT v):=by
   rw[<-BK,e2]
  rw[Bs,Bp,BK,BO (AT (U.drop j)/AT v)];omega
 ·rw[List.drop_left' hA,e1,h3]
  exact By _ hv
theorem fE {a b s:Nat}{U v:List Nat}{k lu lq:Nat}(hU:AT U=a*2^s)(hv:AT v=b*2^s)(wU:Wd U)(lU:U.length=lu){q:List Nat}(hq:q=List.replicate lq 0)(hk:lq<=k)
  (hab:a<BB^k*b):Kn (a*2^s) v U q lu lq k:=by
 subst hq;refine⟨lU,MY,wU,LY _,?_,?_⟩
 ·rw[Gt (by rw[MY];exact hk)]
  rw[show AT []=0 from rfl,EI,GQ,BR,hU]
 ·rcases BL (AT (U.drop k)) (AT v)with h|h
  ·exact h
  ·exfalso
   have e0:AT U=AT (U.take k)+BB^(U.take k).length*AT (U.drop k):=by
    conv=>lhs;rw[<-Ei k U]
    rw[JQ]
   have hp:0<2^s:=GP s;have h3:a*2^s<BB^k*b*2^s:=Qh hab hp;rw[Bs,<-hv]at h3;rcases BL U.length k with hl|hl
   ·rw[Gt (by omega)]at h
    rw[show AT []=0 from rfl]at h;rw[Nat.le_zero.1 h,EI]at h3;omega
   ·rw[Bj,Eh hl]at e0
    have:=CR (BB^k) h
    omega
theorem jJ {a b s:Nat}{v U q:List Nat}{lu lq:Nat}(I:Kn (a*2^s) v U q lu lq 0)(hv:AT v=b*2^s):AT q=a/b/\AT U=a%b*2^s:=by
 obtain⟨lU,lQ,wU,wq,val,less⟩:=I;simp only[LH,IX,FE]at val less;obtain⟨h1,h2⟩:=Ow val less;rw[hv,OH _ _ (GP s)]at h1;rw[hv,OI]at h2;exact⟨h1,h2⟩
structure NJ (U u:List Nat)(s i:Nat):Prop where
 len:u.length=U.length
 wd:Wd u
 rest:∀k,i<=k->u[k]?=U[k]?
 val:∀c,U[i]?=some c->AT (U.take i)+BB^i*(c%2^s)=2^s*AT (u.take i)
theorem d7 {U:List Nat}{s r:Nat}(wU:Wd U)(h:AT U=r*2^s)(hs:s<=63):NJ U U s 0:=by
 refine⟨rfl,wU,λ_ _=>rfl,λc hc=>?_⟩;have e:=Jj hc;simp only[Ma,LH,IX,AT,BR,EI]at e⊢;have hpp:2^(64-s)*2^s=BB:=by rw[<-FX,show 64-s+s=64 by omega]
 have e1:(AT U)%2^s=0:=by rw[h];exact Nat.mul_mod_left _ _
 rw[e,<-hpp,Nat.mul_right_comm,Nat.add_mul_mod_self_right]at e1;exact e1
theorem Uh {c d s:Nat}(hs:s<=63)(hc:c<BB):c/2^s ||| d*2^(64-s)%BB=c/2^s+d%2^s*2^(64-s)/\c/2^s+d%2^s*2^(64-s)<BB /\
  c%2^s+2^s*(c/2^s+d%2^s*2^(64-s))=c+BB*(d%2^s):=by
 have hpp:2^s*2^(64-s)=BB:=by rw[<-FX,show s+(64-s)=64 by omega]
 have h1:d*2^(64-s)%BB=d%2^s*2^(64-s):=by rw[<-hpp,OI]
 have h2:c/2^s<2^(64-s):=Ej (by rw[hpp];exact hc);have h3:d%2^s<2^s:=By _ (GP s);have h4:(d%2^s+1)*2^(64-s)<=2^s*2^(64-s):=CA _ h3;rw[hpp,Bp,IX]at h4;have e:=EW c (2^s);refine⟨?_,by omega,?_⟩
 ·rw[h1,Nat.or_comm,S0 h2,KH]
 ·rw[BK,H4,hpp,BO (d%2^s)]
  omega
theorem fK {U u:List Nat}{s i c d:Nat}(hs:s<=63)(wU:Wd U)(I:NJ U u s i)(hc:U[i]?=some c)(hd:U[i+1]?=some d):
  NJ U (u.set i (c/2^s+d%2^s*2^(64-s))) s (i+1):=by
 obtain⟨len,wd,rest,val⟩:=I;have hcl:=wU c (BE hc);obtain⟨_,e2,e3⟩:=Uh (d:=d) hs hcl;have hi:i<U.length:=(List.getElem?_eq_some_iff.1 hc).1;refine⟨by rw[DT];exact len,wd.set e2,λk hk=>?_,λc' hc'=>?_⟩
 ·rw[Hx (by omega)];exact rest k (by omega)
 ·rw[hd]at hc'
  cases hc';have v0:=val c hc;rw[PJ (by omega),GC (i:=i) (by rw[Bj];omega),En hc,GC (i:=i) (by rw[Bj];omega),BK,<-v0,CB,Bs,H4 (2^s)];have e4:BB^i*(c%2^s+2^s*(c/2^s+d%2^s*2^(64-s)))=BB^i*(c+BB*(d%2^s)):=by rw[e3]
  rw[BK,BK (BB^i) c]at e4;omega
theorem fJ {U u:List Nat}{s n r:Nat}(I:NJ U u s n)(hn:n<U.length)(hU:AT U=r*2^s)(hl:AT U<BB^n):AT (u.take n)=r:=by
 obtain⟨c,hc⟩:=CG hn;have e:=Jj hc;have hz:c+BB*AT (U.drop (n+1))=0:=by
  rcases DR (c+BB*AT (U.drop (n+1)))with h|h
  ·exact h
  ·have:=CR (BB^n) h
   omega
 have hc0:c=0:=by omega
 subst hc0;have v0:=I.val 0 hc;rw[hz,EI,DL]at e;rw[Nat.zero_mod,EI,DL,<-e,hU,BO]at v0;exact(Nat.eq_of_mul_eq_mul_left (GP s) v0).symm
theorem W0 {a b:Nat}(h:a<b):decide (Dh (a:Int) (b:Int)<0)=true:=AY (by unfold Dh;split<;>(try split)<;>omega)
theorem PQ {a b:Nat}(h:b<=a):decide (Dh (a:Int) (b:Int)<0)=false:=Ah (by unfold Dh;split<;>(try split)<;>omega)
theorem mN {env:Ar}{t K g n N t2:Nat}{z:List Nat}{T:Nat}{d2:D}(hl:z.length=N)(he:env.get t=.osl K g 1 0 N:=by exact rfl)(h2:env.get t2=d2:=by exact rfl):Wk ⟨env,[⟨K,g,T,1,z.map AR⟩],n⟩ ⟨[(t,.sl false 1 (z.map AR)),(t2,d2)],[],n⟩:=by
 subst hl;refine⟨.drop .nil,⟨?_,?_,trivial⟩,Ad _⟩
 ·dsimp only
  rw[he]
  have:=Pu K g T 1 (z.map AR)
  rwa [Ap]at this
 ·dsimp only
  rw[h2];exact .refl _
theorem fG (a b:Nat)(hab:a<b)(ha:(Ab a).length<1000000)(hb:(Ab b).length<1000000):AK C0 209 [wD a,wD b] (.tup [wD (a/b),wD (a%b)]):=by
 rw[Gr hab,DS hab,mM];refine Ak.walk w1 Pq rfl λF=>?_
 have cc:=PR a b (by omega) (by omega);have e1:=W0 hab;refine sR 0 ?_;refine AC.seq ?_;refine sR 100 ?_;refine cI cc ?_;rw[e1];refine AL ?_;refine sR 200 ?_;refine Af ?_;exact⟨_,Zk (.nil 1) (.refl _),WZ (.sl λe he=>by cases he) (Ji _),rfl⟩
theorem jM (a b:Nat)(hab:b<=a)(ha:(Ab a).length<1000000)(hb:(Ab b).length=1)(hb0:b≠0):AK C0 209 [wD a,wD b] (.tup [wD (a/b),wD (a%b)]):=by
 have cc:=PR a b (by omega) (by omega);have e1:=PQ hab;have hbl:b<BB:=by
  have:=Ii b
  rw[hb,Nat.pow_one]at this;exact this
 have hlb:(Ab b)[0]?=some b:=by rw[LT hb0 hbl];rfl
 have va:=EZ a;have wa:=Eo a;refine Ak.walk w1 Pq rfl λF=>?_
 unfold wD wL at cc⊢;change AC C0 F none F _ _ (QD X1.tt _ (· = .tup [wD (a/b),wD (a%b)]));generalize Ab a=la at*;generalize Ab b=lb at*;have hb':=DD hlb;have e3:((((lb.map AR).length:Nat):Int)==1)=true:=by rw[Ap,hb];rfl
 have ea:(((la.map AR).length:Nat):Int)=(la.length:Int):=by rw[Ap]
 have wl:IntKind.i64.wrap ((la.length:Int)-1)=(la.length:Int)-1:=wI (by omega) (by omega);have r3:List.replicate la.length (ofV (.int .u64 0))=(List.replicate la.length 0).map AR:=by rw[JG];rfl
 refine sR 0 ?_;refine AC.seq ?_;refine sR 100 ?_;refine cI cc ?_;rw[e1];refine AL ?_;refine Am ?_;refine AC.seq ?_;refine sZ 300 ?_;refine AU e3 ?_;refine AL ?_;refine sZ 400 ?_;refine AU (Ae ea kN) ?_;refine sR 500 ?_;refine AC.seq ?_;refine sZ 600 ?_;refine AU (Ae ea wl) ?_;refine AC.block ?_;refine AC.loop (α:=Nat×Nat×List Nat×Nat) (λp=>⟨[(0,.sl false 1 (la.map AR)),(1,.sl false 1 (lb.map AR)),(6,.osl 402 11 1 0 la.length),(7,AR p.2.1),(8,i64 ((p.1:Int)-1))],[⟨402,11,225,1,p.2.2.1.map AR⟩],p.2.2.2⟩) (λp=>p.1)
  (λp=>p.1<=la.length/\p.2.1<b/\p.2.2.1.length=la.length/\Wd p.2.2.1/\AT (p.2.2.1.drop p.1)*b+p.2.1=AT (la.drop p.1)) (la.length,0,List.replicate la.length 0,_)
  ⟨Ad _,Dl hb0,by simp,LY _,by simp[AT]⟩ (by rw[<-r3];exact AJ) ?_
 rintro⟨k,r,q,m⟩ F ⟨h1,h2,h3,h4,h5⟩;dsimp only at h1 h2 h3 h4 h5⊢;clear cc e1 e3 ea wl r3;refine AC.seq ?_;refine sR 700 ?_;refine AL ?_
 (refine Br (λh20=>?_) (λh20=>?_))<;>(try simp only[Bb,Bq]at h20)<;>(try simp only[h20])
 ·obtain⟨j,rfl⟩:∃j,k=j+1:=⟨k-1,by
   have:(k:Int)-1>=0:=by simpa using h20
   omega⟩
  have wj:((j+1:Nat):Int)-1=(j:Int):=by omega
  obtain⟨x,hx⟩:=CG (l:=la) (i:=j) (by omega);obtain⟨z,hz⟩:=CG (l:=q) (i:=j) (by omega);have hx':=DD hx;have hz':=DD hz;have hxl:=wa x (BE hx);have cd:=Vx r x b h2 hxl hbl;obtain⟨J1,J2⟩:=d5 (Dl hb0) hx (by omega) h5;have hql:(r*BB+x)/b<BB:=by
   refine Ej ?_
   have:(r+1)*BB<=b*BB:=CA _ h2
   rw[Bp]at this;omega
  have wi:IntKind.i64.wrap ((j:Int)-1)=(j:Int)-1:=wI (by omega) (by omega);generalize(r*BB+x)/b=d at*;generalize(r*BB+x)%b=r' at*;rw[wj];refine Am ?_;refine AC.seq ?_;refine AC.block ?_;refine N9 w1 900 [0,1,2,3,4,5,6,7,8,9,10,11,12,13,14,15] [16] 15 [11,9,8,7,6,5,4,3,2,1,0,10,12,14] (402) (by kernel_rfl) (by kernel_rfl) ?_;refine At ?_;refine Ic kN ?_;refine JW rfl rfl rfl rfl ?_;refine Jl (λ_ _=>rfl) (by exact Bz) ⟨rfl,by omega⟩ hx' ?_
  try dsimp only[D.cells,spot]
  refine Ic kN ?_;refine JW rfl rfl rfl rfl ?_;refine Jl (λ_ _=>rfl) (by exact Bz) ⟨rfl,by omega⟩ hb' ?_
  try dsimp only[D.cells,spot]
  refine Ic kN ?_;refine JW rfl rfl rfl rfl ?_;refine Kh (λ_ _=>rfl) (by exact Bz) ?_;refine At ?_;refine BT.same _ cd AI ?_;refine Ic (Av kN BR hz') ?_;refine And.intro (by first|exact Or.inl AB|exact Or.inl rfl) ?_;refine AE (Ae kN BR) ?_;rw[map_set];refine An w1 800 (by kernel_rfl) ?_;refine AU wi ?_;exact⟨(j,r',q.set j d,_),⟨by dsimp only;omega,J2,by dsimp only;rw[DT];exact h3,h4.set hql,J1⟩,by dsimp only;omega,AJ⟩
 ·have hk:k=0:=by
   have:¬((k:Int)-1>=0):=by simpa using h20
   omega
  subst hk;rw[FE,FE,va]at h5;obtain⟨q1,q2⟩:=Ow h5 h2;refine B5 ?_;refine AC.weak ⟨[(6,.sl false 1 (q.map AR)),(7,AR r)],[],_⟩ (mN h3) ?_;refine sR 1000 ?_;refine A9.same _ (trim_ok q h4 (by omega)) AI ?_;refine BN ?_;have hrl:Wd [r]:=λa ha=>by
   simp only[BA,DK,or_false]at ha;subst ha;exact FW h2 hbl
  refine A9.pure [wL [r]] _ ⟨.nn true 1 _,trivial⟩ (trim_ok [r] hrl (by simp)) AI ?_;refine BN ?_;refine Af ?_;exact AQ (by rw[q1,q2];simp[AT]) AA.out
set_option maxHeartbeats 4000000
theorem XD {H:Hp}{K g T:Nat}{l:List Nat}{N:Nat}(hl:l.length=N)(he:Hp.get H K=some ⟨K,g,T,1,l.map AR⟩:=by exact rfl):Fz H [] (.osl K g 1 0 N) (.sl false 1 (l.map AR)):=by
 subst hl;have key:∀(j:Nat) (d d':D),(l.map AR)[0+j]?=some d->(l.map AR)[j]?=some d'->d=d':=λj d d' h1 h2=>by
  rw[BR]at h1;rw[h1]at h2;exact FD h2
 refine .osl (e:=⟨K,g,T,1,l.map AR⟩) he rfl rfl rfl (by simp) (by simp) (λj d d' h1 h2=>by rw[key j d d' h1 h2]) λj d d' q c c' h1 h2 h3 h4=>?_
 rw[key j d d' h1 h2]at h3;rw[h3]at h4;cases h4;exact Fz.refl _
theorem fH (a b m:Nat)(hab:b<=a)(ha:(Ab a).length<1000000)(hb:(Ab b).length=m+2):AK C0 209 [wD a,wD b] (.tup [wD (a/b),wD (a%b)]):=by
 have hlen:=Gx b a hab;have cc:=PR a b (by omega) (by omega);have e1:=PQ hab;obtain⟨y,hy⟩:=CG (l:=Ab b) (i:=m+1) (by omega);have y0:=RR b hb hy;have yl:y<BB:=Eo b y (BE hy);obtain⟨s,hs,es,t1,t2⟩:=Ue y0 yl;have cl:=Z8 y yl;rw[es]at cl;have hvl:=qh hs hb hy t2;obtain⟨v,hv⟩:∃v,v=Ab (b*2^s):=⟨_,rfl⟩
 have wv:Wd v:=by rw[hv];exact Eo _
 have vv:AT v=b*2^s:=by rw[hv];exact EZ _
 rw[<-hv]at hvl;obtain⟨v1,h1⟩:=CG (l:=v) (i:=m+1) (by omega);obtain⟨v2,h2⟩:=CG (l:=v) (i:=m) (by omega);have v10:v1≠0:=RR (b*2^s) (by rw[<-hv];exact hvl) (by rw[<-hv];exact h1);have vpos:0<AT v:=by
  rw[vv];refine Gu ?_ (GP s);refine Dl λh=>?_
  subst h;rw[FM]at hb;cases hb
 have va:=EZ a;have vb:=EZ b;have wa:=Eo a;have wb:=Eo b;have hup:=Ii a;have hbge:=WO hb;refine Ak.walk w1 Pq rfl λF=>?_
 unfold wD wL at cc⊢;change AC C0 F none F _ _ (QD X1.tt _ (· = .tup [wD (a/b),wD (a%b)]));generalize Ab a=la at*;generalize Ab b=lb at*;obtain⟨lq,hlq⟩:∃lq,la.length=lq+(m+2):=⟨la.length-(m+2),by omega⟩
 have hy':=DD hy;have e3:((((lb.map AR).length:Nat):Int)==1)=false:=by rw[Ap,hb];exact Bw.2 (by omega)
 have elb:(((lb.map AR).length:Nat):Int)=((m+2:Nat):Int):=by rw[Ap,hb]
 have wlb0:IntKind.i64.wrap (((m+2:Nat):Int)-1)=((m+1:Nat):Int):=by rw[wI (by omega) (by omega)];omega
 have wlb:IntKind.i64.wrap ((((lb.map AR).length:Nat):Int)-1)=((m+1:Nat):Int):=by rw[elb];exact wlb0
 have ea:(((la.map AR).length:Nat):Int)=(la.length:Int):=by rw[Ap]
 have ev:(((v.map AR).length:Nat):Int)=((m+2:Nat):Int):=by rw[Ap,hvl]
 have wq1:IntKind.i64.wrap ((la.length:Int)-((m+2:Nat):Int))=(lq:Int):=by rw[wI (by omega) (by omega)];omega
 have wq2:IntKind.i64.wrap ((lq:Int)+1)=((lq+1:Nat):Int):=by rw[wI (by omega) (by omega)];omega
 have wq1':IntKind.i64.wrap ((la.length:Int)-((m+2:Nat):Int))=((lq+1:Nat):Int)-1:=by rw[wI (by omega) (by omega)];omega
 have wraw:IntKind.i64.wrap (IntKind.i64.wrap ((((la.map AR).length:Nat):Int)-((m+2:Nat):Int))+1)=((lq+1:Nat):Int):=by rw[ea,wq1,wq2]
 have r3:List.replicate (lq+1) (ofV (.int .u64 0))=(List.replicate (lq+1) 0).map AR:=by rw[JG];rfl
 refine sR 0 ?_;refine AC.seq ?_;refine sR 100 ?_;refine cI cc ?_;rw[e1];refine AL ?_;refine Am ?_;refine AC.seq ?_;refine sZ 300 ?_;refine AU e3 ?_;refine AL ?_;refine Am ?_;refine sZ 1100 ?_;refine AE (Bk wlb elb wlb0 kN) ?_;refine Bo kT hy' ?_;refine AE (Bk wlb elb wlb0 kN) ?_;refine cI cl ?_;refine Ck (α:=Nat) (λn=>⟨[(0,.sl false 1 (la.map AR)),(9,i64 s),(10,.sl false 1 (v.map AR))],[],n⟩) (λ_=>True) ?_ ?_
 ·refine rI 1200 ?_
  refine A9.prop [wL lb,i64 s] _ (EK.refl _) (gY lb s hs wb (by omega)) AI ?_;rintro d ⟨out,o1,o2,o3,rfl⟩;have hvo:wD (AT out)=.sl false 1 (v.map AR):=by rw[o3,vb,hv];rfl
  refine BN ?_;refine A9.same _ (trim_ok out o2 (by omega)) AI ?_;refine BN ?_;simp only[hvo];exact⟨trivial,_,trivial,AJ⟩
 rintro n0 -;clear cc e1 e3 elb wlb wlb0 hy' cl es t1 t2 yl y0 hy wb;refine sR 1300 ?_;refine A9.own _ (Uu la s hs wa (by omega) [] _) ?_;rintro d H' n1 ⟨U,gu,u1,u2,u3,rfl,rfl,-⟩;rw[va]at u3;refine BN ?_;refine sZ 1400 ?_;refine AU ev ?_;refine Ck (α:=Nat×Nat) (λp=>⟨[(0,.sl false 1 (la.map AR)),(9,i64 s),(10,.sl false 1 (v.map AR)),(11,.osl 103 gu 1 0 (la.length+1)),(12,i64 ((m+2:Nat):Int)),(13,.osl 1505 p.1 1 0 (lq+1))],[⟨1505,p.1,225,1,(List.replicate (lq+1) 0).map AR⟩,⟨103,gu,225,1,U.map AR⟩],p.2⟩) (λ_=>True) ?_ ?_
 ·refine An w1 1500 (by kernel_rfl) ?_
  refine AU (Cv ea wq1 wq2 kN r3) ?_;exact⟨trivial,⟨n1+9,n1+20⟩,trivial,by rw[<-r3];exact AJ⟩
 rintro⟨g,n2⟩ -;dsimp only;have I0:Kn (a*2^s) v U (List.replicate (lq+1) 0) (la.length+1) (lq+1) (lq+1):=by
  refine fE u3 vv u2 u1 rfl (Ad _) ?_
  have:BB^(lq+1)*BB^(m+1)<=BB^(lq+1)*b:=CR _ hbge
  rw[<-FX,show lq+1+(m+1)=la.length by omega]at this;omega
 refine AC.seq ?_;refine sZ 1600 ?_;refine AU (Ae ea wq1') ?_;refine AC.block ?_;refine AC.loop (α:=Nat×List Nat×List Nat×Nat) (λp=>⟨[(9,i64 s),(10,.sl false 1 (v.map AR)),(11,.osl 103 gu 1 0 (la.length+1)),(12,i64 ((m+2:Nat):Int)),(13,.osl 1505 g 1 0 (lq+1)),(14,i64 ((p.1:Int)-1))],[⟨1505,g,225,1,p.2.2.1.map AR⟩,⟨103,gu,225,1,p.2.1.map AR⟩],p.2.2.2⟩) (λp=>p.1)
  (λp=>p.1<=lq+1/\Kn (a*2^s) v p.2.1 p.2.2.1 (la.length+1) (lq+1) p.1) (lq+1,U,List.replicate (lq+1) 0,_) ⟨Ad _,I0⟩ AJ ?_
 rintro⟨k,u,q,n3⟩ F ⟨hk,I⟩;dsimp only at hk I⊢;clear I0 wq1 wq2 wq1' wraw r3 ea;refine AC.seq ?_;refine sR 1700 ?_;refine AL ?_
 (refine Br (λh20=>?_) (λh20=>?_))<;>(try simp only[Bb,Bq]at h20)<;>(try simp only[h20])
 ·obtain⟨j,rfl⟩:∃j,k=j+1:=⟨k-1,by
   have:(k:Int)-1>=0:=by simpa using h20
   omega⟩
  have wj:((j+1:Nat):Int)-1=(j:Int):=by omega
  obtain⟨p0,p1,p2,SI,hz,hP⟩:=jL I hvl wv v1 v2 h2 h1 (Dl v10) (by omega);have hA:(u.take j).length=j:=by rw[Bj,I.lU];omega
  have cs:=λn=>ku (u.take j) ((u.drop j).take (m+3)) (u.drop (j+(m+3))) v m p0 p1 p2 v2 v1 SI (by rw[hA];omega) g 225 gu (q.map AR) n
  rw[hA,<-aq j (m+3)]at cs;obtain⟨z,hzq⟩:=CG (l:=q) (i:=j) (by rw[I.lQ];omega);have hz':=DD hzq;have hdl:AT ((u.drop j).take (m+3))/AT v<BB:=Ej SI.less;have wi:IntKind.i64.wrap ((j:Int)-1)=(j:Int)-1:=wI (by omega) (by omega);have wjn1:IntKind.i64.wrap ((j:Int)+((m+2:Nat):Int))=((j+(m+2):Nat):Int):=by rw[wI (by omega) (by omega)];omega
  have wjn2:IntKind.i64.wrap (((j+(m+2):Nat):Int)+1)=((j+(m+3):Nat):Int):=by rw[wI (by omega) (by omega)];omega
  have wraw:IntKind.i64.wrap (IntKind.i64.wrap ((j:Int)+((m+2:Nat):Int))+1)=((j+(m+3):Nat):Int):=by rw[wjn1,wjn2]
  have els:j+(m+3)-j=m+3:=J9 _ _;have J:=λP' h1 h2 h3=>jK (P':=P') I vpos (by omega) (by omega) hz hP h1 h2 h3 hdl
  rw[wj];refine Am ?_;refine AC.seq ?_;refine AC.block ?_;refine An w1 1900 (by kernel_rfl) ?_;refine AE (E5 wraw wjn1 wjn2 kN BR els) ?_;refine A9.own _ (cs _) ?_;rintro d H' n4 ⟨P',g1,g2,g3,rfl,rfl⟩;rw[SI.lP]at g1;refine AE (Av kN BR hz') ?_;rw[map_set];refine An w1 1800 (by kernel_rfl) ?_;refine AU wi ?_;exact⟨(j,u.take j++(P'++u.drop (j+(m+3))),q.set j (AT ((u.drop j).take (m+3))/AT v),_),⟨by dsimp only;omega,J P' g1 g2 g3⟩,by dsimp only;omega,AJ⟩
 ·have hk:k=0:=by
   have:¬((k:Int)-1>=0):=by simpa using h20
   omega
  subst hk;obtain⟨q1,q2⟩:=jJ I vv;have D0:=d7 I.wU q2 hs;have wu:=I.wU;have wqq:=I.wq;have lu:=I.lU;have lqq:=I.lQ;have hlt:AT u<BB^(m+2):=by
   have:=I.less
   rw[FE]at this;have h:=G4 wv;rw[show v.length=m+2 from hvl]at h;omega
  clear I;refine B5 ?_;refine AC.seq ?_;refine sR 2000 ?_;refine AC.block ?_;refine AC.loop (α:=Nat×List Nat×Nat) (λp=>⟨[(9,i64 s),(11,.osl 103 gu 1 0 (la.length+1)),(12,i64 ((m+2:Nat):Int)),(13,.osl 1505 g 1 0 (lq+1)),(96,i64 ((m+2:Nat):Int)),(97,i64 p.1)],[⟨1505,g,225,1,q.map AR⟩,⟨103,gu,225,1,p.2.1.map AR⟩],p.2.2⟩) (λp=>m+2-p.1)
   (λp=>p.1<=m+2/\NJ u p.2.1 s p.1) (0,u,_) ⟨BS _,D0⟩ AJ ?_
  rintro⟨i,x,n4⟩ F ⟨hi,I⟩;dsimp only at hi I⊢;have xl:=I.len;refine sR 2100 ?_;refine AC.seq ?_;refine AL ?_
  (refine Br (λhlt2=>?_) (λhlt2=>?_))<;>(try simp only[Bb,Bq]at hlt2)<;>(try simp only[hlt2])
  ·have hi2:i<m+2:=by
    have:=C3 hlt2
    omega
   obtain⟨c,hc⟩:=CG (l:=u) (i:=i) (by omega);obtain⟨d,hd⟩:=CG (l:=u) (i:=i+1) (by omega);have hcx:x[i]?=some c:=by rw[I.rest i (Ad _)];exact hc
   have hdx:x[i+1]?=some d:=by rw[I.rest (i+1) (by omega)];exact hd
   have hc':=DD hcx;have hcl:=wu c (BE hc);have hdl:=wu d (BE hd);have I2:=fK hs wu I hc hd;obtain⟨g1,g2,_⟩:=Uh (d:=d) hs hcl;have esh:=L6 c s (by omega);have wi:IntKind.i64.wrap ((i:Int)+1)=((i+1:Nat):Int):=wI (by omega) (by omega);refine Am ?_;refine AC.seq ?_;refine AC.block ?_;refine sR 2200 ?_;refine sZ 2300 ?_;refine AE (Bk kN BR hc' esh) ?_;rw[map_set];have hxi:i<x.length:=by omega
   have h2c:((x.set i (c/2^s)).map AR)[i]?=some (AR (c/2^s)):=DD (Ty hxi);have h2d:((x.set i (c/2^s)).map AR)[i+1]?=some (AR d):=DD (by rw[Hx (by omega)];exact hdx);refine AC.seq ?_;rcases DR s with h0|h0
   ·have e24:decide ((s:Int)>0)=false:=Ah (by omega)
    have es0:x.set i (c/2^s+d%2^s*2^(64-s))=x.set i (c/2^s):=by
     rw[h0,LH,Nat.mod_one,GQ,DL]
    rw[es0]at I2;refine An w1 2400 (by kernel_rfl) ?_;refine AU e24 ?_;refine AE e24 ?_;refine AL ?_;refine Am ?_;refine An w1 2600 (by kernel_rfl) ?_;refine AU wi ?_;exact⟨(i+1,x.set i (c/2^s),_),⟨hi2,I2⟩,by dsimp only;omega,AJ⟩
   ·have e24:decide ((s:Int)>0)=true:=AY (by omega)
    have e24':decide (((i+1:Nat):Int)<((la.length+1:Nat):Int))=true:=AY (by omega);have w64:IntKind.i64.wrap (64-(s:Int))=((64-s:Nat):Int):=by rw[wI (by omega) (by omega)];omega
    have w640:(0:Int)<=IntKind.i64.wrap (64-(s:Int)):=by rw[w64];omega
    have e27:=Nl d (64-s) (by omega);have e28:GY .or .u64 ((c/2^s:Nat):Int) ((d*2^(64-s)%18446744073709551616:Nat):Int)=((c/2^s+d%2^s*2^(64-s):Nat):Int):=by
     rw[Te _ _ (DJ (GO _ _) hcl) (By _ (by decide)),g1]
    have hset:((x.set i (c/2^s)).map AR).set i (AR (c/2^s+d%2^s*2^(64-s)))=(x.set i (c/2^s+d%2^s*2^(64-s))).map AR:=by
     rw[map_set,List.set_set]
    refine An w1 2400 (by kernel_rfl) ?_;refine AU e24 ?_;refine AE (Av e24 wi e24') ?_;refine AL ?_;refine B3 w1 2500 [0,1,2,3,4,5,6,7,8,9,10,11] [12,13,14] (by kernel_rfl) ?_;refine AE (Cj wi w64 e27 e28 kN BR (Ae h2c h2d)) ?_;refine Dq rfl rfl ?_;refine Ly rfl rfl rfl h2c ?_;refine AE hset ?_;refine An w1 2600 (by kernel_rfl) ?_;refine AU wi ?_;exact⟨(i+1,x.set i (c/2^s+d%2^s*2^(64-s)),_),⟨hi2,I2⟩,by dsimp only;omega,AJ⟩
  ·have hi2:i=m+2:=by
    have:=DA hlt2
    omega
   subst hi2;have hr:=fJ I (by omega) q2 hlt;have wx:=I.wd;refine B5 ?_;refine AC.weak ⟨[(11,.sl false 1 (x.map AR)),(12,i64 ((m+2:Nat):Int)),(13,.sl false 1 (q.map AR))],[],_⟩ ⟨.drop (.drop .nil),⟨XD (by omega),.refl _,XD lqq,trivial⟩,Ad _⟩ ?_;have e4:List.take (m+2-0) (List.drop 0 (x.map AR))=(x.take (m+2)).map AR:=by
    rw[List.map_take];simp
   have e5:List.take (m+2) (x.map AR)=(x.take (m+2)).map AR:=by
    rw[List.map_take]
   have ex:(x.map AR).length=la.length+1:=by rw[Ap];omega
   refine AC.seq ?_;refine B3 w1 2700 [0,1,2,3,4] [5,6,7] (by kernel_rfl) ?_;refine BN ?_;refine BT.same _ (trim_ok q wqq (by omega)) AI ?_;refine AE (Bk kN Nat.sub_zero (@FE D) e5) ?_;refine A9.same _ (trim_ok (x.take (m+2)) (wx.take _) (by rw[Bj];omega)) AI ?_;refine BN ?_;refine Af ?_;exact AQ (by rw[q1,hr]) AA.out
theorem ar (a b:Nat)(hb:b≠0)(ha:(Ab a).length<1000000)(hbl:(Ab b).length<1000000):AK C0 209 [wD a,wD b] (.tup [wD (a/b),wD (a%b)]):=by
 rcases BL a b with h|h
 ·exact fG a b h ha hbl
 ·rcases hl:(Ab b).length with _|m
  ·have:=Ii b
   rw[hl]at this;simp at this;exact Aj this hb
  ·rcases m with _|m
   ·exact jM a b h ha hl hb
   ·exact fH a b m h ha hl
set_option maxHeartbeats 2000000
theorem Nh {x:GI}(h:x.wf)(h0:x.z ≠ -9223372036854775808):x=AW x.z:=by
 obtain⟨z,sm⟩:=x;unfold AW
 congr 1
 cases sm with
 |true=>
  have:=h.1 rfl
  dsimp only at this h0⊢;exact(AY (show Sm z from⟨by omega,by omega⟩)).symm
 |false=>
  have:=h.2 rfl
  exact(Ah this).symm
theorem DX (z:Int):(AW z).z=z:=rfl
def Di (x y:GI):GI×GI:=
 if x.sm=true/\y.sm=true/\x.z ≠ -9223372036854775808 then(⟨x.z/y.z,true⟩,⟨x.z%y.z,true⟩)
 else if x.z.tmod y.z<0 then(Hu (AW (x.z.tdiv y.z)) ⟨1,true⟩,Dt (AW (x.z.tmod y.z)) y)else(AW (x.z.tdiv y.z),AW (x.z.tmod y.z))
theorem dc (a b:Int)(hb:0<b):(a.tmod b<0->a.tdiv b-1=a/b/\a.tmod b+b=a%b)/\(¬a.tmod b<0->a.tdiv b=a/b/\a.tmod b=a%b):=by
 have e1:=Int.tdiv_eq_ediv (a:=a) (b:=b);have e2:=Int.tmod_add_mul_tdiv a b;have e3:=Int.emod_add_mul_ediv a b;have e4:=Int.emod_nonneg a (show b≠0 by omega);have e5:=Int.emod_lt_of_pos a hb;have hsg:b.sign=1:=Int.sign_eq_one_of_pos hb;rw[hsg]at e1;split at e1
 ·rw[Int.add_zero]at e1
  rw[e1]at e2;constructor
  ·intro h;omega
  ·intro _;exact⟨e1,by omega⟩
 ·rename_i hc
  have hd:¬b ∣ a:=λh=>hc (Or.inr h)
  have hr:a%b≠0:=λh=>hd (Int.dvd_of_emod_eq_zero h)
  have e6:b*(a/b+1)=b*(a/b)+b:=by rw[Int.mul_add,Int.mul_one]
  rw[e1,e6]at e2;constructor
  ·intro _;exact⟨by omega,by omega⟩
  ·intro h;omega
theorem Xo {x y:GI}(hy:0<y.z):(Di x y).1.z=x.z/y.z/\(Di x y).2.z=x.z%y.z:=by
 obtain⟨f1,f2⟩:=dc x.z y.z hy;unfold Di;split
 ·exact⟨rfl,rfl⟩
 ·split
  ·rename_i h
   rw[ZL,Lp];exact f1 h
  ·rename_i h
   exact f2 h
theorem Wg {x y:GI}(hx:x.wf)(hy:y.wf)(h0:0<y.z):(Di x y).1.wf/\(Di x y).2.wf:=by
 unfold Di;split
 ·rename_i h
  have hx1:=hx.1 h.1;have hy1:=hy.1 h.2.1;obtain⟨_,_,h3⟩:=h;have hm:=Int.emod_lt_of_pos x.z h0;have hm2:=Int.emod_nonneg x.z (show y.z≠0 by omega);refine⟨⟨λ_=>?_,λh=>by cases h⟩,⟨λ_=>⟨by dsimp only;omega,by dsimp only;omega⟩,λh=>by cases h⟩⟩;dsimp only;have e3:=Int.emod_add_mul_ediv x.z y.z;constructor
  ·rcases Int.lt_or_le (x.z/y.z) (-9223372036854775808)with h|h
   ·exfalso
    have h8:y.z*(x.z/y.z+1)<=1*(x.z/y.z+1):=Int.mul_le_mul_of_nonpos_right (by omega) (by omega);rw[Int.mul_add,Int.mul_one]at h8;omega
   ·exact h
  ·rcases Int.lt_or_le (x.z/y.z) 9223372036854775808 with h|h
   ·exact h
   ·exfalso
    have h5:(1:Int)*(x.z/y.z)<=y.z*(x.z/y.z):=Int.mul_le_mul_of_nonneg_right (by omega) (by omega);omega
 ·split
  ·exact⟨XY _ _,Lc _ _⟩
  ·exact⟨CT _,CT _⟩
theorem gX (a b:Int)(hb:0<b):Dj (decide (a<0)) (a.natAbs/b.natAbs)=a.tdiv b/\Dj (decide (a<0)) (a.natAbs%b.natAbs)=a.tmod b:=by
 obtain⟨n,rfl⟩:∃n:Nat,b=n:=⟨b.natAbs,by omega⟩
 rw[EA]
 by_cases h:a<0
 ·obtain⟨m,rfl⟩:∃m:Nat,a = -(m:Int):=⟨a.natAbs,by omega⟩
  rw[AY h,LD,EA,Int.neg_tdiv,Int.neg_tmod];exact⟨rfl,rfl⟩
 ·obtain⟨m,rfl⟩:∃m:Nat,a=(m:Int):=⟨a.natAbs,by omega⟩
  rw[Ah h,EA];exact⟨rfl,rfl⟩
theorem d6 (x y:GI)(hx:x.wf)(hy:y.wf)(h0:0<y.z)(fx:x.few)(fy:y.few)(hn:¬(x.sm=true/\y.sm=true/\x.z ≠ -9223372036854775808)):
  AK C0 240 [x.D,y.D] (.tup [(Di x y).1.D,(Di x y).2.D]):=by
 unfold Di;rw[AG hn];refine Ak.walk w1 Ss rfl λF=>?_
 have cx:=Ij x hx;have cy:=Ij y hy;have cd:=ar x.z.natAbs y.z.natAbs (by omega) fx fy;obtain⟨t1,t2⟩:=gX x.z y.z h0;have lq:(Ab (x.z.natAbs/y.z.natAbs)).length<1000000:=DJ (Gx _ _ (GO _ _)) fx;have lr:(Ab (x.z.natAbs%y.z.natAbs)).length<1000000:=DJ (Gx _ _ (Nat.mod_le _ _)) fx;have c1:=Kk (decide (x.z<0)) (x.z.natAbs/y.z.natAbs) (FW lq (by decide));have c2:=Kk (decide (x.z<0)) (x.z.natAbs%y.z.natAbs) (FW lr (by decide));rw[t1]at c1;rw[t2]at c2;have fq:(AW (x.z.tdiv y.z)).few:=by
  show(Ab (x.z.tdiv y.z).natAbs).length<1000000;rw[Int.natAbs_tdiv];exact lq
 have fr:(AW (x.z.tmod y.z)).few:=by
  show(Ab (x.z.tmod y.z).natAbs).length<1000000;rw[Int.natAbs_tmod];exact lr
 have f1:(⟨1,true⟩:GI).few:=by show(Ab 1).length<1000000;rw[LT (by decide) (by decide)];decide
 have cg:=Lu (AW (x.z.tmod y.z)) (CT _);have cs:=ab (AW (x.z.tdiv y.z)) ⟨1,true⟩ (CT _) ⟨λ_=>⟨by decide,by decide⟩,λh=>by cases h⟩ fq f1;have ca:=Ng (AW (x.z.tmod y.z)) y (CT _) hy fr fy;rw[DX]at cg;have co:AK C0 152 [i64 1] (⟨1,true⟩:GI).D:=B8 DG 1000 40 (by kernel_rfl);have hpx:AA x.w:=AI;have hpy:AA y.w:=AI;have hpq:AA (AW (x.z.tdiv y.z)).w:=AI;have hpr:AA (AW (x.z.tmod y.z)).w:=AI;have hps:AA (Hu (AW (x.z.tdiv y.z)) ⟨1,true⟩).w:=AI;have hpa:AA (Dt (AW (x.z.tmod y.z)) y).w:=AI;have hp1:AA (⟨1,true⟩:GI).w:=AI;clear t1 t2 lq lr fq fr f1;dsimp only[GI.D]at*;refine fR 0 ?_;refine Db ⟨[(2,.optr 0 0 2 0 0),(3,.optr 1 1 2 0 0),(4,.optr 2 2 2 0 0),(5,.optr 3 3 2 0 0)],[⟨3,3,139,2,[Co 0]⟩,⟨2,2,139,2,[Co 0]⟩,⟨1,1,139,2,[.agg [i64 y.s,y.w]]⟩,⟨0,0,139,2,[.agg [i64 x.s,x.w]]⟩],90⟩ ?_ ?_
 ·obtain⟨a,sa⟩:=x
  obtain⟨b,sb⟩:=y;clear cx cy cd c1 c2 cg cs ca co hpq hpr hps hpa hp1;have nx:sa=false->(Ab a.natAbs).map AR≠[]:=λh=>Gz (by
   intro h0;subst h;exact hx.2 rfl ⟨by dsimp only;omega,by dsimp only;omega⟩)
  have ny:sb=false->(Ab b.natAbs).map AR≠[]:=λh=>Gz (by
   intro h0;subst h;exact hy.2 rfl ⟨by dsimp only;omega,by dsimp only;omega⟩)
  unfold GI.s GI.w wD wL at*;dsimp only at*;generalize(Ab a.natAbs).map AR=ka at*;generalize(Ab b.natAbs).map AR=kb at*;cases sa with
  |false=>
   have nx:=nx rfl;dsimp only at*;generalize(if a<0 then(-1:Int)else 1)=sg at*;generalize(match sb with|true=>b|false=>if b<0 then(-1:Int)else 1)=sh at*;generalize(match sb with|true=>CD|false=>D.sl false 1 kb)=wy at*;refine AC.seq ?_;refine An w1 100 (by kernel_rfl) ?_;refine AU (Av (@ne_eq (List D)) nx EC) ?_;refine AE kT ?_;refine AE kT ?_;refine AE kT ?_;refine AL ?_;refine Am ?_;exact And.intro (by trivial) (AJ)
  |true=>
   dsimp only at*;cases sb with
   |false=>
    have ny:=ny rfl;dsimp only at*;generalize(if b<0 then(-1:Int)else 1)=sh at*;refine AC.seq ?_;refine An w1 100 (by kernel_rfl) ?_;refine AU (Av (@ne_eq (List D)) ny EC) ?_;refine AE (Bk kT (@ne_eq (List D)) ny EC) ?_;refine AE (Bk kT (@ne_eq (List D)) ny EC) ?_;refine AE (Bk kT (@ne_eq (List D)) ny EC) ?_;refine AL ?_;refine Am ?_;exact And.intro (by trivial) (AJ)
   |true=>
    have ha:a = -9223372036854775808:=DH λh=>hn ⟨rfl,rfl,h⟩
    subst ha;dsimp only at*;refine sZ 100 ?_
    repeat'(first|(refine And.intro (by exact Bz) ?_;refine At ?_)|((refine Br (λhb=>?_) (λhb=>?_))<;>(try simp only[Bb,Bq]at hb)<;>(try simp only[hb])<;>(refine At ?_)))
    refine AL ?_;refine Am ?_;exact And.intro (by trivial) (AJ)
 ·refine fR 600 ?_
  refine dI cx ?_;refine fR 700 ?_;refine dI cy ?_;refine fR 800 ?_;refine dI cd ?_;refine fR 900 ?_;refine dI c1 ?_;refine dI c2 ?_;refine AC.seq ?_;refine fR 1000 ?_;refine dI cg ?_
  by_cases h:x.z.tmod y.z<0
  ·have e:decide (max (-1) (min 1 (x.z.tmod y.z))<0)=true:=AY (by omega)
   rw[AH h,e];refine AL ?_;refine B3 w1 1100 [0,1,2,3,4] [5,6,7] (by kernel_rfl) ?_;refine B6 ?_;refine BT.same _ (co) AI ?_;refine B6 ?_;refine BT.same _ (cs) AI ?_;refine B6 ?_;refine dI ca ?_;refine AC.seq ?_;refine N9 w1 1200 [0,1,2] [3] 2 [0] (2) (by kernel_rfl) (by kernel_rfl) ?_;refine B6 ?_;refine B6 ?_;refine Af ?_;exact AQ rfl AA.out
  ·have e:decide (max (-1) (min 1 (x.z.tmod y.z))<0)=false:=Ah (by omega)
   rw[AG h,e];refine AL ?_;refine Am ?_;refine AC.seq ?_;refine N9 w1 1200 [0,1,2] [3] 2 [0] (2) (by kernel_rfl) (by kernel_rfl) ?_;refine B6 ?_;refine B6 ?_;refine Af ?_;exact AQ rfl AA.out
theorem Vz (x y:GI)(hx:x.wf)(hy:y.wf)(h0:0<y.z)(fx:x.few)(fy:y.few):AK C0 240 [x.D,y.D] (.tup [(Di x y).1.D,(Di x y).2.D]):=by
 by_cases h:x.sm=true/\y.sm=true/\x.z ≠ -9223372036854775808
 ·unfold Di
  rw[AH h];obtain⟨a,sa⟩:=x;obtain⟨b,sb⟩:=y;obtain⟨h1,h2,h3⟩:=h;dsimp only at h1 h2 h3 h0;subst h1;subst h2;have ra:=hx.1 rfl;have rb:=hy.1 rfl;dsimp only at ra rb;exact fF a b h0 ⟨by omega,by omega⟩ ⟨by omega,by omega⟩
 ·exact d6 x y hx hy h0 fx fy h
theorem ah (x y:GI)(hx:x.wf)(hy:y.wf)(h0:0<y.z)(fx:x.few)(fy:y.few):AK C0 196 [x.D,y.D] (Di x y).1.D:=by
 refine Ak.walk w1 YJ rfl λF=>?_
 have cg:=Lu y hy;have cd:=Vz x y hx hy h0 fx fy;have e1:decide (max (-1) (min 1 y.z)<0)=false:=Ah (by omega);have hpx:AA x.w:=AI;have hpy:AA y.w:=AI;have hpq:AA (Di x y).1.w:=AI;have hpr:AA (Di x y).2.w:=AI;dsimp only[GI.D]at*;generalize(Di x y).1.s=qs at*;generalize(Di x y).1.w=qw at*;generalize(Di x y).2.s=rs at*;generalize(Di x y).2.w=rw at*;refine fR 0 ?_;refine AC.seq ?_;refine fR 100 ?_;refine dI cg ?_;rw[e1];refine AL ?_;refine Am ?_;refine fR 300 ?_;refine dI cd ?_;refine fR 400 ?_;refine Af ?_;exact AQ rfl AA.out
theorem Wt (x:GI)(h:x.wf):K6 x=AW (x.z.natAbs:Nat):=by
 have h1:=kA x h;have h2:=l7 x;rw[Nh h1 (by omega),h2]
theorem HV {n:Nat}(h:(Ab n).length<1000000):(AW (n:Int)).few:=by
 show(Ab (n:Int).natAbs).length<1000000;rw[EA];exact h
theorem Vy {a b:Nat}(hb:0<b):Di (AW a) (AW b)=(AW ((a/b:Nat):Int),AW ((a%b:Nat):Int)):=by
 have hb':(0:Int)<(AW (b:Int)).z:=by show(0:Int)<(b:Int);omega
 obtain⟨h1,h2⟩:=Wg (CT a) (CT b) hb';obtain⟨h3,h4⟩:=Xo (x:=AW a) hb';have e3:(Di (AW a) (AW b)).1.z=((a/b:Nat):Int):=by rw[h3];exact(Int.natCast_ediv a b).symm
 have e4:(Di (AW a) (AW b)).2.z=((a%b:Nat):Int):=by rw[h4];exact(Int.natCast_emod a b).symm
 have c3:=Nh h1 (by rw[e3];generalize a/b=q;omega);have c4:=Nh h2 (by rw[e4];generalize a%b=q;omega);rw[e3]at c3;rw[e4]at c4;generalize Di (AW a) (AW b)=p at*;obtain⟨p1,p2⟩:=p;dsimp only at c3 c4;rw[c3,c4]
theorem Z7 (x y:GI)(hx:x.wf)(hy:y.wf)(fx:x.few)(fy:y.few):AK C0 195 [x.D,y.D] (AW (Nat.gcd x.z.natAbs y.z.natAbs:Nat)).D:=by
 refine Ak.walk w1 YI rfl λF=>?_
 have c1:=Zw x hx fx;have c2:=Zw y hy fy;rw[Wt x hx]at c1;rw[Wt y hy]at c2;have hpx:AA x.w:=AI;have hpy:AA y.w:=AI;have hpm:∀n:Nat,AA (AW (n:Int)).w:=λn=>AI
 unfold GI.few at fx fy;generalize x.z.natAbs=a at*;generalize y.z.natAbs=b at*;dsimp only[GI.D]at*;refine fR 0 ?_;refine AC.seq ?_;refine B3 w1 100 [0,1,2] [3,4,5] (by kernel_rfl) ?_;refine B6 ?_;refine BT.same _ (c1) AI ?_;refine B6 ?_;refine dI c2 ?_;refine AC.seq ?_;refine AC.block ?_;refine AC.loop (α:=Nat×Nat×Nat) (λp=>⟨[(2,.optr 0 0 2 0 0),(3,.optr 1 1 2 0 0),(4,.optr 2 2 2 0 0)],[⟨2,2,139,2,[Co 0]⟩,⟨1,1,139,2,[.agg [i64 (AW (p.2.1:Int)).s,(AW (p.2.1:Int)).w]]⟩,⟨0,0,139,2,[.agg [i64 (AW (p.1:Int)).s,(AW (p.1:Int)).w]]⟩],p.2.2⟩) (λp=>p.2.1)
  (λp=>Nat.gcd p.1 p.2.1=Nat.gcd a b/\(Ab p.1).length<1000000/\(Ab p.2.1).length<1000000) (a,b,_) ⟨rfl,fx,fy⟩ AJ ?_
 rintro⟨u,v,n⟩ F ⟨g1,g2,g3⟩;dsimp only at g1 g2 g3⊢;have cg:=Lu (AW (v:Int)) (CT _);rw[DX]at cg;dsimp only[GI.D]at cg;refine AC.seq ?_;refine fR 200 ?_;refine dI cg ?_;rcases DR v with hv|hv
 ·subst hv
  have e2:(max (-1) (min 1 ((0:Nat):Int)) != 0)=false:=by decide
  rw[e2];refine AL ?_;refine B5 ?_;refine fR 500 ?_;refine Af ?_;refine AQ ?_ AA.out;rw[<-g1,Nat.gcd_zero_right]
 ·have e2:(max (-1) (min 1 (v:Int)) != 0)=true:=by
   have:max (-1) (min 1 (v:Int))=1:=by omega
   rw[this];rfl
  have cd:=Vz (AW (u:Int)) (AW (v:Int)) (CT _) (CT _) (by show(0:Int)<(v:Int);omega) (HV g2) (HV g3);rw[Vy hv]at cd;dsimp only[GI.D]at cd;rw[e2];refine AL ?_;refine Am ?_;refine AC.block ?_;refine fR 300 ?_;refine dI cd ?_;refine N9 w1 400 [0,1,2] [3] 2 [0] (0) (by kernel_rfl) (by kernel_rfl) ?_;refine B6 ?_;refine B6 ?_;have hm:u%v<v:=By u hv;refine⟨(v,u%v,_),⟨?_,g3,DJ (Gx _ _ (Nat.mod_le _ _)) g2⟩,hm,AJ⟩;rw[<-g1,Mb u v,Nat.gcd_rec v u,Mb]
structure GF where
 n:GI
 d:Nat
abbrev GF.D (x:GF):D:=.agg [i64 x.n.s,x.n.w,i64 (AW (x.d:Int)).s,(AW (x.d:Int)).w]
def HN (r:Rat)(x:GF):Prop:=x.n.wf/\x.n.z=r.num/\x.d=r.den
theorem js {a b:Nat}(hb:0<b)(h:(Ab b).length<1000000):(Ab (Nat.gcd a b)).length<1000000:=DJ (Gx _ _ (Nat.gcd_le_right _ hb)) h
def Hi (x:GI)(d:Nat):GF:=if d=1 then⟨x,1⟩else⟨(Di x (AW (Nat.gcd x.z.natAbs d:Nat))).1,d/Nat.gcd x.z.natAbs d⟩
theorem PE (x:GI)(d:Nat)(hx:x.wf)(hd:0<d):HN (mkRat x.z d) (Hi x d):=by
 have hg:0<Nat.gcd x.z.natAbs d:=OB _ hd;have e:mkRat x.z d=Rat.normalize x.z d (by omega):=(Rat.normalize_eq_mkRat _).symm;rw[e,Rat.normalize_eq];unfold Hi;split
 ·rename_i h
  subst h;refine⟨hx,?_,?_⟩
  ·dsimp only;rw[Nat.gcd_one_right];simp
  ·dsimp only;rw[Nat.gcd_one_right]
 ·have hg':(0:Int)<(AW (Nat.gcd x.z.natAbs d:Nat)).z:=by show(0:Int)<(Nat.gcd x.z.natAbs d:Nat);omega
  exact⟨(Wg hx (CT _) hg').1,(Xo hg').1,rfl⟩
theorem Sg:AW ((1:Nat):Int)=⟨1,true⟩:=In ⟨by decide,by decide⟩
theorem QY {d:Nat}(h:Sm (d:Int)):(AW (d:Int)).s=(d:Int)/\(AW (d:Int)).w=CD:=by rw[In h];exact⟨rfl,rfl⟩
theorem Tn {d:Nat}(h:¬Sm (d:Int)):(AW (d:Int)).s=1/\(AW (d:Int)).w=.sl false 1 ((Ab d).map AR)/\(Ab d).map AR≠[]:=by
 rw[Sf h];refine⟨?_,rfl,Gz ?_⟩
 ·show(if(d:Int)<0 then(-1:Int)else 1)=1
  rw[AG (by omega)]
 ·intro h0
  subst h0;exact h ⟨by decide,by decide⟩
def Jr (x y:GI):GF:=Hi (if y.z<0 then AW (-x.z)else x) y.z.natAbs
theorem ic (x y:GI)(hx:x.wf)(h0:y.z≠0):HN (Rat.divInt x.z y.z) (Jr x y):=by
 unfold Jr
 by_cases h:y.z<0
 ·rw[AH h]
  have:=PE (AW (-x.z)) y.z.natAbs (CT _) (by omega)
  rw[DX]at this;have e:mkRat (-x.z) y.z.natAbs=Rat.divInt x.z y.z:=by
   obtain⟨k,hk⟩:∃k,y.z=Int.negSucc k:=by
    cases hy:y.z with
    |ofNat n=>rw[hy]at h;simp at h;omega
    |negSucc k=>exact⟨k,rfl⟩
   rw[hk];show mkRat (-x.z) (k+1)=_;exact(Rat.normalize_eq_mkRat (by omega)).symm
  rw[e]at this;exact this
 ·rw[AG h]
  have:=PE x y.z.natAbs hx (by omega)
  have e:mkRat x.z y.z.natAbs=Rat.divInt x.z y.z:=by
   rw[<-Rat.divInt_ofNat];congr 1;omega
  rw[e]at this;exact this
theorem Zp (x y:GI)(hx:x.wf)(hy:y.wf)(h0:y.z≠0)(fx:x.few)(fy:y.few):AK C0 150 [x.D,y.D] (Jr x y).D:=by
 refine Ak.walk w1 Yr rfl λF=>?_
 have cg:=Lu y hy;have cn1:=Nm x hx fx;have cn2:=Nm y hy fy;obtain⟨x',hx'⟩:∃x',x'=if y.z<0 then AW (-x.z)else x:=⟨_,rfl⟩
 have wx':x'.wf:=by rw[hx'];split;exact CT _;exact hx
 have fx':x'.few:=by rw[hx'];split;exact Wn fx;exact fx
 have hd:0<y.z.natAbs:=by omega
 have fd:(Ab y.z.natAbs).length<1000000:=fy;have fdg:=HV fd;have ey:y.z<0->AW (-y.z)=AW (y.z.natAbs:Int):=λh=>by congr 1;omega
 have ey':¬y.z<0->y=AW (y.z.natAbs:Int):=λh=>by
  rw[Nh hy (by omega)];show AW y.z=AW (y.z.natAbs:Int)
  congr 1;omega
 unfold Jr;rw[<-hx'];generalize hdd:y.z.natAbs=d at*;have hpx:AA x.w:=AI;have hpy:AA y.w:=AI;have hpx':AA x'.w:=AI;have hpd:AA (AW (d:Int)).w:=AI;have hg:0<Nat.gcd x'.z.natAbs d:=OB _ hd;have cc:=Z7 x' (AW (d:Int)) wx' (CT _) fx' fdg;rw[DX,EA]at cc;have fgg:(AW (Nat.gcd x'.z.natAbs d:Nat)).few:=HV (js hd fd);have cq1:=ah x' (AW (Nat.gcd x'.z.natAbs d:Nat)) wx' (CT _) (by show(0:Int)<(Nat.gcd x'.z.natAbs d:Nat);omega) fx' fgg;have cq2:=ah (AW (d:Int)) (AW (Nat.gcd x'.z.natAbs d:Nat)) (CT _) (CT _) (by show(0:Int)<(Nat.gcd x'.z.natAbs d:Nat);omega) fdg fgg;rw[Vy hg]at cq2;have hpg:AA (AW ((Nat.gcd x'.z.natAbs d:Nat):Int)).w:=AI;have hpq1:AA (Di x' (AW (Nat.gcd x'.z.natAbs d:Nat))).1.w:=AI;have hpq2:AA (AW ((d/Nat.gcd x'.z.natAbs d:Nat):Int)).w:=AI;unfold Hi GF.D;dsimp only[GI.D]at*;refine fR 0 ?_;refine Db ⟨[(2,.optr 0 0 2 0 0),(3,.optr 1 1 2 0 0),(4,.optr 2 2 4 0 0)],[⟨2,2,141,4,[.agg [i64 0,CD,i64 0,CD]]⟩,⟨1,1,139,2,[.agg [i64 (AW (d:Int)).s,(AW (d:Int)).w]]⟩,⟨0,0,139,2,[.agg [i64 x'.s,x'.w]]⟩],90⟩ ?_ ?_
 ·by_cases h:y.z<0
  ·have e1:decide (max (-1) (min 1 y.z)<0)=true:=AY (by omega)
   rw[AH h]at hx';subst hx';rw[<-ey h];refine fR 100 ?_;refine dI cg ?_;rw[e1];refine AL ?_;refine B3 w1 200 [0,1,2] [3,4,5] (by kernel_rfl) ?_;refine B6 ?_;refine BT.same _ (cn1) AI ?_;refine B6 ?_;refine dI cn2 ?_;exact⟨rfl,AJ⟩
  ·have e1:decide (max (-1) (min 1 y.z)<0)=false:=Ah (by omega)
   rw[AG h]at hx';subst hx';have ey:=ey' h;refine fR 100 ?_;refine dI cg ?_;rw[e1];refine AL ?_;refine Am ?_;rw[<-ey];exact⟨rfl,AJ⟩
 by_cases h1:d=1
 ·subst h1
  rw[AH rfl,Sg];refine AC.seq ?_;refine sZ 300 ?_
  repeat'(first|(refine And.intro (by exact Bz) ?_;refine At ?_)|((refine Br (λhb=>?_) (λhb=>?_))<;>(try simp only[Bb,Bq]at hb)<;>(try simp only[hb])<;>(refine At ?_)))
  refine AL ?_;refine fR 400 ?_;refine Af ?_;exact AQ rfl AA.out
 ·rw[AG h1]
  refine Db ⟨[(2,.optr 0 0 2 0 0),(3,.optr 1 1 2 0 0),(4,.optr 2 2 4 0 0)],[⟨2,2,141,4,[.agg [i64 0,CD,i64 0,CD]]⟩,⟨1,1,139,2,[.agg [i64 (AW (d:Int)).s,(AW (d:Int)).w]]⟩,⟨0,0,139,2,[.agg [i64 x'.s,x'.w]]⟩],98⟩ ?_ ?_
  ·by_cases hs:Sm (d:Int)
   ·obtain⟨a1,a2⟩:=QY hs
    rw[a1,a2];have e2:((d:Int)==1)=false:=Bw.2 (by omega);refine sZ 300 ?_
    repeat'(first|(refine And.intro (by exact Bz) ?_;refine At ?_)|((refine Br (λhb=>?_) (λhb=>?_))<;>(try simp only[Bb,Bq]at hb)<;>(try simp only[hb])<;>(refine At ?_)))
    try simp only[e2]
    refine AL ?_;refine Am ?_;exact⟨rfl,⟨GX _,⟨.refl _,.refl _,.refl _,trivial⟩,Ad _⟩⟩
   ·obtain⟨a1,a2,a3⟩:=Tn hs
    rw[a1,a2];generalize(Ab d).map AR=l at*;refine AC.seq ?_;refine An w1 300 (by kernel_rfl) ?_;refine AU (Av (@ne_eq (List D)) a3 EC) ?_;refine AE kT ?_;refine AL ?_;refine Am ?_;exact⟨rfl,⟨GX _,⟨.refl _,.refl _,.refl _,trivial⟩,Ad _⟩⟩
  ·refine fR 500 ?_
   refine dI cc ?_;refine AC.seq ?_;refine B3 w1 600 [0,1,2,3,4] [5,6,7] (by kernel_rfl) ?_;refine B6 ?_;refine BT.same _ (cq1) AI ?_;refine B6 ?_;refine dI cq2 ?_;refine Af ?_;exact AQ rfl AA.out
def rk (r:Rat)(k:Nat):Prop:=(Ab r.num.natAbs).length<=k/\(Ab r.den).length<=k
theorem rk.mono {r:Rat}{k l:Nat}(h:rk r k)(hl:k<=l):rk r l:=⟨BQ h.1 hl,BQ h.2 hl⟩
theorem Pg {n:Int}{d k:Nat}(hd:d≠0)(h1:(Ab n.natAbs).length<=k)(h2:(Ab d).length<=k):rk (Rat.normalize n d hd) k:=by
 rw[Rat.normalize_eq];exact⟨BQ (Gx _ _ (Int.natAbs_ediv_le_natAbs _ _)) h1,BQ (Gx _ _ (GO _ _)) h2⟩
theorem JT (a b:Int):(Ab (a*b).natAbs).length<=(Ab a.natAbs).length+(Ab b.natAbs).length:=by
 rw[MZ];exact KT _ _
theorem U7 (a b:Int):(Ab (a+b).natAbs).length<=max (Ab a.natAbs).length (Ab b.natAbs).length+1:=
 BQ (Gx _ _ (Int.natAbs_add_le a b)) (Vm _ _)
theorem ZF {a b:Rat}{i j:Nat}(ha:rk a i)(hb:rk b j):rk (a+b) (i+j+1):=by
 rw[Rat.add_def];have h1:=JT a.num b.den;have h2:=JT b.num a.den;have h3:=U7 (a.num*b.den) (b.num*a.den);have h4:=KT a.den b.den;rw[EA]at h1 h2;obtain⟨a1,a2⟩:=ha;obtain⟨b1,b2⟩:=hb;exact Pg _ (by omega) (by omega)
theorem qX {a b:Rat}{i j:Nat}(ha:rk a i)(hb:rk b j):rk (a*b) (i+j):=by
 rw[Rat.mul_def];have h1:=JT a.num b.num;have h4:=KT a.den b.den;obtain⟨a1,a2⟩:=ha;obtain⟨b1,b2⟩:=hb;exact Pg _ (by omega) (by omega)
structure FR (r:Rat)(x:GF)(k:Nat):Prop where
 is:HN r x
 rk:rk r k
theorem FR.fn {r:Rat}{x:GF}{k:Nat}(h:FR r x k)(hk:k<1000000):x.n.few:=by
 show(Ab x.n.z.natAbs).length<1000000;rw[h.is.2.1];have:=h.rk.1;omega
theorem FR.ln {r:Rat}{x:GF}{k:Nat}(h:FR r x k):(Ab x.n.z.natAbs).length<=k:=by rw[h.is.2.1];exact h.rk.1
theorem FR.ld {r:Rat}{x:GF}{k:Nat}(h:FR r x k):(Ab x.d).length<=k:=by rw[h.is.2.2];exact h.rk.2
theorem FR.dpos {r:Rat}{x:GF}{k:Nat}(h:FR r x k):0<x.d:=by rw[h.is.2.2];exact r.den_pos
theorem N0 (x:GI)(d:Nat)(hx:x.wf)(fx:(Ab x.z.natAbs).length<400000)(fd:(Ab d).length<400000):AK C0 151 [x.D,(AW (d:Int)).D] (AW (x.z*d)).D:=by
 have:=aA x (AW (d:Int)) hx (CT _) fx (by rw[DX,EA];exact fd)
 rwa [DX]at this
theorem To (c d:Nat)(fc:(Ab c).length<400000)(fd:(Ab d).length<400000):AK C0 151 [(AW (c:Int)).D,(AW (d:Int)).D] (AW ((c*d:Nat):Int)).D:=by
 have:=N0 (AW (c:Int)) d (CT _) (by rw[DX,EA];exact fc) fd
 rw[DX,<-FU]at this;exact this
theorem WS (x:GI)(d:Nat)(hx:x.wf)(hd:0<d)(fx:x.few)(fd:(Ab d).length<1000000):AK C0 150 [x.D,(AW (d:Int)).D] (Hi x d).D:=by
 have:=Zp x (AW (d:Int)) hx (CT _) (by rw[DX];omega) fx (HV fd)
 unfold Jr at this;rw[DX,AG (by omega),EA]at this;exact this
theorem RQ (x:GF)(hd:0<x.d):AK C0 153 [x.D] (Au (decide (x.d=1))):=by
 refine Ak.walk w1 Yt rfl λF=>?_
 obtain⟨y,d⟩:=x;dsimp only[GF.D]at hd⊢;have hpy:AA y.w:=AI;generalize y.s=ys at*;generalize y.w=yw at*
 by_cases hs:Sm (d:Int)
 ·obtain⟨a1,a2⟩:=QY hs
  rw[a1,a2];have e2:((d:Int)==1)=decide (d=1):=by
   rw[GN,Dv,decide_eq_true_iff];omega
  refine fR 0 ?_;refine sZ 100 ?_
  repeat'(first|(refine And.intro (by exact Bz) ?_;refine At ?_)|((refine Br (λhb=>?_) (λhb=>?_))<;>(try simp only[Bb,Bq]at hb)<;>(try simp only[hb])<;>(refine At ?_)))
  try simp only[e2]
  refine Af ?_;exact AQ rfl AA.out
 ·obtain⟨a1,a2,a3⟩:=Tn hs
  rw[a1,a2];have e2:decide (d=1)=false:=Ah λh=>hs (by rw[h];exact⟨by decide,by decide⟩)
  rw[e2];generalize(Ab d).map AR=l at*;refine fR 0 ?_;refine AC.seq ?_;refine An w1 100 (by kernel_rfl) ?_;refine AU (Av (@ne_eq (List D)) a3 EC) ?_;refine AE kT ?_;refine Af ?_;exact AQ rfl AA.out
def I3 (x y:GF):GF:=if x.d=1/\y.d=1 then⟨Dt x.n y.n,1⟩else Hi (Dt (AW (x.n.z*y.d)) (AW (y.n.z*x.d))) (x.d*y.d)
theorem kC {a b:Rat}{x y:GF}(hx:HN a x)(hy:HN b y):HN (a+b) (I3 x y):=by
 obtain⟨x1,x2,x3⟩:=hx;obtain⟨y1,y2,y3⟩:=hy;rw[Rat.add_def,Rat.normalize_eq_mkRat,<-x2,<-x3,<-y2,<-y3];unfold I3;split
 ·rename_i h
  rw[h.1,h.2];refine⟨Lc _ _,?_,?_⟩
  ·dsimp only
   rw[Lp];show _=(mkRat (x.n.z*1+y.n.z*1) 1).num;rw[Int.mul_one,Int.mul_one,Rat.mkRat_one,Rat.num_intCast]
  ·dsimp only
   show _=(mkRat (x.n.z*1+y.n.z*1) 1).den;rw[Rat.mkRat_one,Rat.den_intCast]
 ·have:=PE (Dt (AW (x.n.z*y.d)) (AW (y.n.z*x.d))) (x.d*y.d) (Lc _ _) (Gu (by rw[x3];exact a.den_pos) (by rw[y3];exact b.den_pos))
  rw[Lp,DX,DX]at this;exact this
theorem Xj (x:GI):AK C0 148 [x.D] (⟨x,1⟩:GF).D:=by
 refine Ak.walk w1 Sl rfl λF=>?_
 have hpx:AA x.w:=AI;unfold GF.D;rw[Sg];dsimp only[GI.D]at*;refine fR 0 ?_;refine AC.seq ?_;refine B3 w1 100 [0,1] [2,3] (by kernel_rfl) ?_;refine B6 ?_;refine BT.same _ (No 1) AI ?_;refine B6 ?_;refine Af ?_;exact AQ rfl AA.out
theorem Pk {a b:Rat}{x y:GF}{i j:Nat}(hx:FR a x i)(hy:FR b y j)(hk:i+j<300000):AK C0 106 [x.D,y.D] (I3 x y).D:=by
 refine Ak.walk w1 Xz rfl λF=>?_
 have v1:=RQ x hx.dpos;have v2:=RQ y hy.dpos;have l1:=hx.ln;have l2:=hy.ln;have l3:=hx.ld;have l4:=hy.ld;have dp:=Gu hx.dpos hy.dpos;have m1:=N0 x.n y.d hx.is.1 (by omega) (by omega);have m2:=N0 y.n x.d hy.is.1 (by omega) (by omega);have m3:=To x.d y.d (by omega) (by omega);have z1:=JT x.n.z y.d;have z2:=JT y.n.z x.d;rw[EA]at z1 z2;have z3:=U7 (x.n.z*y.d) (y.n.z*x.d);have z4:=KT x.d y.d;have s1:=Ng (AW (x.n.z*y.d)) (AW (y.n.z*x.d)) (CT _) (CT _) (by show(Ab (x.n.z*y.d).natAbs).length<1000000;omega) (by show(Ab (y.n.z*x.d).natAbs).length<1000000;omega);have s0:=Ng x.n y.n hx.is.1 hy.is.1 (hx.fn (by omega)) (hy.fn (by omega));have mk:=WS (Dt (AW (x.n.z*y.d)) (AW (y.n.z*x.d))) (x.d*y.d) (Lc _ _) dp (by
  show(Ab (Dt (AW (x.n.z*y.d)) (AW (y.n.z*x.d))).z.natAbs).length<1000000;rw[Lp,DX,DX];omega) (by omega)
 have wg:=Xj (Dt x.n y.n);have hp1:AA x.n.w:=AI;have hp2:AA y.n.w:=AI;have hp3:AA (AW (x.d:Int)).w:=AI;have hp4:AA (AW (y.d:Int)).w:=AI;have hp5:AA (Dt x.n y.n).w:=AI;have hp6:AA (Dt (AW (x.n.z*y.d)) (AW (y.n.z*x.d))).w:=AI;have hp7:AA (AW (x.n.z*y.d)).w:=AI;have hp8:AA (AW (y.n.z*x.d)).w:=AI;have hp9:AA (AW ((x.d*y.d:Nat):Int)).w:=AI;have hq1:AA (Hi (Dt (AW (x.n.z*y.d)) (AW (y.n.z*x.d))) (x.d*y.d)).n.w:=AI;have hq2:AA (AW ((Hi (Dt (AW (x.n.z*y.d)) (AW (y.n.z*x.d))) (x.d*y.d)).d:Int)).w:=AI;have hq3:AA (AW ((1:Nat):Int)).w:=AI;unfold I3;clear z1 z2 z3 z4 l1 l2 l3 l4 dp hk hx hy;dsimp only[GI.D,GF.D]at*
 by_cases e1:x.d=1
 ·have fb:decide (x.d=1)=true:=AY e1
  rw[fb]at v1
  by_cases e2:y.d=1
  ·have fd:decide (y.d=1)=true:=AY e2
   rw[fd]at v2;rw[AH ⟨e1,e2⟩];refine fR 0 ?_;refine AC.seq ?_;refine fR 100 ?_;refine dI v1 ?_;dsimp only[L4];refine B6 ?_;dsimp only[L4];refine B6 ?_;refine dI v2 ?_;refine AL ?_;refine fR 200 ?_;refine dI s0 ?_;refine dI wg ?_;refine Af ?_;exact AQ rfl AA.out
  ·have fd:decide (y.d=1)=false:=Ah e2
   rw[fd]at v2;rw[AG λh=>e2 h.2];refine fR 0 ?_;refine AC.seq ?_;refine fR 100 ?_;refine dI v1 ?_;dsimp only[L4];refine B6 ?_;dsimp only[L4];refine B6 ?_;refine dI v2 ?_;refine AL ?_;refine Am ?_;refine AC.seq ?_;refine B3 w1 300 [0,1,2,3,4,5,6,7,8,9,10,11,12,13,14] [15,16,17] (by kernel_rfl) ?_;refine B6 ?_;refine BT.same _ (m1) AI ?_;refine B6 ?_;refine BT.same _ (m2) AI ?_;refine B6 ?_;refine BT.same _ (s1) AI ?_;refine B6 ?_;refine dI m3 ?_;refine dI mk ?_;refine Af ?_;exact AQ rfl AA.out
 ·have fb:decide (x.d=1)=false:=Ah e1
  rw[fb]at v1;rw[AG λh=>e1 h.1];refine fR 0 ?_;refine AC.seq ?_;refine fR 100 ?_;refine dI v1 ?_;dsimp only[QF];refine B6 ?_;dsimp only[QF];refine B6 ?_;refine AL ?_;refine Am ?_;refine AC.seq ?_;refine B3 w1 300 [0,1,2,3,4,5,6,7,8,9,10,11,12,13,14] [15,16,17] (by kernel_rfl) ?_;refine B6 ?_;refine BT.same _ (m1) AI ?_;refine B6 ?_;refine BT.same _ (m2) AI ?_;refine B6 ?_;refine BT.same _ (s1) AI ?_;refine B6 ?_;refine dI m3 ?_;refine dI mk ?_;refine Af ?_;exact AQ rfl AA.out
theorem PP {a b:Rat}{x y:GF}{i j:Nat}(hx:FR a x i)(hy:FR b y j):FR (a+b) (I3 x y) (i+j+1):=⟨kC hx.is hy.is,ZF hx.rk hy.rk⟩
def Hq (x y:GF):GF:=Hi (AW (x.n.z*y.n.z)) (x.d*y.d)
theorem lM {a b:Rat}{x y:GF}(hx:HN a x)(hy:HN b y):HN (a*b) (Hq x y):=by
 obtain⟨x1,x2,x3⟩:=hx;obtain⟨y1,y2,y3⟩:=hy;rw[Rat.mul_def,Rat.normalize_eq_mkRat,<-x2,<-x3,<-y2,<-y3]
 have:=PE (AW (x.n.z*y.n.z)) (x.d*y.d) (CT _) (Gu (by rw[x3];exact a.den_pos) (by rw[y3];exact b.den_pos))
 rw[DX]at this;exact this
theorem SB {a b:Rat}{x y:GF}{i j:Nat}(hx:FR a x i)(hy:FR b y j):FR (a*b) (Hq x y) (i+j):=⟨lM hx.is hy.is,qX hx.rk hy.rk⟩
theorem Sj {a b:Rat}{x y:GF}{i j:Nat}(hx:FR a x i)(hy:FR b y j)(hk:i+j<300000):AK C0 104 [x.D,y.D] (Hq x y).D:=by
 refine Ak.walk w1 Xx rfl λF=>?_
 have l1:=hx.ln;have l2:=hy.ln;have l3:=hx.ld;have l4:=hy.ld;have dp:=Gu hx.dpos hy.dpos;have z1:=JT x.n.z y.n.z;have z4:=KT x.d y.d;have m1:=aA x.n y.n hx.is.1 hy.is.1 (by omega) (by omega);have m3:=To x.d y.d (by omega) (by omega);have mk:=WS (AW (x.n.z*y.n.z)) (x.d*y.d) (CT _) dp (by show(Ab (x.n.z*y.n.z).natAbs).length<1000000;omega) (by omega);have p1:AA x.n.w:=AI;have p2:AA y.n.w:=AI;have p3:AA (AW (x.d:Int)).w:=AI;have p4:AA (AW (y.d:Int)).w:=AI;have p5:AA (AW (x.n.z*y.n.z)).w:=AI;have p6:AA (AW ((x.d*y.d:Nat):Int)).w:=AI;have p7:AA (Hi (AW (x.n.z*y.n.z)) (x.d*y.d)).n.w:=AI;have p8:AA (AW ((Hi (AW (x.n.z*y.n.z)) (x.d*y.d)).d:Int)).w:=AI;unfold Hq;clear l1 l2 l3 l4 dp z1 z4 hx hy;dsimp only[GI.D,GF.D]at*;refine fR 0 ?_;refine AC.seq ?_;refine B3 w1 100 [0,1,2,3,4,5,6,7,8] [9,10,11] (by kernel_rfl) ?_;refine B6 ?_;refine BT.same _ (m1) AI ?_;refine B6 ?_;refine dI m3 ?_;refine dI mk ?_;refine Af ?_;exact AQ rfl AA.out
def I6 (x:GF):GF:=Jr (AW (x.d:Int)) x.n
theorem lE {a:Rat}{x:GF}(hx:HN a x)(h0:a≠0):HN a⁻¹ (I6 x):=by
 obtain⟨x1,x2,x3⟩:=hx;have hn:x.n.z≠0:=by
  rw[x2];intro h;exact h0 (Rat.num_eq_zero.1 h)
 rw[Rat.inv_def,<-x2,<-x3];exact ic (AW (x.d:Int)) x.n (CT _) hn
theorem rV {a:Rat}{k:Nat}(h:rk a k)(h0:a≠0):rk a⁻¹ k:=by
 rw[Rat.inv_def];obtain⟨h1,h2⟩:=h;have hn:a.num≠0:=λh=>h0 (Rat.num_eq_zero.1 h)
 rcases Int.lt_or_gt_of_ne hn with h|h
 ·obtain⟨m,hm⟩:∃m,a.num=Int.negSucc m:=by
   cases hy:a.num with
   |ofNat n=>rw[hy]at h;simp at h;omega
   |negSucc k=>exact⟨k,rfl⟩
  rw[hm]at h1⊢;exact Pg (n:=-(a.den:Int)) (d:=m+1) (by omega) (by rw[LD,EA];exact h2) h1
 ·obtain⟨m,hm⟩:∃m:Nat,a.num=(m:Int):=⟨a.num.natAbs,by omega⟩
  rw[hm]at h1 h⊢;rw[Rat.divInt_ofNat,<-Rat.normalize_eq_mkRat (by omega)];exact Pg _ (by rw[EA];exact h2) (by rw[EA]at h1;exact h1)
theorem XK {a:Rat}{x:GF}{k:Nat}(h:FR a x k)(h0:a≠0):FR a⁻¹ (I6 x) k:=⟨lE h.is h0,rV h.rk h0⟩
theorem nO {a:Rat}{x:GF}{k:Nat}(h:FR a x k)(h0:a≠0)(hk:k<1000000):AK C0 158 [x.D] (I6 x).D:=by
 refine Ak.walk w1 Yu rfl λF=>?_
 have l3:=h.ld;have hn:x.n.z≠0:=by
  rw[h.is.2.1];intro h;exact h0 (Rat.num_eq_zero.1 h)
 have mk:=Zp (AW (x.d:Int)) x.n (CT _) h.is.1 hn (HV (by omega)) (h.fn hk);have p1:AA x.n.w:=AI;have p3:AA (AW (x.d:Int)).w:=AI;have p7:AA (Jr (AW (x.d:Int)) x.n).n.w:=AI;have p8:AA (AW ((Jr (AW (x.d:Int)) x.n).d:Int)).w:=AI;unfold I6;dsimp only[GI.D,GF.D]at*;refine fR 0 ?_;refine fR 100 ?_;refine dI mk ?_;refine Af ?_;exact AQ rfl AA.out
def QS (x y:GF):GF:=Hq x (I6 y)
theorem jm {a b:Rat}{x y:GF}{i j:Nat}(hx:FR a x i)(hy:FR b y j)(h0:b≠0):FR (a/b) (QS x y) (i+j):=by
 rw[Rat.div_def];exact SB hx (XK hy h0)
theorem nN {a b:Rat}{x y:GF}{i j:Nat}(hx:FR a x i)(hy:FR b y j)(h0:b≠0)(hk:i+j<300000):AK C0 110 [x.D,y.D] (QS x y).D:=by
 refine Ak.walk w1 X7 rfl λF=>?_
 have c1:=nO hy h0 (by omega);have c2:=Sj hx (XK hy h0) hk;have p1:AA x.n.w:=AI;have p2:AA y.n.w:=AI;have p3:AA (AW (x.d:Int)).w:=AI;have p4:AA (AW (y.d:Int)).w:=AI;have p5:AA (I6 y).n.w:=AI;have p6:AA (AW ((I6 y).d:Int)).w:=AI;have p7:AA (Hq x (I6 y)).n.w:=AI;have p8:AA (AW ((Hq x (I6 y)).d:Int)).w:=AI;unfold QS;dsimp only[GI.D,GF.D]at*;refine fR 0 ?_;refine AC.seq ?_;refine B3 w1 100 [0,1,2] [3,4] (by kernel_rfl) ?_;refine B6 ?_;refine BT.same _ (c1) AI ?_;refine B6 ?_;refine dI c2 ?_;refine Af ?_;exact AQ rfl AA.out
def Kz (a b:Rat):Int:=if a<b then -1 else if b<a then 1 else 0
theorem nE (a b:Rat):Dh (a.num*b.den) (b.num*a.den)=Kz a b:=by
 unfold Dh Kz;simp only[Rat.lt_iff]
theorem nM {a b:Rat}{x y:GF}{i j:Nat}(hx:FR a x i)(hy:FR b y j)(hk:i+j<300000):AK C0 232 [x.D,y.D] (i64 (Kz a b)):=by
 refine Ak.walk w1 YY rfl λF=>?_
 have l1:=hx.ln;have l2:=hy.ln;have l3:=hx.ld;have l4:=hy.ld;have m1:=N0 x.n y.d hx.is.1 (by omega) (by omega);have m2:=N0 y.n x.d hy.is.1 (by omega) (by omega);have z1:=JT x.n.z y.d;have z2:=JT y.n.z x.d;rw[EA]at z1 z2;have cm:=rY (AW (x.n.z*y.d)) (AW (y.n.z*x.d)) (CT _) (CT _) (by show(Ab (x.n.z*y.d).natAbs).length<1000000;omega) (by show(Ab (y.n.z*x.d).natAbs).length<1000000;omega);have e:Dh (AW (x.n.z*y.d)).z (AW (y.n.z*x.d)).z=Kz a b:=by
  rw[DX,DX,<-nE,hx.is.2.1,hx.is.2.2,hy.is.2.1,hy.is.2.2]
 rw[e]at cm;have p1:AA x.n.w:=AI;have p2:AA y.n.w:=AI;have p3:AA (AW (x.d:Int)).w:=AI;have p4:AA (AW (y.d:Int)).w:=AI;have p5:AA (AW (x.n.z*y.d)).w:=AI;have p6:AA (AW (y.n.z*x.d)).w:=AI;clear l1 l2 l3 l4 z1 z2 e hx hy;dsimp only[GI.D,GF.D]at*;refine fR 0 ?_;refine AC.seq ?_;refine B3 w1 100 [0,1,2,3,4,5,6,7,8] [9,10,11] (by kernel_rfl) ?_;refine B6 ?_;refine BT.same _ (m1) AI ?_;refine B6 ?_;refine dI m2 ?_;refine dI cm ?_;refine Af ?_;exact AQ rfl AA.out
def GH (a:Rat):Int:=max (-1) (min 1 a.num)
theorem XC {a:Rat}{x:GF}(hx:HN a x):AK C0 183 [x.D] (i64 (GH a)):=by
 refine Ak.walk w1 Y1 rfl λF=>?_
 have cg:=Lu x.n hx.1;rw[hx.2.1]at cg;have p1:AA x.n.w:=AI;have p3:AA (AW (x.d:Int)).w:=AI;unfold GH;dsimp only[GI.D,GF.D]at*;refine fR 0 ?_;refine fR 100 ?_;refine dI cg ?_;refine Af ?_;exact AQ rfl AA.out
abbrev sb (l:List UInt8):ByteArray:=⟨l.toArray⟩
theorem CX (l:List UInt8):(sb l).size=l.length:=by simp[ByteArray.size]
theorem Ec (l:List UInt8)(i j:Nat):(sb l).extract i j=sb ((l.take j).drop i):=by
 apply ByteArray.ext;rw[ByteArray.data_extract];simp[List.drop_take]
theorem XN (l:List UInt8):(sb l).toList=l:=by
 rw[ByteArray.toList_eq]
theorem Et (l m:List UInt8):Bh (sb l) (sb m)=decide (l=m):=by
 unfold Bh;rw[XN,XN,GN,Dv,decide_eq_true_iff]
def C8 (l:List UInt8):Bool:=match l with
 | []=>false
 |c::_=>c==45
def Bi (l:List UInt8):List UInt8:=if C8 l then l.drop 1 else l
def BG (l:List UInt8):Nat:=(l.takeWhile (· != 47)).length
theorem KY (l:List UInt8):BG l<=l.length:=by
 unfold BG;exact(List.takeWhile_sublist _).length_le
theorem ce (l:List UInt8):Lib.indexByte l 47=if BG l<l.length then(BG l:Int)else -1:=by
 induction l with
 |nil=>rfl
 |cons c l ih=>
  unfold Lib.indexByte
  by_cases h:c=47
  ·subst h
   simp[BG]
  ·have e1:BG (c::l)=BG l+1:=by
    unfold BG;rw[OM,AH (by simpa using h),Bl]
   have hb:(c==47)=false:=by simpa using h
   rw[hb,ih,e1,Bl]
   by_cases h2:BG l<l.length
   ·have h3:BG l+1<l.length+1:=by omega
    have h4:(((BG l:Nat):Int) == -1)=false:=Bw.2 (by omega);simp only[h2,h3,h4,if_true,HK,if_false];omega
   ·have h3:¬BG l+1<l.length+1:=by omega
    simp only[h2,h3,HK,if_false];rfl
theorem U3 (l:List UInt8)(hl:l.length<=1000000000):AK C0 235 [str (sb l),str (sb [45])] (Au (C8 l)):=by
 refine Ak.walk w1 Yb rfl λF=>?_
 have hsz:=CX l;have hs1:=CX [45];refine sR 0 ?_;refine AC.seq ?_;cases l with
 |nil=>
  have e1:decide (((sb []).size:Int)>=((sb [45]).size:Int))=false:=rfl;refine An w1 100 (by kernel_rfl) ?_;refine AU e1 ?_;refine AE e1 ?_;refine AE e1 ?_;refine Af ?_;exact AQ rfl AA.out
 |cons c l=>
  have e1:decide (((sb (c::l)).size:Int)>=((sb [45]).size:Int))=true:=AY (by rw[hsz,hs1];simp only[Bl,GM];omega);have e2:(sb (c::l)).extract 0 ((((sb [45]).size:Nat):Int)).toNat=sb [c]:=by rw[Ec];rfl
  have e3:Bh (sb [c]) (sb [45])=C8 (c::l):=by
   rw[Et,C8,GN,decide_eq_true_iff,Dv];simp
  have h0:(0:Int)<=((sb [45]).size:Int):=by omega
  have h1:((sb [45]).size:Int)<=((sb (c::l)).size:Int):=by rw[hsz,hs1];simp only[Bl,GM];omega
  refine An w1 100 (by kernel_rfl) ?_;refine AU e1 ?_;refine AE (Av e1 e2 e3) ?_;refine AE (Av e1 e2 e3) ?_;refine Af ?_;exact AQ rfl AA.out
theorem cZ (l:List UInt8)(hl:l.length<=1000000000):AK C0 189 [str (sb l),str (sb [45])] (Au (C8 l)):=by
 refine Ak.walk w1 YF rfl λF=>?_
 have c1:=U3 l hl;generalize sb l=s at*;generalize C8 l=b at*;refine fR 0 ?_;refine fR 100 ?_;refine dI c1 ?_;refine Af ?_;exact AQ rfl AA.out
theorem dS (l:List UInt8)(hl:l.length<=1000000000):AK C0 236 [str (sb l),str (sb [45])] (str (sb (Bi l))):=by
 refine Ak.walk w1 Yc rfl λF=>?_
 have c1:=U3 l hl;have hsz:=CX l;unfold Bi;refine sR 0 ?_;refine AC.seq ?_;refine sR 100 ?_;refine cI c1 ?_;rcases hb:C8 l with _|_
 ·rw[AG (by simp)]
  refine AL ?_;refine Am ?_;refine sR 300 ?_;refine Af ?_;exact AQ rfl AA.out
 ·rw[AH rfl]
  have h1:(0:Int)<=((sb [45]).size:Int):=by omega
  have h2:((sb [45]).size:Int)<=((sb l).size:Int):=by
   rw[hsz];show(1:Int)<=_;cases l with
   |nil=>cases hb
   |cons c l=>simp only[Bl];omega
  have e2:(sb l).extract (((sb [45]).size:Nat):Int).toNat (sb l).size=sb (l.drop 1):=by
   rw[Ec,hsz,B4 (Ad _)];rfl
  refine AL ?_;refine sZ 200 ?_;refine AU e2 ?_;refine Af ?_;exact AQ rfl AA.out
theorem Q4 (l:List UInt8)(hl:l.length<=1000000000):AK C0 190 [str (sb l),str (sb [45])] (str (sb (Bi l))):=by
 refine Ak.walk w1 YG rfl λF=>?_
 have c1:=dS l hl;generalize sb l=s at*;generalize sb (Bi l)=t at*;refine fR 0 ?_;refine fR 100 ?_;refine dI c1 ?_;refine Af ?_;exact AQ rfl AA.out
theorem eI (l:List UInt8):AK C0 273 [str (sb l),.prim (.int .u8 47)] (i64 (if BG l<l.length then(BG l:Int)else -1)):=by
 refine Ak.walk w1 Za rfl λF=>?_
 have e1:firstIdx (sb l) (((47:Int)).toNat.toUInt8)=(if BG l<l.length then(BG l:Int)else -1):=by
  rw[Lib.firstIdx_eq];exact ce l
 generalize(if BG l<l.length then(BG l:Int)else -1)=r at*;refine fR 0 ?_;refine AC.seq ?_;refine An w1 100 (by kernel_rfl) ?_;refine AU e1 ?_;refine Af ?_;exact AQ rfl AA.out
theorem jV (l:List UInt8)(hl:l.length<=1000000000):AK C0 234 [str (sb l),str (sb [47])] (i64 (if BG l<l.length then(BG l:Int)else -1)):=by
 refine Ak.walk w1 Ya rfl λF=>?_
 have c1:=eI l;have eS:=Et [47] l;have hr:[47]=l->(if BG l<l.length then(BG l:Int)else -1)=0:=λh=>by subst h;rfl
 generalize(if BG l<l.length then(BG l:Int)else -1)=r at*;have e0:(((sb [47]).size:Int)==0)=false:=rfl;have e1:(((sb [47]).size:Int)==1)=true:=rfl;have hx:(((sb [47]).data.toList.getD ((0:Int)).toNat 0).toNat:Int)=47:=rfl;refine sR 0 ?_;refine sR 100 ?_;refine AC.seq ?_;refine AC.block ?_
 by_cases h:[47]=l
 ·rw[AY h]at eS
  have hr:=hr h;subst hr;refine sZ 200 ?_;refine AU e0 ?_;refine AE (Av e0 kF eS) ?_;refine AE (Av e0 kF eS) ?_;refine AL ?_;refine sR 300 ?_;refine Af ?_;exact AQ rfl AA.out
 ·rw[Ah h]at eS
  refine sZ 200 ?_;refine AU e0 ?_;refine AE (Av e0 kF eS) ?_;refine AE (Av e0 kF eS) ?_;refine AL ?_;refine sZ 400 ?_;refine AU e1 ?_;refine AL ?_;refine sZ 500 ?_;refine AU hx ?_;refine cI c1 ?_;refine Af ?_;exact AQ rfl AA.out
theorem tQ (l:List UInt8)(hl:l.length<=1000000000):AK C0 188 [str (sb l),str (sb [47])] (.tup [str (sb (l.take (BG l))),str (sb (l.drop (BG l+1))),Au (decide (BG l<l.length))]):=by
 refine Ak.walk w1 Y6 rfl λF=>?_
 have c1:=jV l hl;have hsz:=CX l;have hle:=KY l;refine sR 0 ?_
 by_cases h:BG l<l.length
 ·rw[AH h]at c1
  have e1:decide (((BG l:Nat):Int)>=0)=true:=AY (by omega);have e2:(sb l).extract 0 (((BG l:Nat):Int)).toNat=sb (l.take (BG l)):=by rw[Ec];rfl
  have w3:IntKind.i64.wrap (((BG l:Nat):Int)+((sb [47]).size:Int))=((BG l+1:Nat):Int):=by
   show IntKind.i64.wrap (((BG l:Nat):Int)+1)=_;rw[wI (by omega) (by omega)];omega
  have e3:(sb l).extract (((BG l+1:Nat):Int)).toNat (sb l).size=sb (l.drop (BG l+1)):=by
   rw[Ec,hsz,B4 (Ad _)];rfl
  rw[AY h];refine AC.seq ?_;refine sR 100 ?_;refine cI c1 ?_;refine sZ 200 ?_;refine AU e1 ?_;refine AL ?_;refine AC.seq ?_;refine B3 w1 300 [0,1,2,3,4,5,6,7,8,9] [10,11] (by kernel_rfl) ?_;refine AE (Av w3 e2 e3) ?_;refine Af ?_;exact AQ rfl AA.out
 ·rw[AG h]at c1
  have hk:BG l=l.length:=by omega
  have e1:decide (((-1:Int))>=0)=false:=rfl;rw[Ah h,hk,B4 (Ad _),Gt (by omega)];refine AC.seq ?_;refine sR 100 ?_;refine cI c1 ?_;refine sZ 200 ?_;refine AU e1 ?_;refine AL ?_;refine Am ?_;refine sR 400 ?_;refine Af ?_;exact AQ rfl AA.out
theorem Xn (l:List UInt8)(hl:l.length<=1000000000):AK C0 147 [str (sb l),str (sb [47])] (.tup [str (sb (l.take (BG l))),str (sb (l.drop (BG l+1))),Au (decide (BG l<l.length))]):=by
 refine Ak.walk w1 Yp rfl λF=>?_
 have c1:=tQ l hl;generalize sb l=s at*;generalize sb (l.take (BG l))=t at*;generalize sb (l.drop (BG l+1))=u at*;generalize decide (BG l<l.length)=b at*;refine fR 0 ?_;refine fR 100 ?_;refine dI c1 ?_;refine Af ?_;exact AQ rfl AA.out
theorem kh (a b:Nat)(ha:a<=9223372036854775807)(hb:b<=9223372036854775807):AK C0 171 [i64 a,i64 b] (i64 (Nat.gcd a b:Nat)):=by
 refine Ak.walk w1 oE rfl λF=>?_
 refine fR 0 ?_;refine AC.seq ?_;refine AC.block ?_;refine AC.loop (α:=Nat×Nat×Nat) (λp=>⟨[(0,i64 p.1),(1,i64 p.2.1)],[],p.2.2⟩) (λp=>p.2.1) (λp=>Nat.gcd p.1 p.2.1=Nat.gcd a b/\p.1<=9223372036854775807/\p.2.1<=9223372036854775807) (a,b,_) ⟨rfl,ha,hb⟩ AJ ?_;rintro⟨x,y,n⟩ F ⟨h1,h2,h3⟩;dsimp only at h1 h2 h3⊢;refine AC.seq ?_;refine fR 100 ?_;refine AL ?_
 (refine Br (λhy=>?_) (λhy=>?_))<;>(try simp only[Bb,Bq]at hy)<;>(try simp only[hy])
 ·have hy':(y:Int)>0:=by simpa using hy
  refine Am ?_;refine AC.block ?_;refine B3 w1 200 [0,1,2,3,4] [5] (by kernel_rfl) ?_;refine B6 ?_
  have:(x:Int).tmod y=((x%y:Nat):Int):=rfl
  rw[this];refine⟨(y,x%y,_),⟨?_,h3,?_⟩,?_,AJ⟩
  ·rw[<-h1,Mb x y,Nat.gcd_rec y x,Mb]
  ·have:=By x (show y>0 by omega);dsimp only;omega
  ·exact By x (show y>0 by omega)
 ·have hy':y=0:=by simp at hy;omega
  subst hy';refine B5 ?_;refine fR 300 ?_;refine Af ?_;refine AQ ?_ AA.out;rw[<-h1,Nat.gcd_zero_right]
def K7 (least:Nat)(l:List UInt8):List UInt8:=List.replicate (least-l.length) 48++l
def Eb (least m:Nat)(s:List UInt8):List UInt8:=K7 least (if m=0 then s else Lib.decDigits m++s)
theorem US (least m:Nat)(s:List UInt8)(h:0<m\/s.length<least):Eb least (m/10) (UInt8.ofNat (48+m%10)::s)=Eb least m s:=by
 unfold Eb
 by_cases h0:m=0
 ·subst h0
  have hl:s.length<least:=h.resolve_left (by omega);rw[AH (by omega),AH rfl];unfold K7;obtain⟨k,hk⟩:∃k,least-s.length=k+1:=⟨least-s.length-1,by omega⟩
  rw[hk,show least-(UInt8.ofNat (48+0%10)::s).length=k from by simp;omega,List.replicate_succ'];simp
 ·rw[AG h0]
  by_cases h1:m<10
  ·rw[AH (by omega)]
   have:Lib.decDigits m=[UInt8.ofNat (48+m)]:=by unfold Lib.decDigits;rw[dif_pos h1]
   rw[this,show m%10=m from by omega];rfl
  ·rw[AG (by omega)]
   have:Lib.decDigits m=Lib.decDigits (m/10)++[UInt8.ofNat (48+m%10)]:=by rw[Lib.decDigits];rw[dif_neg h1]
   rw[this,Dm];rfl
theorem jH (k:Nat)(hk:k<10):(⟨#[48,49,50,51,52,53,54,55,56,57]⟩:ByteArray).extract k (k+1)=⟨([UInt8.ofNat (48+k)]:List UInt8).toArray⟩:=by
 match k,hk with
 | 0,_=>rfl
 | 1,_=>rfl
 | 2,_=>rfl
 | 3,_=>rfl
 | 4,_=>rfl
 | 5,_=>rfl
 | 6,_=>rfl
 | 7,_=>rfl
 | 8,_=>rfl
 | 9,_=>rfl
theorem Oh (a least:Nat)(ha:a+least<=9223372036854775807):AK C0 172 [i64 a,i64 least] (str ⟨(Eb least a []).toArray⟩):=by
 refine Ak.walk w1 oF rfl λF=>?_
 refine fR 0 ?_;refine fR 100 ?_;refine AC.seq ?_;refine AC.block ?_;refine AC.loop (α:=Nat×List UInt8×Nat) (λp=>⟨[(0,i64 p.1),(1,i64 least),(5,str ⟨p.2.1.toArray⟩)],[],p.2.2⟩) (λp=>p.1+(least-p.2.1.length))
  (λp=>Eb least p.1 p.2.1=Eb least a []/\p.1+p.2.1.length<=a+least) (a,[],_) ⟨rfl,by simp⟩ AJ ?_
 rintro⟨m,s,n⟩ F ⟨h1,h2⟩;dsimp only at h1 h2⊢;have hsz:=NL s;refine AC.seq ?_;refine Db ⟨[(0,i64 m),(1,i64 least),(5,str ⟨s.toArray⟩),(13,Au (decide ((m:Int)>0)||decide ((s.length:Int)<least)))],[],n+30⟩ (An w1 200 (by kernel_rfl) ?_) ?_
 ·repeat'(first|(refine And.intro (by exact Bz) ?_;refine At ?_)|((refine Br (λhb=>?_) (λhb=>?_))<;>(try simp only[Bb,Bq]at hb)<;>(try simp only[hb])<;>(refine At ?_)))
  all_goals exact AJ
 refine AL ?_
 (refine Br (λhc=>?_) (λhc=>?_))<;>(try simp only[Bb,Bq]at hc)<;>(try simp only[hc])
 ·have hc:0<m\/s.length<least:=by
   simp at hc;omega
  refine Am ?_;refine AC.block ?_;refine AC.seq ?_;have hm:(m:Int).tmod 10=((m%10:Nat):Int):=rfl;have e2:IntKind.i64.wrap (((m%10:Nat):Int)+1)=((m%10+1:Nat):Int):=wI (by omega) (by omega);have hd:=jH (m%10) (by omega);have hs1:(⟨([UInt8.ofNat (48+m%10)]:List UInt8).toArray⟩:ByteArray).size=1:=rfl;have hlen:s.length+1<=9223372036854775807:=by omega
  have hs10:(⟨#[48,49,50,51,52,53,54,55,56,57]⟩:ByteArray).size=10:=rfl;refine An w1 300 (by kernel_rfl) ?_;refine JK (Bk hm e2 kN hd) ?_;refine fI 400 ?_;have hm4:(m:Int).tdiv 10=((m/10:Nat):Int):=rfl;have hm5:m/10<=9223372036854775807:=by omega
  rw[hm4,wN hm5,IJ,ES,Fy];refine⟨(m/10,UInt8.ofNat (48+m%10)::s,_),⟨(US least m s hc).trans h1,?_⟩,?_,AJ⟩
  ·simp only[Bl];omega
  ·simp only[Bl];omega
 ·have hc:m=0/\least<=s.length:=by
   simp at hc;omega
  obtain⟨rfl,hl⟩:=hc;refine B5 ?_;refine fR 500 ?_;refine Af ?_;refine AQ ?_ AA.out;rw[<-h1];unfold Eb K7;rw[AH rfl,Nat.sub_eq_zero_of_le hl];rfl
theorem W2 (a:Nat):Eb 1 a []=Lib.decDigits a:=by
 unfold Eb K7
 by_cases h:a=0
 ·subst h
  have:Lib.decDigits 0=[48]:=by unfold Lib.decDigits;rw[dif_pos (by decide)];rfl
  rw[AH rfl,this];rfl
 ·rw[AG h,DE]
  have:(Lib.decDigits a).length≠0:=by
   unfold Lib.decDigits;split<;>simp
  rw[show 1-(Lib.decDigits a).length=0 from by omega];rfl
def Dg (K g sz:Nat):List D->D
 | []=>CD
 |_::l=>.osl K g sz 0 (l.length+1)
def DZ (K g T sz:Nat):List D->Hp
 | []=>[]
 |x::l=>[⟨K,g,T,sz,x::l⟩]
theorem IE (K g sz:Nat):Dg K g sz []=CD:=rfl
theorem G1 (K g sz:Nat)(x:D)(l:List D):Dg K g sz (x::l)=.osl K g sz 0 (l.length+1):=rfl
theorem IF (K g T sz:Nat):DZ K g T sz []=[]:=rfl
theorem G3 (K g T sz:Nat)(x:D)(l:List D):DZ K g T sz (x::l)=[⟨K,g,T,sz,x::l⟩]:=rfl
theorem Mw (K g sz:Nat)(x y:D)(l:List D):Dg K g sz (x::l++[y])=.osl K g sz 0 (l.length+1+1):=by simp[Dg]
theorem Pt (K g T sz:Nat)(l:List D):Fz (DZ K g T sz l) [] (Dg K g sz l) (.sl false sz l):=by
 cases l with
 |nil=>exact .nil sz
 |cons x l=>
  refine .osl (e:=⟨K,g,T,sz,x::l⟩) (by simp[DZ,Hp.get]) rfl rfl rfl (by simp) (by simp) (λj d d' h1 h2=>?_) λj d d' q c c' h1 h2 h3 h4=>?_
  ·rw[BR]at h1;rw[h1]at h2;cases h2;rfl
  ·rw[BR]at h1;rw[h1]at h2;cases h2;rw[h3]at h4;cases h4;exact Fz.refl _
def spot (a b c d:Nat):D:=.agg [i64 (a/Nat.gcd a b:Nat),CD,i64 (b/Nat.gcd a b:Nat),CD,i64 (c/Nat.gcd c d:Nat),CD,i64 (d/Nat.gcd c d:Nat),CD]
instance  (a b c d:Nat):Al (spot a b c d):=by unfold spot;exact AI
instance  {α:Type}(f:α->List D)(l:List α)[h:∀x,BW (f x)]:BW (l.flatMap f):=⟨λe he=>by
 obtain⟨x,_,hx⟩:=List.mem_flatMap.1 he;exact(h x).out e hx⟩
theorem Gb {H Hf:Hp}{a a' b b':D}(h1:Fz H Hf a a')(h2:Fz H Hf b b'):Fz H Hf (.tup [a,b]) (.tup [a',b']):=.tup rfl λi d d' hd hd'=>by
 match i with
 | 0=>simp at hd hd';subst hd;subst hd';exact h1
 | 1=>simp at hd hd';subst hd;subst hd';exact h2
 |n+2=>simp at hd
set_option allowUnsafeReducibility true in
attribute [local irreducible] Bh
inductive Kd where
 |line|zig|grid|quin
def Kd.most:Kd->Int
 | .line | .zig=>64
 | .grid=>8
 | .quin=>5
end Go.Ide
