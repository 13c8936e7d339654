/- The layer of own lemmas and contracts, part 7. -/
import Derived.Test.YtaoojbnciofmcabGreatDoorR5
import Derived.Test.YtaoojbnciofmcabGreatDoorR3
import Derived.Test.YtaoojbnciofmcabGreatDoorR6
import Derived.Lib.AppendIntMem
import Derived.Lib.SmallJoins
import Derived.Shelf.Spec.BitsCarry
import Derived.Laws.StandIn
import Derived.Lib.Bytealg
set_option linter.unusedVariables false
set_option linter.unusedSimpArgs false
namespace Go.Ide
open Go Go.Ide Go.Proofs Go.RowKit
set_option maxRecDepth 100000
def G0 (w:World):Prop:=Lib.TabIs Tryz.prog w "internal/strconv.uint64pow10" .u64 Lib.pow10Tab
theorem oa:Tryz.prog.globalNamed "internal/strconv.uint64pow10" = some 3:=by kernel_rfl
theorem n9 {w w':World}(h:G0 w)(b:Below (3+1) w w'):G0 w':=by
 unfold G0 Lib.TabIs World.var? at h⊢;rw[oa]at h⊢;simp only[Option.bind_some]at h⊢;rw[b.block _ (by decide)];exact h
noncomputable def C0:BA:={P:=Tryz.prog,G:=G0,nG:=3+1,hG:=λ_ _=>n9}
theorem iM {ρ:Lk}{O:Nat->Prop}{w:World}{a b c:Value}{vs:Array Value}(hn:vs.size=3)(h:∀(i:Nat) (x:D),[D.prim a,.prim b,.prim c][i]?=some x->AW ρ O w x (vs.getD i undef)):vs = #[a,b,c]:=by
 match vs,hn with
 |⟨[u,v,x]⟩,_=>
  have h0:=h 0 _ rfl;have h1:=h 1 _ rfl;have h2:=h 2 _ rfl;simp at h0 h1 h2;cases h0;cases h1;cases h2;rfl
theorem lK (x y c:Nat)(hc:c<=1):LJ C0 214 [.prim (.int .u64 x),.prim (.int .u64 y),.prim (.int .u64 c)]
  (.tup [.prim (.int .u64 (((x+y+c)%18446744073709551616:Nat):Int)),.prim (.int .u64 (((x+y+c)/18446744073709551616:Nat):Int))]):=λρ O w vs hn h=>by
 have:=iM hn h
 subst this;refine⟨.tuple #[.int .u64 (((x+y+c)%18446744073709551616:Nat):Int),.int .u64 (((x+y+c)/18446744073709551616:Nat):Int)],?_,.tup rfl λi d hd=>?_⟩
 ·show(callFunc 214 _).run Tryz.prog w=_
  rw[run_callFunc_extern Tryz.func214 (by kernel_rfl) (by kernel_rfl) (by kernel_rfl) (e:=add64Entry) (by kernel_rfl),run_add64 x y c (by omega) (by omega) (by omega) (by omega)];simp only[Result.andThen]
  congr 5<;>omega
 ·match i with
  | 0=>simp at hd;subst hd;exact .prim _
  | 1=>simp at hd;subst hd;exact .prim _
  |n+2=>simp at hd
theorem d8t {ρ:Lk}{O:Nat->Prop}{w:World}{a b:Value}{vs:Array Value}(hn:vs.size=2)(h:∀(i:Nat) (x:D),[D.prim a,.prim b][i]?=some x->AW ρ O w x (vs.getD i undef)):vs = #[a,b]:=by
 match vs,hn with
 |⟨[u,v]⟩,_=>
  have h0:=h 0 _ rfl;have h1:=h 1 _ rfl;simp at h0 h1;cases h0;cases h1;rfl
theorem je (s:ByteArray)(c:Int):LJ C0 273 [.prim (.string s),.prim (.int .u8 c)] (.prim (.int .i64 (firstIdx s c.toNat.toUInt8))):=λρ O w vs hn h=>by
 have:=d8t hn h
 subst this;refine⟨_,?_,.prim _⟩;show(callFunc 273 _).run Tryz.prog w=_;rw[run_callFunc_indexByte Tryz.func273 (by kernel_rfl) (by kernel_rfl) (by kernel_rfl) (by kernel_rfl),run_indexByte_string];rfl
theorem nH (x y b:Nat)(hb:b<=1):LJ C0 215 [.prim (.int .u64 x),.prim (.int .u64 y),.prim (.int .u64 b)]
  (.tup [.prim (.int .u64 (((x+18446744073709551616-y-b)%18446744073709551616:Nat):Int)),.prim (.int .u64 ((if x<y+b then 1 else 0:Nat):Int))]):=λρ O w vs hn h=>by
 have:=iM hn h
 subst this;refine⟨.tuple #[.int .u64 (((x+18446744073709551616-y-b)%18446744073709551616:Nat):Int),.int .u64 ((if x<y+b then 1 else 0:Nat):Int)],?_,.tup rfl λi d hd=>?_⟩
 ·show(callFunc 215 _).run Tryz.prog w=_
  rw[run_callFunc_extern Tryz.func215 (by kernel_rfl) (by kernel_rfl) (by kernel_rfl) (e:=sub64Entry) (by kernel_rfl),run_sub64 x y b hb];rfl
 ·match i with
  | 0=>simp at hd;subst hd;exact .prim _
  | 1=>simp at hd;subst hd;exact .prim _
  |n+2=>simp at hd
theorem RS {O:Nat->Prop}{w:World}{v:Value}{vs:Array Value}(hn:vs.size=1)(h:∀(i:Nat) (x:D),[D.prim v][i]?=some x->AW nol O w x (vs.getD i undef)):vs = #[v]:=by
 match vs,hn with
 |⟨[u]⟩,_=>
  have h0:=h 0 _ rfl;simp at h0;cases h0;rfl
theorem rX (n:Int)(h0 : -9223372036854775808<=n)(h1:n<=9223372036854775807):AL C0 144 [i64 n] (str ⟨(Lib.itoa n).toArray⟩):=by
 refine⟨⟨_,_,Tryz.func144,rfl,by kernel_rfl⟩,λY w vs hG hnG hX hvs hr=>?_⟩
 have:=RS hvs hr
 subst this;refine(Tryz.strconv_Itoa n h0 h1 w hG).mono ?_;rintro e w' ⟨rfl,k,os,rfl⟩;exact⟨_,_,rfl,Lib.below_grow _ _ (Ar _) _ _,rfl,.prim _⟩
theorem qX (s:ByteArray)(n:Int)(hl:s.size<=18)(h:Lib.atoi s.data.toList=some n):AL C0 163 [str s] (.tup [i64 n,.prim .nilIface]):=by
 refine⟨⟨_,_,Tryz.func163,rfl,by kernel_rfl⟩,λY w vs hG hnG hX hvs hr=>?_⟩
 have:=RS hvs hr
 subst this;refine(Tryz.strconv_Atoi s n hl h w).mono ?_;rintro e w' ⟨rfl,t,rfl⟩;exact⟨_,_,rfl,Joins.below_bytesWorld _ _ _ _ (Ar _),rfl,.tup rfl λi d hd=>by
  match i with
  | 0=>simp at hd;subst hd;exact .prim _
  | 1=>simp at hd;subst hd;exact .prim _
  |n+2=>simp at hd⟩
def Ly (f:Nat)(ds:List D):Option D:=match Nat.beq f 214 with
 |true=>match ds with
  | [.prim (.int .u64 (.ofNat a)),.prim (.int .u64 (.ofNat b)),.prim (.int .u64 (.ofNat c))]=>match Nat.ble c 1 with
   |true=>some (.tup [.prim (.int .u64 (((a+b+c)%18446744073709551616:Nat):Int)),.prim (.int .u64 (((a+b+c)/18446744073709551616:Nat):Int))])
   |false=>none
  |_=>none
 |false=>match Nat.beq f 215 with
  |true=>match ds with
   | [.prim (.int .u64 (.ofNat a)),.prim (.int .u64 (.ofNat b)),.prim (.int .u64 (.ofNat c))]=>match Nat.ble c 1 with
    |true=>some (.tup [.prim (.int .u64 (((a+18446744073709551616-b-c)%18446744073709551616:Nat):Int)),.prim (.int .u64 ((if a<b+c then 1 else 0:Nat):Int))])
    |false=>none
   |_=>none
  |false=>match Nat.beq f 273 with
   |true=>match ds with
    | [.prim (.string s),.prim (.int .u8 c)]=>some (.prim (.int .i64 (firstIdx s c.toNat.toUInt8)))
    |_=>none
   |false=>none
theorem Rz (f:Nat)(ds:List D)(d:D)(h:Ly f ds=some d):LJ C0 f ds d:=by
 unfold Ly at h;split at h
 ·rename_i hf
  obtain rfl:=CC hf;split at h<;>try(cases h;done)
  split at h<;>try(cases h;done)
  rename_i hc;cases h;exact lK _ _ _ (Dm hc)
 ·split at h
  ·rename_i hf
   obtain rfl:=CC hf;split at h<;>try(cases h;done)
   split at h<;>try(cases h;done)
   rename_i hc;cases h;exact nH _ _ _ (Dm hc)
  ·split at h
   ·rename_i hf
    obtain rfl:=CC hf;split at h<;>try(cases h;done)
    cases h;exact je _ _
   ·cases h
noncomputable def X1:EV:=⟨Qj.get,NK.get,Ol.get,λ_=>false,λ_ _=>none,λ_ _=>none,Ly⟩
theorem Dx:Fk C0 X1:=⟨j0,S5,Ky,λ_ _ _ h=>by simp[X1]at h,by kernel_rfl,λ_ _ _ h=>by simp[X1]at h,Rz⟩
theorem w1:Dg C0 X1:=Dx.w
theorem As {B:Ad}{rd:Option Nat}{F:Ad}{ops:Array Oper}{s:St}{Q:Exit->Ad->St->Prop}{i:Nat}(kb:Nat)(h:C7 C0 X1 kb ops (List.range ops.size) s True λacc s=>acc/\Q .normal F s)(hnd:Eo ops.toList=true:=by kernel_rfl):AC C0 B rd F (.region i ops false) s Q:=Kn w1 kb hnd h
theorem CN {B:Ad}{rd:Option Nat}{F:Ad}{ops:Array Oper}{s:St}{Q:Exit->Ad->St->Prop}{i:Nat}(kb:Nat)(pre suf:List Nat)(h:Em C0 X1 kb ops s.H s.n pre s.env [] True λacc env N=>C7 C0 X1 kb ops suf ⟨env,N++s.H,s.n+Fj ops.toList⟩ acc λacc s=>acc/\Q .normal F s)(hc:(HZ ops pre suf&&Eo ops.toList)=true:=by kernel_rfl):AC C0 B rd F (.region i ops true) s Q:=jI w1 kb pre suf hc h
theorem Ca {C:BA}{X:EV}(hX:Fk C X)(n k:Nat){f:Nat}{ds:List D}{d:D}(h:(Gr X n k).1 f ds=some d:=by kernel_rfl):AL C f ds d:=QP hX n k h
theorem wI {z:Int}(h1 : -9223372036854775808<=z:=by omega)(h2:z<=9223372036854775807:=by omega):IntKind.i64.wrap z=z:=by
 have e1:(2:Int)^IntKind.i64.bits=18446744073709551616:=rfl;have e2:(2:Int)^(IntKind.i64.bits-1)=9223372036854775808:=rfl;unfold IntKind.wrap;simp only[e1,e2];have e3:IntKind.i64.signed=true:=rfl;rw[e3];simp only[Gl,HJ];split<;>omega
theorem wN {n:Nat}(h:n<=9223372036854775807):IntKind.i64.wrap (n:Int)=n:=wI
set_option maxRecDepth 20000
theorem P0 (n:Int):AL C0 126 [i64 n] (DL n):=by
 refine Af.walk w1 dG rfl λF=>?_
 refine fR 0 ?_;refine fR 100 ?_;refine Aj ?_;exact AM rfl (AA.out (d:=DL n))
theorem NL:∀(k u:Nat),u<10^(k+1)->(Lib.decDigits u).length<=k+1
 | 0,u,h=>by
  unfold Lib.decDigits;rw[dif_pos (by simpa using h)];simp
 |k+1,u,h=>by
  unfold Lib.decDigits;split
  ·simp
  ·rw[Be]
   have:=NL k (u/10) (by
    rw[CZ]at h;omega)
   simp only[Bu,Hm];omega
theorem Jm (a b:List UInt8):(⟨a.toArray⟩:ByteArray)++⟨b.toArray⟩=⟨(a++b).toArray⟩:=by
 apply ByteArray.ext;simp[ByteArray.data_append]
theorem PS (l:List UInt8):(⟨l.toArray⟩:ByteArray).size=l.length:=by simp[ByteArray.size]
def Sm (z:Int):Prop:=-9223372036854775808<z/\z<9223372036854775808
theorem wS {z:Int}(h:Sm z):IntKind.i64.wrap z=z:=wI (by have:=h.1;omega) (by have:=h.2;omega)
theorem gV {z:Int}(h:Sm z):(z != -9223372036854775808)=true:=by
 have:=h.1
 simp only[bne_iff_ne,ne_eq];omega
theorem wU {z:Int}(h1:0<=z:=by omega)(h2:z<18446744073709551616:=by omega):IntKind.u64.wrap z=z:=by
 have e1:(2:Int)^IntKind.u64.bits=18446744073709551616:=rfl;unfold IntKind.wrap;simp only[e1];have e3:IntKind.u64.signed=false:=rfl;rw[e3];simp only[Hk,Fs,if_false];omega
theorem sY (z:Int)(h:Sm z):AL C0 170 [i64 z] (u64 (z.natAbs:Nat)):=by
 refine Af.walk w1 bc rfl λF=>?_
 obtain⟨h1,h2⟩:=h;refine fR 0 ?_;refine AC.seq ?_;refine fR 100 ?_;refine AO ?_
 (refine B1 (λh4=>?_) (λh4=>?_))<;>(try simp only[Bq,B0]at h4)<;>(try simp only[h4])
 ·have hz:z<0:=by simpa using h4
  have e1:IntKind.i64.wrap (0-z)=(z.natAbs:Nat):=by rw[wI];omega
  have e2:IntKind.u64.wrap ((z.natAbs:Nat):Int)=(z.natAbs:Nat):=wU;refine sZ 200 ?_;refine K0 (Aa e1 e2) ?_;refine Aj ?_;exact AM rfl AA.out
 ·have hz:¬z<0:=by simpa using h4
  have e2:IntKind.u64.wrap z=(z.natAbs:Nat):=by rw[wU];omega
  refine An ?_;refine sZ 300 ?_;refine K0 e2 ?_;refine Aj ?_;exact AM rfl AA.out
theorem xR (z:Int)(h:Sm z):AL C0 165 [DL z] (DL (-z)):=by
 refine Af.walk w1 Vg rfl λF=>?_
 refine fR 0 ?_;refine AC.seq ?_;refine sZ 100 ?_
 repeat'(first|(refine BM (by exact CD) ?_;refine BO ?_)|((refine B1 (λhb=>?_) (λhb=>?_))<;>(try simp only[Bq,B0]at hb)<;>(try simp only[hb])<;>(refine BO ?_)))
 rw[gV h];refine AO ?_;have e1:IntKind.i64.wrap (0-z) = -z:=by
  have:=h.1;have:=h.2
  rw[wI];omega
 refine sZ 200 ?_;refine K0 e1 ?_;refine Aj ?_;exact AM rfl AA.out
theorem PL (x y:Nat)(hx:x<18446744073709551616)(hy:y<18446744073709551616):AL C0 169 [u64 x,u64 y] (.tup [u64 (x*y/18446744073709551616:Nat),u64 (x*y%18446744073709551616:Nat)]):=by
 refine⟨⟨_,_,Tryz.func169,rfl,by kernel_rfl⟩,λY w vs hG hnG hX hvs hr=>?_⟩;obtain⟨v1,v2,rfl⟩:∃a b,vs = #[a,b]:=by
  match vs,hvs with
  |⟨[a,b]⟩,_=>exact⟨a,b,rfl⟩
 have h0:=hr 0 _ rfl;have h1:=hr 1 _ rfl;simp at h0 h1;cases h0;cases h1;refine(Tryz.bits_Mul64 x y hx hy w).mono ?_;rintro e w' ⟨rfl,rfl⟩;exact⟨_,_,rfl,.refl _ _,rfl,.tup rfl λi d hd=>by
  match i with
  | 0=>simp at hd;subst hd;exact .prim _
  | 1=>simp at hd;subst hd;exact .prim _
  |n+2=>simp at hd⟩
theorem sf {a b:Int}(hb:0<b):(a.tmod b<0->a.tdiv b-1=a/b/\a.tmod b+b=a%b)/\(¬a.tmod b<0->a.tdiv b=a/b/\a.tmod b=a%b):=by
 have h1:=Int.mul_tdiv_add_tmod a b;have h2:=Int.tmod_lt_of_pos a hb;have h3:=Int.lt_tmod_of_pos a hb;constructor
 ·intro h
  have:=(Int.ediv_emod_unique (a:=a) (r:=a.tmod b+b) (q:=a.tdiv b-1) hb).2 ⟨by rw[Int.mul_sub,Int.mul_one];omega,by omega,by omega⟩
  exact⟨this.1.symm,this.2.symm⟩
 ·intro h
  have:=(Int.ediv_emod_unique (a:=a) (r:=a.tmod b) (q:=a.tdiv b) hb).2 ⟨by omega,by omega,by omega⟩
  exact⟨this.1.symm,this.2.symm⟩
theorem ax {a b:Int}(ha:Sm a):Sm (a.tdiv b):=by
 have h:(a.tdiv b).natAbs<=a.natAbs:=by rw[Int.natAbs_tdiv];exact Gn _ _
 have:=ha.1;have:=ha.2
 exact⟨by omega,by omega⟩
theorem mG (a b:Int)(hb0:0<b)(ha:Sm a)(hb:Sm b):AL C0 213 [DL a,DL b] (.tup [DL (a/b),DL (a%b)]):=by
 refine Af.walk w1 Vh rfl λF=>?_
 obtain⟨t1,t2⟩:=sf (a:=a) hb0;have h2:=Int.tmod_lt_of_pos a hb0;have h3:=Int.lt_tmod_of_pos a hb0;have q1:=wS (ax (b:=b) ha);have q2:IntKind.i64.wrap (a.tmod b)=a.tmod b:=wI (by have:=hb.2;omega) (by have:=hb.2;omega);have q0:=ax (b:=b) ha;refine fR 0 ?_;refine AC.seq ?_;refine sZ 100 ?_
 repeat'(first|(refine BM (by exact CD) ?_;refine BO ?_)|((refine B1 (λhb=>?_) (λhb=>?_))<;>(try simp only[Bq,B0]at hb)<;>(try simp only[hb])<;>(refine BO ?_)))
 rw[gV ha];refine AO ?_;refine AC.seq ?_;refine CN 200 [0,1,2,3,4,5,6,7,8,9,10] [11] ?_;refine BM (by(refine BO ?_);(try simp only[q1,q2]);all_goals exact CD) ?_;refine BO ?_
 try simp only[q1,q2]
 refine AC.seq ?_;refine fR 300 ?_;refine AO ?_
 (refine B1 (λh40=>?_) (λh40=>?_))<;>(try simp only[Bq,B0]at h40)<;>(try simp only[h40])
 ·obtain⟨e1,e2⟩:=t1 (by simpa using h40)
  have q3:IntKind.i64.wrap (a.tdiv b-1)=a/b:=by rw[wI (by have:=q0.1;omega) (by have:=q0.2;omega)];exact e1
  have q4:IntKind.i64.wrap (a.tmod b+b)=a%b:=by rw[wI (by have:=hb.2;omega) (by have:=hb.2;omega)];exact e2
  refine CN 400 [0,1,2,3,4,5,6] [7] ?_;refine BM (by(refine BO ?_);(try simp only[q3,q4]);all_goals exact CD) ?_;refine BO ?_
  try simp only[q3,q4]
  refine fR 500 ?_;refine Aj ?_;exact AM rfl AA.out
 ·obtain⟨e1,e2⟩:=t2 (by simpa using h40)
  refine An ?_;refine AC.seq ?_;rw[e1,e2];refine fI 500 ?_;refine Aj ?_;exact AM rfl AA.out
structure Q2 where
 n:Int
 d:Int
theorem qA (z:Int):AL C0 122 [DL z] (NJ z 1):=by
 refine Af.walk w1 Vd rfl λF=>?_
 refine fR 0 ?_;refine AC.seq ?_;refine CN 100 [0,1] [2,3] ?_;refine CH ?_;refine Bf.same _ (P0 1) AJ ?_;refine CH ?_;refine Aj ?_;exact AM rfl AA.out
theorem d9y (z:Int):AL C0 93 [i64 z] (NJ z 1):=by
 refine Af.walk w1 iF rfl λF=>?_
 refine fR 0 ?_;refine fR 100 ?_;refine dI (P0 z) ?_;refine dI (qA z) ?_;refine Aj ?_;exact AM rfl AA.out
def EQ (a b:Int):Int:=if a<b then -1 else if b<a then 1 else 0
theorem rS (a b:Int):AL C0 240 [DL a,DL b] (i64 (EQ a b)):=by
 refine Af.walk w1 Vj rfl λF=>?_
 unfold EQ;refine fR 0 ?_;refine AC.seq ?_;refine sZ 100 ?_
 repeat'(first|(refine BM (by exact CD) ?_;refine BO ?_)|((refine B1 (λhb=>?_) (λhb=>?_))<;>(try simp only[Bq,B0]at hb)<;>(try simp only[hb])<;>(refine BO ?_)))
 refine AO ?_;refine AC.seq ?_;refine AC.block ?_;refine fR 200 ?_;refine AO ?_
 (refine B1 (λh13=>?_) (λh13=>?_))<;>(try simp only[Bq,B0]at h13)<;>(try simp only[h13])
 ·have h1:a<b:=by simpa using h13
  rw[AI h1];refine fR 300 ?_;refine Aj ?_;exact AM rfl AA.out
 ·have h1:¬a<b:=by simpa using h13
  rw[AH h1];refine fR 400 ?_;refine AO ?_
  (refine B1 (λh19=>?_) (λh19=>?_))<;>(try simp only[Bq,B0]at h19)<;>(try simp only[h19])
  ·have h2:b<a:=by simpa using h19
   rw[AI h2];refine fR 500 ?_;refine Aj ?_;exact AM rfl AA.out
  ·have h2:¬b<a:=by simpa using h19
   rw[AH h2];refine An ?_;refine fR 600 ?_;refine Aj ?_;exact AM rfl AA.out
theorem bO {n k:Nat}(h:Nat.blt n k=true):n<k:=by rw[Nat.blt_eq]at h;exact h
def smB:Int->Bool
 | .ofNat n=>Nat.blt n 9223372036854775808
 | .negSucc n=>Nat.blt n 9223372036854775807
theorem xa {z:Int}(h:smB z=true):Sm z:=by
 cases z with
 |ofNat n=>have:=bO h;exact⟨by rw[Int.ofNat_eq_natCast];omega,by rw[Int.ofNat_eq_natCast];omega⟩
 |negSucc n=>have:=bO h;exact⟨by omega,by omega⟩
abbrev XC (x y:Q2):D:=.agg [i64 x.n,CK,i64 x.d,CK,i64 y.n,CK,i64 y.d,CK]
instance  (a b:Q2):AS (XC a b):=AJ
abbrev BB:Nat:=18446744073709551616
def Ah (n:Nat):List Nat:=if _h:n=0 then[]else(n%BB)::Ah (n/BB)
termination_by n
decreasing_by exact Ir (EX _h) (by decide)
def AU:List Nat->Nat
 | []=>0
 |a::l=>a+BB*AU l
def Wd (l:List Nat):Prop:=∀a∈l,a<BB
theorem Gd:Ah 0=[]:=by unfold Ah;rfl
theorem Gy {n:Nat}(h:n≠0):Ah n=(n%BB)::Ah (n/BB):=by rw[Ah,dif_neg h]
theorem F3 (n:Nat):Wd (Ah n):=by
 induction n using Nat.strongRecOn with
 |ind n ih=>
  by_cases h:n=0
  ·subst h;rw[Gd];intro a ha;cases ha
  ·rw[Gy h]
   intro a ha;rcases A8.1 ha with rfl|ha
   ·exact B7 _ (by decide)
   ·exact ih _ (Ir (EX h) (by decide)) a ha
theorem FY (n:Nat):AU (Ah n)=n:=by
 induction n using Nat.strongRecOn with
 |ind n ih=>
  by_cases h:n=0
  ·subst h;rw[Gd];rfl
  ·rw[Gy h,AU,ih _ (Ir (EX h) (by decide))]
   exact FU n BB
theorem LB (l m:List Nat):AU (l++m)=AU l+BB^l.length*AU m:=by
 induction l with
 |nil=>simp[AU]
 |cons a l ih=>
  simp only[EU,AU,ih,Bu,CZ,BQ];rw[Ba (BB^l.length) BB,B4,FD]
theorem Wd.tail {a:Nat}{l:List Nat}(h:Wd (a::l)):Wd l:=λb hb=>h b (CL _ hb)
theorem Wd.head {a:Nat}{l:List Nat}(h:Wd (a::l)):a<BB:=h a CF
theorem Wd.append {l m:List Nat}(h:Wd l)(k:Wd m):Wd (l++m):=λa ha=>(Bp.1 ha).elim (h a) (k a)
theorem Wd.take {l:List Nat}(h:Wd l)(n:Nat):Wd (l.take n):=λa ha=>h a (GJ ha)
theorem IU:∀ {l:List Nat},Wd l->AU l<BB^l.length
 | [],_=>by simp[AU]
 |a::l,h=>by
  have h1:=IU h.tail;have h2:=h.head;rw[AU,Bu,CZ]
  calc a+BB*AU l<BB+BB*AU l:=by omega
   _=BB*(AU l+1):=by rw[BQ,Ej,L4]
   _<=BB*BB^l.length:=Cy _ h1
   _=_:=Ba _ _
theorem Yy:∀ {l:List Nat},Wd l->(∀a∈l.getLast?,a≠0)->Ah (AU l)=l
 | [],_,_=>Gd
 | [a],h,hl=>by
  have ha:a≠0:=hl a (by simp);have hb:=h.head;rw[show AU [a]=a from by simp[AU],Gy ha,Ft hb,IL hb,Gd]
 |a::b::l,h,hl=>by
  have ih:=Yy h.tail (λx hx=>hl x (by simpa using hx));have hb:=h.head;have hv:AU (b::l)≠0:=by
   intro h0;rw[h0,Gd]at ih;cases ih
  have e1:AU (a::b::l)%BB=a:=by rw[AU,TP,Ft hb]
  have e2:AU (a::b::l)/BB=AU (b::l):=by
   rw[AU,TW _ _ (by decide),IL hb,BV]
  have hne:AU (a::b::l)≠0:=by
   intro h0;rw[h0]at e2;exact hv (by rw[<-e2];rfl)
  rw[Gy hne,e1,e2,ih]
theorem Q1:∀(k:Nat),AU (List.replicate k 0)=0
 | 0=>rfl
 |k+1=>by rw[List.replicate_succ,AU,Q1 k,FE]
theorem YC {l:List Nat}(h:Wd l)(n:Nat)(hz:∀j,n<=j->∀a,l[j]?=some a->a=0)(hn:n<=l.length)(hl:∀m,n=m+1->∀a,l[m]?=some a->a≠0):l.take n=Ah (AU l):=by
 have hd:l.drop n=List.replicate (l.length-n) 0:=by
  refine Qf λi=>?_
  rw[HI,List.getElem?_replicate];split
  ·rename_i hi
   rw[Ce]
   congr 1
   exact hz _ (Nat.le_add_right _ _) _ (Ce)
  ·exact D6 (by omega)
 have hv:AU l=AU (l.take n):=by
  conv=>lhs;rw[<-Fq n l]
  rw[LB,hd,Q1,FE,Dv]
 rw[hv];refine(Yy (h.take n) λa ha=>?_).symm
 match n,hl,hn with
 | 0,_,_=>simp at ha
 |m+1,hl,hn=>
  refine hl m rfl a ?_;rw[List.getLast?_eq_getElem?,Bc,Fp hn,FT,DQ]at ha;simpa using ha
abbrev AT (n:Nat):D:=u64 (n:Int)
def wL (l:List Nat):D:=.sl false 1 (l.map AT)
def wD (n:Nat):D:=wL (Ah n)
theorem LU (l:List Nat):CE (wL l):=.sl λe he d hd=>by
 obtain⟨a,_,rfl⟩:=Bx.1 he;simp only[D.cells,A8,Dq,or_false]at hd;subst hd;exact .prim _
instance  (l:List Nat):AA (wL l):=⟨LU l⟩
instance  (n:Nat):AA (wD n):=⟨LU _⟩
theorem Dt {l:List Nat}{i a:Nat}(h:l[i]?=some a):(l.map AT)[i]?=some (AT a):=by rw[Ay,h];rfl
theorem trim_ok (l:List Nat)(h:Wd l)(hlen:l.length<4000000000):AL C0 194 [wL l] (wD (AU l)):=by
 refine Af.walk w1 bt rfl λF=>?_
 unfold wL;refine sR 0 ?_;refine sR 100 ?_;refine AC.seq ?_;refine AC.block ?_;have hml:((l.map AT).length:Int)=(l.length:Int):=by rw[Ab]
 rw[hml];refine AC.loop (α:=Nat×Nat) (λp=>⟨[(0,.sl false 1 (l.map AT)),(3,i64 p.1)],[],p.2⟩) (λp=>p.1)
  (λp=>p.1<=l.length/\∀j,p.1<=j->∀a,l[j]?=some a->a=0) (l.length,_) ⟨Ar _,λj hj a ha=>by rw[D6 hj]at ha;cases ha⟩ AK ?_
 rintro⟨n,m⟩ F ⟨h1,h2⟩;dsimp only at h1 h2⊢;refine AC.seq ?_;refine AC.seq ?_;rcases n with _|n
 ·have z0:decide (((0:Nat):Int)>0)=false:=rfl
  refine As 200 ?_;refine AG z0 ?_;refine AO ?_;refine CG ?_;have ht:=YC h 0 h2 (BW _) (by simp);refine sR 400 ?_;refine Aj ?_;refine AM (d0:=wL (l.take 0)) ?_ AA.out;rw[ht];rfl
 ·obtain⟨a,ha⟩:∃a,l[n]?=some a:=⟨l[n],Ce⟩
  have hx:=Dt ha;have z1:decide (((n+1:Nat):Int)>0)=true:=BR;have w2:IntKind.i64.wrap (((n+1:Nat):Int)-1)=(n:Int):=by rw[wI];omega
  refine As 200 ?_;refine AG (Aa z1 w2) ?_;refine By z1 hx ?_;refine AG (Aa z1 w2) ?_;refine AO ?_
  (refine B1 (λh15=>?_) (λh15=>?_))<;>(try simp only[Bq,B0]at h15)<;>(try simp only[h15])
  ·have ha0:a=0:=by
    have:(a:Int)=0:=by simpa using h15
    omega
   subst ha0;refine An ?_;refine AC.block ?_;refine As 300 ?_;refine AX w2 ?_;refine⟨(n,_),⟨by dsimp only;omega,λj hj b hb=>?_⟩,by dsimp only;omega,AK⟩;rcases Nat.eq_or_lt_of_le hj with rfl|hlt
   ·exact GV (hb.symm.trans ha)
   ·exact h2 j hlt b hb
  ·have ha0:a≠0:=by
    intro h0;subst h0;simp at h15
   refine CG ?_;have ht:=YC h (n+1) h2 h1 (λm hm b hb=>by
    obtain rfl:n=m:=by omega
    rw[ha]at hb;cases hb;exact ha0)
   refine sR 400 ?_;refine Aj ?_;have e4:List.take ((((n+1:Nat):Int)).toNat-0) (List.drop 0 (l.map AT))=(l.take (n+1)).map AT:=by
    rw[Oh];simp
   rw[e4];refine AM (d0:=wL (l.take (n+1))) ?_ AA.out;rw[ht];rfl
theorem IQ (b:Nat):∀a,b<=a->(Ah b).length<=(Ah a).length:=by
 induction b using Nat.strongRecOn with
 |ind b ih=>
  intro a h
  by_cases hb:b=0
  ·subst hb;rw[Gd];exact BW _
  ·rw[Gy hb,Gy (n:=a) (by omega),Bu,Bu]
   exact Nat.succ_le_succ (ih _ (Ir (EX hb) (by decide)) _ (Nat.div_le_div_right h))
theorem XU {a b:Nat}(h:(Ah a).length<(Ah b).length):a<b:=by
 rcases BE a b with h1|h1
 ·exact h1
 ·have:=IQ b a h1;omega
theorem LV {l:List Nat}{k a:Nat}(h:l[k]?=some a):AU l=AU (l.take k)+BB^k*(a+BB*AU (l.drop (k+1))):=by
 have hk:k<l.length:=(BS.1 h).1
 conv=>lhs;rw[<-Fq k l]
 rw[LB,Bc,Fp (by omega)]
 have:l.drop k=a::l.drop (k+1):=by
  rw[Et hk]
  congr 1
  exact(BS.1 h).2
 rw[this,AU]
theorem YV {l m:List Nat}{k a b:Nat}(hl:Wd l)(ha:l[k]?=some a)(hb:m[k]?=some b)(hd:l.drop (k+1)=m.drop (k+1))(hab:a<b):AU l<AU m:=by
 have hk:k<l.length:=(BS.1 ha).1;rw[LV ha,LV hb,hd];have h1:=IU (hl.take k);rw[Bc,Fp (by omega)]at h1;generalize AU (m.drop (k+1))=r;have h2:BB^k*(a+BB*r)+BB^k<=BB^k*(b+BB*r):=by
  rw[<-Nat.mul_succ];exact Cy _ (by omega)
 omega
theorem Rl (a b:Nat)(ha:(Ah a).length<4000000000)(hb:(Ah b).length<4000000000):AL C0 174 [wD a,wD b] (i64 (EQ a b)):=by
 refine Af.walk w1 bj rfl λF=>?_
 have hwa:=F3 a;have hwb:=F3 b;have va:=FY a;have vb:=FY b;have hlt:=@XU a b;have hgt:=@XU b a;unfold wD wL EQ;generalize Ah a=la at*;generalize Ah b=lb at*;have ea:(((la.map AT).length:Nat):Int)=(la.length:Int):=by rw[Ab]
 have eb:(((lb.map AT).length:Nat):Int)=(lb.length:Int):=by rw[Ab]
 refine sR 0 ?_;refine AC.seq ?_;refine sZ 100 ?_;refine AX (Aa ea eb) ?_;refine AO ?_
 (refine B1 (λh10=>?_) (λh10=>?_))<;>(try simp only[Bq,B0]at h10)<;>(try simp only[h10])
 ·have hne:la.length≠lb.length:=by
   have:(la.length:Int)≠lb.length:=by simpa using h10
   omega
  refine AC.seq ?_;refine sZ 200 ?_;refine AX (Aa ea eb) ?_;refine AO ?_
  (refine B1 (λh15=>?_) (λh15=>?_))<;>(try simp only[Bq,B0]at h15)<;>(try simp only[h15])
  ·have h1:la.length<lb.length:=by
    have:(la.length:Int)<lb.length:=by simpa using h15
    omega
   rw[AI (by have:=hlt h1;omega)];refine sR 300 ?_;refine Aj ?_;exact AM rfl AA.out
  ·have h1:lb.length<la.length:=by
    have:¬(la.length:Int)<lb.length:=by simpa using h15
    omega
   have h2:=hgt h1;rw[CP,DQ];refine An ?_;refine sR 400 ?_;refine Aj ?_;exact AM rfl AA.out
 ·have hl:la.length=lb.length:=by
   have:(la.length:Int)=lb.length:=by simpa using h10
   omega
  clear hlt hgt;refine An ?_;refine AC.seq ?_;refine sZ 500 ?_;refine AX ea ?_;refine AC.block ?_;have w0:IntKind.i64.wrap ((la.length:Int)-1)=(la.length:Int)-1:=wI;rw[w0];refine AC.loop (α:=Nat×Nat) (λp=>⟨[(0,.sl false 1 (la.map AT)),(1,.sl false 1 (lb.map AT)),(5,i64 ((p.1:Int)-1))],[],p.2⟩) (λp=>p.1)
   (λp=>p.1<=la.length/\la.drop p.1=lb.drop p.1) (la.length,_) ⟨Ar _,by rw[JS,hl,JS]⟩ AK ?_
  rintro⟨k,m⟩ F ⟨h1,h2⟩;dsimp only at h1 h2⊢;refine AC.seq ?_;refine sR 600 ?_;refine AO ?_
  (refine B1 (λh20=>?_) (λh20=>?_))<;>(try simp only[Bq,B0]at h20)<;>(try simp only[h20])
  ·obtain⟨j,rfl⟩:∃j,k=j+1:=⟨k-1,by
    have:(k:Int)-1>=0:=by simpa using h20
    omega⟩
   have wj:((j+1:Nat):Int)-1=(j:Int):=by omega
   obtain⟨x,hx⟩:∃x,la[j]?=some x:=⟨la[j],Ce⟩
   obtain⟨y,hy⟩:∃y,lb[j]?=some y:=⟨lb[j],Ce⟩
   have hx':=Dt hx;have hy':=Dt hy;rw[wj];refine An ?_;refine AC.seq ?_;refine AC.block ?_;refine AC.seq ?_;refine CN 800 [0,1,2,3,4,5,6,7] [8] ?_;refine AG kN ?_;refine By kT hx' ?_;refine AG kN ?_;refine By kT hy' ?_;refine AG kN ?_;refine AG kN ?_;refine AO ?_
   (refine B1 (λh31=>?_) (λh31=>?_))<;>(try simp only[Bq,B0]at h31)<;>(try simp only[h31])
   ·have hne:x≠y:=by
     intro h0;subst h0;simp at h31
    refine AC.seq ?_;refine AC.seq ?_;refine CN 900 [0,1,2,3,4,5,6,7] [8] ?_;refine AG kN ?_;refine By kT hx' ?_;refine AG kN ?_;refine By kT hy' ?_;refine AG kN ?_;refine AG kN ?_;refine AO ?_
    (refine B1 (λh40=>?_) (λh40=>?_))<;>(try simp only[Bq,B0]at h40)<;>(try simp only[h40])
    ·have hxy:x<y:=by
      have:(x:Int)<y:=by simpa using h40
      omega
     have:=YV hwa hx hy h2 hxy
     rw[DQ];refine sR 1000 ?_;refine Aj ?_;exact AM rfl AA.out
    ·have hxy:y<x:=by
      have:¬(x:Int)<y:=by simpa using h40
      omega
     have:=YV hwb hy hx h2.symm hxy
     rw[CP,DQ];refine An ?_;refine sR 1100 ?_;refine Aj ?_;exact AM rfl AA.out
   ·have hxy:x=y:=by
     have:(x:Int)=y:=by simpa using h31
     omega
    subst hxy;have w5:IntKind.i64.wrap ((j:Int)-1)=(j:Int)-1:=wI;refine An ?_;refine As 700 ?_;refine AX w5 ?_;have hj:=(BS.1 hx)
    have hj':=(BS.1 hy)
    refine⟨(j,_),⟨by dsimp only;omega,?_⟩,by dsimp only;omega,AK⟩;dsimp only;rw[Et hj.1,Et hj'.1,hj.2,hj'.2,h2]
  ·have hk:k=0:=by
    have:¬((k:Int)-1>=0):=by simpa using h20
    omega
   subst hk;have hab:a=b:=by
    rw[<-va,<-vb]
    have:la=lb:=by simpa using h2
    rw[this]
   subst hab;rw[CP,CP];refine CG ?_;refine sR 1200 ?_;refine Aj ?_;exact AM rfl AA.out
theorem Y8 {a b c:Nat}(hc:c<=1):Ly 214 [AT a,AT b,AT c]=some (.tup [AT ((a+b+c)%BB),AT ((a+b+c)/BB)]):=by
 show(match Nat.ble c 1 with
  |true=>some (D.tup [.prim (.int .u64 (((a+b+c)%18446744073709551616:Nat):Int)),.prim (.int .u64 (((a+b+c)/18446744073709551616:Nat):Int))])
  |false=>none)=_
 have h1:Nat.ble c 1=true:=by rw[Nat.ble_eq];exact hc
 rw[h1]
theorem Fy {l:List Nat}{i a:Nat}(h:l[i]?=some a):l.take (i+1)=l.take i++[a]:=by rw[Dp,h];rfl
theorem RV {l:List Nat}{i a:Nat}(h:i<l.length):(l.set i a).take (i+1)=l.take i++[a]:=by
 rw[Fy (l:=l.set i a) (i:=i) (a:=a) (by simp[h]),List.take_set_of_le (Ar _)]
theorem HR {l:List Nat}{i a:Nat}(hi:l.length=i):AU (l++[a])=AU l+BB^i*a:=by rw[LB,hi];simp[AU]
theorem map_set {l:List Nat}{i a:Nat}:(l.map AT).set i (AT a)=(l.set i a).map AT:=List.map_set.symm
theorem Wd.set {l:List Nat}(h:Wd l){i a:Nat}(ha:a<BB):Wd (l.set i a):=λb hb=>by
 rcases NC hb with h1|rfl
 ·exact h b h1
 ·exact ha
theorem NV (n:Nat):Wd (List.replicate n 0):=λa ha=>by rw[QT ha];decide
theorem WD {env:Ap}{t K g n N:Nat}{z:List Nat}{T:Nat}(hl:z.length=N)(he:env.get t=.osl K g 1 0 N:=by exact rfl):Wk ⟨env,[⟨K,g,T,1,z.map AT⟩],n⟩ ⟨[(t,.sl false 1 (z.map AT))],[],n⟩:=by
 subst hl;refine⟨.drop .nil,⟨?_,trivial⟩,Ar _⟩;dsimp only;rw[he]
 have:=SU K g T 1 (z.map AT)
 rwa [Ab]at this
theorem qW (la lb:List Nat)(ha:Wd la)(hb:Wd lb)(hla:la.length<4000000)(hlb:lb.length<4000000):AL C0 173 [wL la,wL lb] (wD (AU la+AU lb)):=by
 refine Af.walk w1 bi rfl λF=>?_
 unfold wL;have ea:(((la.map AT).length:Nat):Int)=(la.length:Int):=by rw[Ab]
 have eb:(((lb.map AT).length:Nat):Int)=(lb.length:Int):=by rw[Ab]
 obtain⟨x,y,hsw,hle,hx,hy,hlx,hv⟩:∃x y:List Nat,(la.length<lb.length/\x=lb/\y=la\/¬la.length<lb.length/\x=la/\y=lb)/\y.length<=x.length/\Wd x/\Wd y/\x.length<4000000/\AU la+AU lb=AU x+AU y:=by
  by_cases h:la.length<lb.length
  ·exact⟨lb,la,.inl ⟨h,rfl,rfl⟩,by omega,hb,ha,hlb,by omega⟩
  ·exact⟨la,lb,.inr ⟨h,rfl,rfl⟩,by omega,ha,hb,hla,rfl⟩
 rw[hv];refine sR 0 ?_;refine DA ⟨[(0,.sl false 1 (x.map AT)),(1,.sl false 1 (y.map AT)),(4,CK)],[],20⟩ ?_ ?_
 ·refine sZ 100 ?_
  refine AX (Aa ea eb) ?_;refine AO ?_;rcases hsw with⟨h,rfl,rfl⟩|⟨h,rfl,rfl⟩
  ·have e1:decide ((y.length:Int)<(x.length:Int))=true:=BR
   rw[e1];refine rI 200 ?_;exact BM (by trivial) (AK)
  ·have e1:decide ((x.length:Int)<(y.length:Int))=false:=Bd
   rw[e1];refine An ?_;exact BM (by trivial) (AK)
 clear hsw ea eb;have ex:(((x.map AT).length:Nat):Int)=(x.length:Int):=by rw[Ab]
 have ey:(((y.map AT).length:Nat):Int)=(y.length:Int):=by rw[Ab]
 have w3:IntKind.i64.wrap ((x.length:Int)+1)=((x.length+1:Nat):Int):=by rw[wI];omega
 have r3:List.replicate (x.length+1) (ofV (.int .u64 0))=(List.replicate (x.length+1) 0).map AT:=by rw[Kw];rfl
 refine sZ 300 ?_;refine AX (Ao ex w3 kN) ?_;refine sR 400 ?_;refine AC.seq ?_;refine sZ 500 ?_;refine AX ex ?_;refine AC.block ?_;refine AC.loop (α:=Nat×Nat×List Nat×Nat) (λp=>⟨[(0,.sl false 1 (x.map AT)),(1,.sl false 1 (y.map AT)),(4,CK),(5,.osl 303 23 1 0 (x.length+1)),(6,AT p.2.1),(21,i64 x.length),(22,i64 p.1)],[⟨303,23,187,1,p.2.2.1.map AT⟩],p.2.2.2⟩) (λp=>x.length-p.1)
  (λp=>p.1<=x.length/\p.2.1<=1/\p.2.2.1.length=x.length+1/\Wd p.2.2.1/\AU (p.2.2.1.take p.1)+BB^p.1*p.2.1=AU (x.take p.1)+AU (y.take p.1)) (0,0,List.replicate (x.length+1) 0,_)
  ⟨BW _,BW _,by simp,NV _,by simp[AU]⟩ (by rw[<-r3];exact AK) ?_
 rintro⟨i,c,o,m⟩ F ⟨h1,h2,h3,h4,h5⟩;dsimp only at h1 h2 h3 h4 h5⊢;refine sR 600 ?_;refine AC.seq ?_;refine AO ?_
 (refine B1 (λh23=>?_) (λh23=>?_))<;>(try simp only[Bq,B0]at h23)<;>(try simp only[h23])
 ·have hi:i<x.length:=by simpa using h23
  obtain⟨a,hxa⟩:∃a,x[i]?=some a:=⟨x[i],Bs hi⟩
  have ha:=Dt hxa;obtain⟨v,hvl,hvv⟩:∃v,v<BB/\(i<y.length/\y[i]?=some v\/y.length<=i/\v=0):=by
   by_cases h:i<y.length
   ·exact⟨y[i],hy _ (List.getElem_mem h),.inl ⟨h,Bs h⟩⟩
   ·exact⟨0,by decide,.inr ⟨by omega,rfl⟩⟩
  have hal:a<BB:=hx a (Ax hxa);have hyv:AU (y.take (i+1))=AU (y.take i)+BB^i*v:=by
   rcases hvv with⟨h,hh⟩|⟨h,rfl⟩
   ·rw[Fy hh,HR (i:=i) (by rw[Bc];omega)]
   ·rw[Gw,Cn h];simp
  have hoi:i<o.length:=by omega
  obtain⟨oi,hoa⟩:∃a,o[i]?=some a:=⟨o[i],Bs hoi⟩
  have hob:=Dt hoa;have hadd:=Y8 (a:=a) (b:=v) h2;have wi:IntKind.i64.wrap ((i:Int)+1)=((i+1:Nat):Int):=wI;refine An ?_;refine AC.seq ?_;refine AC.block ?_;refine sR 700 ?_;refine sR 800 ?_;refine DA ⟨[(0,.sl false 1 (x.map AT)),(1,.sl false 1 (y.map AT)),(4,CK),(5,.osl 303 23 1 0 (x.length+1)),(6,AT c),(7,i64 i),(8,AT v),(21,i64 x.length),(22,i64 i)],[⟨303,23,187,1,o.map AT⟩],m+30⟩ ?_ ?_
  ·refine sZ 900 ?_
   refine AX ey ?_;refine AO ?_;rcases hvv with⟨h,hh⟩|⟨h,rfl⟩
   ·have hy':=Dt hh
    have e1:decide ((i:Int)<(y.length:Int))=true:=BR;rw[e1];refine rI 1000 ?_;refine AG kN ?_;refine By kT hy' ?_;refine BU ?_;exact BM (by trivial) (AK)
   ·have e1:decide ((i:Int)<(y.length:Int))=false:=Bd
    rw[e1];refine An ?_;exact BM (by trivial) (AK)
  refine rI 1100 ?_;refine AG kN ?_;refine By kT ha ?_;refine AG kN ?_
  first|(refine Eb rfl rfl ?_;refine Rx rfl rfl (hadd) ?_)|(refine FL rfl rfl ?_;refine Pg rfl rfl (hadd) ?_)
  refine AG (Ao kN BV hob) ?_;have hs:(a+v+c)%BB<BB:=B7 _ (by decide);have hc':(a+v+c)/BB<=1:=by
   have:a+v+c<2*BB:=by omega
   exact Of (Fr (by rw[Ba];exact this))
  rw[map_set];refine As 1200 ?_;refine AX wi ?_;refine⟨(i+1,(a+v+c)/BB,o.set i ((a+v+c)%BB),_),⟨hi,hc',by dsimp only;rw[DK];exact h3,h4.set hs,?_⟩,by dsimp only;omega,AK⟩;dsimp only;rw[RV hoi,HR (i:=i) (by rw[Bc];omega),Fy hxa,HR (i:=i) (by rw[Bc];omega),hyv];have hm:=FU (a+v+c) BB;rw[CZ,B4,FD,<-BQ,hm,BQ,BQ];omega
 ·have hi:i=x.length:=by
   have:¬i<x.length:=by simpa using h23
   omega
  subst hi;obtain⟨oi,hoa⟩:∃a,o[x.length]?=some a:=⟨o[x.length],Ce⟩
  have hob:=Dt hoa;refine CG ?_;refine sZ 1300 ?_;refine AG (Bb ex kN BV hob) ?_;rw[map_set];have ho:o.set x.length c=o.take x.length++[c]:=by
   have:=RV (l:=o) (i:=x.length) (a:=c) (by omega)
   rwa [Cn (by rw[DK];omega)]at this
  have hov:AU (o.set x.length c)=AU x+AU y:=by
   rw[ho,HR (i:=x.length) (by rw[Bc];omega),h5,Cn (Ar _),Cn hle]
  have how:Wd (o.set x.length c):=h4.set (Dy h2 (by decide));have hol:(o.set x.length c).length=x.length+1:=by rw[DK];exact h3
  generalize o.set x.length c=z at*;refine AC.weak ⟨[(5,.sl false 1 (z.map AT))],[],_⟩ (WD hol) ?_;refine sR 1400 ?_;refine BF.same _ (trim_ok z how (by omega)) AJ ?_;refine BU ?_;refine Aj ?_;exact AM (by rw[hov]) AA.out
theorem Uv {a b c:Nat}(hc:c<=1):Ly 215 [AT a,AT b,AT c]=some (.tup [AT ((a+BB-b-c)%BB),AT (if a<b+c then 1 else 0)]):=by
 show(match Nat.ble c 1 with
  |true=>some (D.tup [.prim (.int .u64 (((a+18446744073709551616-b-c)%18446744073709551616:Nat):Int)),.prim (.int .u64 ((if a<b+c then 1 else 0:Nat):Int))])
  |false=>none)=_
 have h1:Nat.ble c 1=true:=by rw[Nat.ble_eq];exact hc
 rw[h1]
theorem UW {a v c:Nat}(ha:a<BB)(hv:v<BB)(hc:c<=1):(a+BB-v-c)%BB+v+c=a+BB*(if a<v+c then 1 else 0):=by
 by_cases h:a<v+c
 ·rw[AI h,JZ];omega
 ·rw[AH h]
  have:a+BB-v-c=(a-v-c)+BB:=by omega
  rw[this,Nat.add_mod_right,JZ];omega
theorem s9 (x y:List Nat)(hx:Wd x)(hy:Wd y)(hlx:x.length<4000000)(hle:y.length<=x.length)(hv:AU y<=AU x):AL C0 175 [wL x,wL y] (wD (AU x-AU y)):=by
 refine Af.walk w1 bl rfl λF=>?_
 unfold wL;have ex:(((x.map AT).length:Nat):Int)=(x.length:Int):=by rw[Ab]
 have ey:(((y.map AT).length:Nat):Int)=(y.length:Int):=by rw[Ab]
 have r3:List.replicate x.length (ofV (.int .u64 0))=(List.replicate x.length 0).map AT:=by rw[Kw];rfl
 refine sR 0 ?_;refine sZ 100 ?_;refine AX (Aa ex kN) ?_;refine sR 200 ?_;refine AC.seq ?_;refine sZ 300 ?_;refine AX ex ?_;refine AC.block ?_;refine AC.loop (α:=Nat×Nat×List Nat×Nat) (λp=>⟨[(0,.sl false 1 (x.map AT)),(1,.sl false 1 (y.map AT)),(4,CK),(5,.osl 102 3 1 0 x.length),(6,AT p.2.1),(13,i64 x.length),(14,i64 p.1)],[⟨102,3,187,1,p.2.2.1.map AT⟩],p.2.2.2⟩) (λp=>x.length-p.1)
  (λp=>p.1<=x.length/\p.2.1<=1/\p.2.2.1.length=x.length/\Wd p.2.2.1/\AU (p.2.2.1.take p.1)+AU (y.take p.1)=AU (x.take p.1)+BB^p.1*p.2.1) (0,0,List.replicate x.length 0,_)
  ⟨BW _,BW _,by simp,NV _,by simp[AU]⟩ (by rw[<-r3];exact AK) ?_
 rintro⟨i,c,o,m⟩ F ⟨h1,h2,h3,h4,h5⟩;dsimp only at h1 h2 h3 h4 h5⊢;refine sR 400 ?_;refine AC.seq ?_;refine AO ?_
 (refine B1 (λh23=>?_) (λh23=>?_))<;>(try simp only[Bq,B0]at h23)<;>(try simp only[h23])
 ·have hi:i<x.length:=by simpa using h23
  obtain⟨a,hxa⟩:∃a,x[i]?=some a:=⟨x[i],Bs hi⟩
  have ha:=Dt hxa;obtain⟨v,hvl,hvv⟩:∃v,v<BB/\(i<y.length/\y[i]?=some v\/y.length<=i/\v=0):=by
   by_cases h:i<y.length
   ·exact⟨y[i],hy _ (List.getElem_mem h),.inl ⟨h,Bs h⟩⟩
   ·exact⟨0,by decide,.inr ⟨by omega,rfl⟩⟩
  have hal:a<BB:=hx a (Ax hxa);have hyv:AU (y.take (i+1))=AU (y.take i)+BB^i*v:=by
   rcases hvv with⟨h,hh⟩|⟨h,rfl⟩
   ·rw[Fy hh,HR (i:=i) (by rw[Bc];omega)]
   ·rw[Gw,Cn h];simp
  have hoi:i<o.length:=by omega
  obtain⟨oi,hoa⟩:∃a,o[i]?=some a:=⟨o[i],Bs hoi⟩
  have hob:=Dt hoa;have hsub:=Uv (a:=a) (b:=v) h2;have hdig:=UW hal hvl h2;have hc':(if a<v+c then 1 else 0)<=1:=by split<;>decide
  have hs:(a+BB-v-c)%BB<BB:=B7 _ (by decide);generalize(if a<v+c then 1 else 0)=c' at*;generalize(a+BB-v-c)%BB=d at*;have wi:IntKind.i64.wrap ((i:Int)+1)=((i+1:Nat):Int):=wI;refine An ?_;refine AC.seq ?_;refine AC.block ?_;refine sR 500 ?_;refine sR 600 ?_;refine DA ⟨[(0,.sl false 1 (x.map AT)),(1,.sl false 1 (y.map AT)),(4,CK),(5,.osl 102 3 1 0 x.length),(6,AT c),(7,i64 i),(8,AT v),(13,i64 x.length),(14,i64 i)],[⟨102,3,187,1,o.map AT⟩],m+30⟩ ?_ ?_
  ·refine sZ 700 ?_
   refine AX ey ?_;refine AO ?_;rcases hvv with⟨h,hh⟩|⟨h,rfl⟩
   ·have hy':=Dt hh
    have e1:decide ((i:Int)<(y.length:Int))=true:=BR;rw[e1];refine rI 800 ?_;refine AG kN ?_;refine By kT hy' ?_;refine BU ?_;exact BM (by trivial) (AK)
   ·have e1:decide ((i:Int)<(y.length:Int))=false:=Bd
    rw[e1];refine An ?_;exact BM (by trivial) (AK)
  refine rI 900 ?_;refine AG kN ?_;refine By kT ha ?_;refine AG kN ?_
  first|(refine Eb rfl rfl ?_;refine Rx rfl rfl (hsub) ?_)|(refine FL rfl rfl ?_;refine Pg rfl rfl (hsub) ?_)
  refine AG (Ao kN BV hob) ?_;rw[map_set];refine As 1000 ?_;refine AX wi ?_;refine⟨(i+1,c',o.set i d,_),⟨hi,hc',by dsimp only;rw[DK];exact h3,h4.set hs,?_⟩,by dsimp only;omega,AK⟩;dsimp only;rw[RV hoi,HR (i:=i) (by rw[Bc];omega),Fy hxa,HR (i:=i) (by rw[Bc];omega),hyv];have h6:BB^i*d+BB^i*v+BB^i*c=BB^i*a+BB^(i+1)*c':=by
   rw[CZ,B4,<-BQ,<-BQ,<-BQ,hdig]
  omega
 ·have hi:i=x.length:=by
   have:¬i<x.length:=by simpa using h23
   omega
  subst hi;rw[Cn (Nat.le_of_eq h3),Cn (Ar _),Cn hle]at h5;have hlt:=IU h4;rw[h3]at hlt;have hc0:c=0:=by
   rcases D7 c with h|h
   ·exact h
   ·have:c=1:=by omega
    subst this;rw[Ej]at h5;omega
  subst hc0;have hov:AU o=AU x-AU y:=by
   rw[FE]at h5;omega
  refine CG ?_;refine AC.weak ⟨[(5,.sl false 1 (o.map AT))],[],_⟩ (WD h3) ?_;refine sR 1100 ?_;refine BF.same _ (trim_ok o h4 (by omega)) AJ ?_;refine BU ?_;refine Aj ?_;exact AM (by rw[hov]) AA.out
theorem KH:∀ {l:List Nat} {k o d:Nat},l[k]?=some o->AU (l.set k d)+BB^k*o=AU l+BB^k*d
 |a::l,0,o,d,h=>by
  simp only[TR,BP]at h;subst h;simp only[List.set_cons_zero,AU,NF,J4];omega
 |a::l,k+1,o,d,h=>by
  simp only[Kq]at h;have ih:=KH (d:=d) h;simp only[List.set_cons_succ,AU];have h1:BB^(k+1)*o=BB*(BB^k*o):=by rw[CZ,Ba (BB^k) BB,B4]
  have h2:BB^(k+1)*d=BB*(BB^k*d):=by rw[CZ,Ba (BB^k) BB,B4]
  have h3:BB*AU (l.set k d)+BB*(BB^k*o)=BB*AU l+BB*(BB^k*d):=by rw[<-BQ,<-BQ,ih]
  omega
theorem mX {x y o c:Nat}(hx:x<BB)(hy:y<BB)(ho:o<BB)(hc:c<BB):
  ∃hi lo c1 lo1 hi1 c2 lo2 c',hi=x*y/BB/\lo=x*y%BB/\lo1=(lo+o+0)%BB/\c1=(lo+o+0)/BB/\hi1=hi+c1/\hi1<BB/\lo2=(lo1+c+0)%BB/\c2=(lo1+c+0)/BB/\c'=hi1+c2/\c'<BB/\lo2<BB /\
   lo2+BB*c'=x*y+o+c:=by
 refine⟨_,_,_,_,_,_,_,_,rfl,rfl,rfl,rfl,rfl,?_,rfl,rfl,rfl,?_,B7 _ (by decide),?_⟩
 all_goals
  unfold BB at*;have e1:=FU (x*y) 18446744073709551616;have e2:=FU (x*y%18446744073709551616+o+0) 18446744073709551616;have e3:=FU ((x*y%18446744073709551616+o+0)%18446744073709551616+c+0) 18446744073709551616;have hxy:x*y<=(18446744073709551616-1)*(18446744073709551616-1):=JU (by omega) (by omega);have hk:(18446744073709551616-1)*(18446744073709551616-1)=340282366920938463426481119284349108225:=by decide
  rw[hk]at hxy;have l1:=B7 (x*y) (show 18446744073709551616>0 by decide);have l2:=B7 (x*y%18446744073709551616+o+0) (show 18446744073709551616>0 by decide);have l3:=B7 ((x*y%18446744073709551616+o+0)%18446744073709551616+c+0) (show 18446744073709551616>0 by decide);generalize x*y=p at*;generalize hA:p/18446744073709551616=A at*;generalize hB:p%18446744073709551616=B at*;generalize hC:(B+o+0)/18446744073709551616=C at*;generalize hD:(B+o+0)%18446744073709551616=D at*;generalize hE:(D+c+0)/18446744073709551616=E at*;generalize hF:(D+c+0)%18446744073709551616=F at*;omega
theorem XH {n:Nat}(h:n<BB):IntKind.u64.wrap (n:Int)=(n:Int):=wU (by omega) (by unfold BB at h;omega)
theorem qi (a b:List Nat)(ha:Wd a)(hb:Wd b)(hla:a.length<1000000)(hlb:b.length<1000000):AL C0 172 [wL a,wL b] (wD (AU a*AU b)):=by
 refine Af.walk w1 bh rfl λF=>?_
 unfold wL;have ea:(((a.map AT).length:Nat):Int)=(a.length:Int):=by rw[Ab]
 have eb:(((b.map AT).length:Nat):Int)=(b.length:Int):=by rw[Ab]
 have wl:IntKind.i64.wrap ((a.length:Int)+(b.length:Int))=((a.length+b.length:Nat):Int):=by rw[wI];omega
 have r3:List.replicate (a.length+b.length) (ofV (.int .u64 0))=(List.replicate (a.length+b.length) 0).map AT:=by rw[Kw];rfl
 refine sR 0 ?_;refine sZ 100 ?_;refine AX (Bb ea eb wl kN) ?_;refine AC.seq ?_;refine sZ 200 ?_;refine AX ea ?_;refine AC.block ?_;refine AC.loop (α:=Nat×List Nat×Nat) (λp=>⟨[(0,.sl false 1 (a.map AT)),(1,.sl false 1 (b.map AT)),(4,CK),(5,.osl 105 6 1 0 (a.length+b.length)),(20,.sl false 1 (a.map AT)),(21,i64 a.length),(22,i64 p.1)],[⟨105,6,187,1,p.2.1.map AT⟩],p.2.2⟩) (λp=>a.length-p.1)
  (λp=>p.1<=a.length/\p.2.1.length=a.length+b.length/\Wd p.2.1/\AU p.2.1=AU (a.take p.1)*AU b/\∀k,p.1+b.length<=k->∀d,p.2.1[k]?=some d->d=0) (0,List.replicate (a.length+b.length) 0,_)
  ⟨BW _,by simp,NV _,by simp[AU,Q1],λk _ d hd=>QT (Ax hd)⟩ (by rw[<-r3];exact AK) ?_
 rintro⟨i,o,m⟩ F ⟨h1,h2,h3,h4,h5⟩;dsimp only at h1 h2 h3 h4 h5⊢;refine sR 300 ?_;refine AC.seq ?_;refine AO ?_
 (refine B1 (λh23=>?_) (λh23=>?_))<;>(try simp only[Bq,B0]at h23)<;>(try simp only[h23])
 ·have hi:i<a.length:=by simpa using h23
  obtain⟨x,hx⟩:∃x,a[i]?=some x:=⟨a[i],Bs hi⟩
  have hx':=Dt hx;have hxl:x<BB:=ha x (Ax hx);have wi:IntKind.i64.wrap ((i:Int)+1)=((i+1:Nat):Int):=wI;have hax:AU (a.take (i+1))=AU (a.take i)+BB^i*x:=by rw[Fy hx,HR (i:=i) (by rw[Bc];omega)]
  refine An ?_;refine AC.seq ?_;refine AC.block ?_;refine sR 400 ?_;refine By kT hx' ?_;refine BU ?_;refine sR 500 ?_;refine AC.seq ?_;refine sZ 600 ?_;refine AX eb ?_;refine AC.block ?_;refine AC.loop (α:=Nat×Nat×List Nat×Nat) (λp=>⟨[(0,.sl false 1 (a.map AT)),(1,.sl false 1 (b.map AT)),(4,CK),(5,.osl 105 6 1 0 (a.length+b.length)),(6,i64 i),(7,AT x),(8,AT p.2.1),(20,.sl false 1 (a.map AT)),(21,i64 a.length),(22,i64 i),(27,.sl false 1 (b.map AT)),(28,i64 b.length),(29,i64 p.1)],[⟨105,6,187,1,p.2.2.1.map AT⟩],p.2.2.2⟩) (λp=>b.length-p.1)
   (λp=>p.1<=b.length/\p.2.1<BB/\p.2.2.1.length=a.length+b.length/\Wd p.2.2.1/\AU p.2.2.1+BB^(i+p.1)*p.2.1=AU (a.take i)*AU b+BB^i*x*AU (b.take p.1)/\∀k,i+b.length<=k->∀d,p.2.2.1[k]?=some d->d=0) (0,0,o,_)
   ⟨BW _,show 0<BB by decide,h2,h3,by simp[AU,h4],h5⟩ AK ?_
  rintro⟨j,c,q,m2⟩ F ⟨g1,g2,g3,g4,g5,g6⟩;dsimp only at g1 g2 g3 g4 g5 g6⊢;clear h2 h3 h4 h5 r3 wl;refine sR 700 ?_;refine AC.seq ?_;refine AO ?_
  (refine B1 (λh30=>?_) (λh30=>?_))<;>(try simp only[Bq,B0]at h30)<;>(try simp only[h30])
  ·have hj:j<b.length:=by simpa using h30
   obtain⟨y,hy⟩:∃y,b[j]?=some y:=⟨b[j],Bs hj⟩
   have hy':=Dt hy;have hyl:y<BB:=hb y (Ax hy);obtain⟨z,hz⟩:∃z,q[i+j]?=some z:=⟨q[i+j],Ce⟩
   have hz':=Dt hz;have hzl:z<BB:=g4 z (Ax hz);have wj:IntKind.i64.wrap ((j:Int)+1)=((j+1:Nat):Int):=wI;have wij:IntKind.i64.wrap ((i:Int)+(j:Int))=((i+j:Nat):Int):=by rw[wI];omega
   have hbx:AU (b.take (j+1))=AU (b.take j)+BB^j*y:=by rw[Fy hy,HR (i:=j) (by rw[Bc];omega)]
   have cm:=PL x y hxl hyl;obtain⟨hi',lo,c1,lo1,hi1,c2,lo2,c',e1,e2,e3,e4,e5,e6,e7,e8,e9,e10,e11,e12⟩:=mX hxl hyl hzl g2;rw[show x*y/18446744073709551616=hi' from e1.symm,show x*y%18446744073709551616=lo from e2.symm]at cm;have e3':(lo+z+0)%18446744073709551616=lo1:=e3.symm;have e4':(lo+z+0)/18446744073709551616=c1:=e4.symm;have e7':(lo1+c+0)%18446744073709551616=lo2:=e7.symm;have e8':(lo1+c+0)/18446744073709551616=c2:=e8.symm;have w6:IntKind.u64.wrap ((hi':Int)+(c1:Int))=(hi1:Int):=by rw[<-Int.natCast_add,<-e5];exact XH e6
   have w7:IntKind.u64.wrap ((hi1:Int)+(c2:Int))=(c':Int):=by rw[<-Int.natCast_add,<-e9];exact XH e10
   refine An ?_;refine AC.seq ?_;refine AC.block ?_;refine sR 800 ?_;refine By kT hy' ?_;refine BU ?_;refine sR 900 ?_;refine BF.same _ cm AJ ?_;refine BU ?_;refine sR 1000 ?_;refine sZ 1100 ?_;refine AG (D9 wij kN BV hz' e3' e4') ?_;refine sZ 1200 ?_;refine AX w6 ?_;refine sZ 1300 ?_;refine AX (Aa e7' e8') ?_;refine As 1400 ?_;refine AG (CS wij w7 kN BV hz') ?_;rw[show(D.prim (Value.int IntKind.u64 (lo2:Int)))=AT lo2 from rfl,map_set];refine As 1500 ?_;refine AX wj ?_;refine⟨(j+1,c',q.set (i+j) lo2,_),⟨hj,e10,by dsimp only;rw[DK];exact g3,g4.set e11,?_,λk hk d hd=>?_⟩,by dsimp only;omega,AK⟩
   ·dsimp only
    have hs:=KH (d:=lo2) hz;rw[hbx,BQ,<-FD (AU (a.take i)*AU b),<-g5];have h6:BB^(i+j)*lo2+BB^(i+(j+1))*c'=BB^i*x*(BB^j*y)+BB^(i+j)*z+BB^(i+j)*c:=by
     have:BB^i*x*(BB^j*y)=BB^(i+j)*(x*y):=by
      rw[Gq,B4,B4,JR x]
     rw[this,<-FD i j 1,CZ,B4,<-BQ,<-BQ,<-BQ,e12]
    omega
   ·dsimp only at hk hd
    rw[JO (by omega)]at hd;exact g6 k hk d hd
  ·have hj:j=b.length:=by
    have:¬j<b.length:=by simpa using h30
    omega
   subst hj;obtain⟨z,hz⟩:∃z,q[i+b.length]?=some z:=⟨q[i+b.length],Ce⟩
   have hz0:z=0:=g6 _ (Ar _) _ hz;subst hz0;have hz':=Dt hz;have wij:IntKind.i64.wrap ((i:Int)+(b.length:Int))=((i+b.length:Nat):Int):=by rw[wI];omega
   have wij0:IntKind.i64.wrap ((i:Int)+(((b.map AT).length:Nat):Int))=((i+b.length:Nat):Int):=by rw[eb];exact wij
   refine CG ?_;refine As 1600 ?_;refine AG (CS eb wij kN BV hz') ?_;rw[map_set];refine As 1700 ?_;refine AX wi ?_;refine⟨(i+1,q.set (i+b.length) c,_),⟨hi,by dsimp only;rw[DK];exact g3,g4.set g2,?_,λk hk d hd=>?_⟩,by dsimp only;omega,AK⟩
   ·dsimp only
    have hs:=KH (d:=c) hz;rw[Cn (Ar _)]at g5;rw[hax,Bz];omega
   ·dsimp only at hk hd
    rw[JO (by omega)]at hd;exact g6 k (by omega) d hd
 ·have hi:i=a.length:=by
   have:¬i<a.length:=by simpa using h23
   omega
  subst hi;rw[Cn (Ar _)]at h4;refine CG ?_;refine AC.weak ⟨[(5,.sl false 1 (o.map AT))],[],_⟩ (WD h2) ?_;refine sR 1800 ?_;refine BF.same _ (trim_ok o h3 (by omega)) AJ ?_;refine BU ?_;refine Aj ?_;exact AM (by rw[h4]) AA.out
structure GI where
 z:Int
 sm:Bool
def GI.wf (x:GI):Prop:=(x.sm=true→-9223372036854775808<=x.z/\x.z<9223372036854775808)/\(x.sm=false->¬Sm x.z)
def GI.s (x:GI):Int:=match x.sm with
 |true=>x.z
 |false=>if x.z<0 then -1 else 1
def GI.w (x:GI):D:=match x.sm with
 |true=>CK
 |false=>wD x.z.natAbs
abbrev GI.D (x:GI):D:=.agg [i64 x.s,x.w]
theorem xw (x:GI):CE x.w:=by
 unfold GI.w;split
 ·exact .prim _
 ·exact LU _
instance  (x:GI):AA x.w:=⟨xw x⟩
instance  (z:Int):Decidable (Sm z):=inferInstanceAs (Decidable (_/\_))
def Ac (z:Int):GI:=⟨z,decide (Sm z)⟩
theorem C4 (z:Int):(Ac z).wf:=by
 refine⟨λh=>?_,λh=>?_⟩
 ·have h:Sm z:=DN h
  exact⟨Int.le_of_lt h.1,h.2⟩
 ·exact Do h
theorem KO {z:Int}(h:Sm z):Ac z=⟨z,true⟩:=by unfold Ac;rw[Aw h]
theorem Vq {z:Int}(h:¬Sm z):Ac z=⟨z,false⟩:=by unfold Ac;rw[Az h]
theorem NO {n:Nat}(h0:n≠0)(h:n<BB):Ah n=[n]:=by
 rw[Gy h0,Ft h,IL h,Gd]
theorem IV {n:Nat}(h:n≠0):(Ah n).map AT≠[]:=by rw[Gy h];simp
theorem du (x:GI)(h:x.wf):(x.s<0)=(x.z<0):=by
 obtain⟨z,sm⟩:=x;cases sm with
 |true=>rfl
 |false=>
  unfold GI.s;dsimp only;split<;>simp<;>omega
theorem yz {H Hf:Hp}(n:Nat)(h0:n≠0)(h:n<BB):Fz H Hf (.sl true 1 [AT n]) (wD n):=by
 unfold wD wL;rw[NO h0 h];exact .nn true 1 _
theorem eJ {H Hf:Hp}{a b c d:D}(h:Fz H Hf a c)(k:Fz H Hf b d):Fz H Hf (.tup [a,b]) (.tup [c,d]):=.tup rfl λi x y hx hy=>by
 match i with
 | 0=>simp at hx hy;subst hx;subst hy;exact h
 | 1=>simp at hx hy;subst hx;subst hy;exact k
 |i+2=>simp at hx
instance  (a b:Nat):AA (.tup [wD a,wD b]):=AJ
theorem pt:AL C0 170 [i64 (-9223372036854775808)] (AT 9223372036854775808):=Ca Dx 1000 40
theorem Pm {z:Int}(h1 : -9223372036854775808<=z)(h2:z<9223372036854775808):AL C0 170 [i64 z] (AT z.natAbs):=by
 by_cases h:z = -9223372036854775808
 ·subst h;exact pt
 ·exact sY z ⟨by omega,h2⟩
theorem KG (x:GI)(h:x.wf):AL C0 145 [x.D] (.tup [Al (decide (x.z<0)),wD x.z.natAbs]):=by
 refine Af.walk w1 dV rfl λF=>?_
 obtain⟨z,sm⟩:=x;obtain⟨h1,h2⟩:=h;unfold GI.D GI.s GI.w;cases sm with
 |true=>
  obtain⟨h3,h4⟩:=h1 rfl;dsimp only at h3 h4⊢;have cs:=Pm h3 h4;refine sR 0 ?_;refine AC.seq ?_;refine AC.block ?_;refine sR 100 ?_;refine AO ?_;refine sR 300 ?_;refine AO ?_
  (refine B1 (λh13=>?_) (λh13=>?_))<;>(try simp only[Bq,B0]at h13)<;>(try simp only[h13])
  ·have hz:z=0:=by simpa using h13
   subst hz;refine sR 400 ?_;refine Aj ?_;refine⟨_,eJ (.refl _) (c:=Al (decide ((0:Int)<0))) (d:=wD (Int.natAbs 0)) ?_,AA.out,rfl⟩;show Fz _ _ CK (wD 0);unfold wD wL;rw[Gd];exact .nil 1
  ·have hz:z≠0:=by simpa using h13
   refine An ?_;refine AC.seq ?_;refine CN 500 [0,1,2,3,4,5,6,7] [8] ?_;refine AG kN ?_;refine Bf.same _ cs AJ ?_;refine BU ?_;refine Aj ?_;refine⟨_,eJ (.refl _) (c:=Al (decide (z<0))) (yz z.natAbs (by omega) (by unfold BB;omega)),AA.out,rfl⟩
 |false=>
  have hb:=h2 rfl;have hs:=du ⟨z,false⟩ ⟨h1,h2⟩;unfold GI.s at hs;dsimp only at hb hs⊢;have hne:=IV (n:=z.natAbs) (by intro h0;apply hb;exact⟨by omega,by omega⟩);have hp:CE (.sl false 1 ((Ah z.natAbs).map AT)):=LU _;unfold wD wL;generalize(Ah z.natAbs).map AT=l at*;generalize(if z<0 then(-1:Int)else 1)=sg at*;refine sR 0 ?_;refine AC.seq ?_;refine AC.block ?_;refine sZ 100 ?_;refine AX (Ao (@ne_eq (List D)) hne E6) ?_;refine AO ?_;refine AC.seq ?_;refine CN 200 [0,1,2,3,4,5] [6] ?_;refine BU ?_;refine Aj ?_;refine AM ?_ (.tup λd hd=>?_)
  ·simp only[hs]
  ·simp only[A8,Dq,or_false]at hd
   rcases hd with rfl|rfl
   ·exact .prim _
   ·exact hp
def ES (neg:Bool)(n:Nat):Int:=match neg with
 |true=>-(n:Int)
 |false=>n
theorem Md (neg:Bool)(n:Nat)(hlen:(Ah n).length<4000000):AL C0 171 [Al neg,wD n] (Ac (ES neg n)).D:=by
 refine Af.walk w1 be rfl λF=>?_
 by_cases h0:n=0
 ·subst h0
  have e:Ac (ES neg 0)=⟨0,true⟩:=by cases neg<;>exact KO ⟨by decide,by decide⟩
  rw[e];unfold wD wL GI.D GI.s GI.w;rw[Gd];dsimp only[List.map];refine sR 0 ?_;refine AC.seq ?_;refine AC.block ?_;refine sR 100 ?_;refine AO ?_;refine sR 200 ?_;refine Aj ?_;exact AM rfl AA.out
 ·by_cases h1:n<BB
  ·have hl:=NO h0 h1
   have b1:(((1:Nat):Int)==0)=false:=rfl;have b2:(((1:Nat):Int)==1)=true:=rfl;have hx:[AT n][(0:Int).toNat]?=some (AT n):=rfl
   by_cases h2:n<=9223372036854775807
   ·have b3:decide ((n:Int)<=9223372036854775807)=true:=BR
    have hsm:Sm (ES neg n):=by unfold ES;split<;>exact⟨by omega,by omega⟩
    rw[KO hsm];unfold wD wL GI.D GI.s GI.w;rw[hl];dsimp only[List.map];have w1':IntKind.i64.wrap (n:Int)=(n:Int):=wN h2;have w2':IntKind.i64.wrap (0-(n:Int)) = -(n:Int):=by rw[wI];omega
    cases neg with
    |true=>
     unfold ES;dsimp only;refine sR 0 ?_;refine AC.seq ?_;refine AC.block ?_;refine sZ 100 ?_;refine AX b1 ?_;refine AO ?_;refine sZ 300 ?_;refine AG (Aa b2 b3) ?_;refine AG (Aa b2 b3) ?_;refine By b2 hx ?_;refine AG (Aa b2 b3) ?_;refine AG (Aa b2 b3) ?_;refine AO ?_;refine sZ 400 ?_;refine AG b2 ?_;refine By b2 hx ?_;refine AG (Aa w1' w2') ?_;refine Aj ?_;exact AM rfl AA.out
    |false=>
     unfold ES;dsimp only;refine sR 0 ?_;refine AC.seq ?_;refine AC.block ?_;refine sZ 100 ?_;refine AX b1 ?_;refine AO ?_;refine sZ 300 ?_;refine AG (Aa b2 b3) ?_;refine AG (Aa b2 b3) ?_;refine By b2 hx ?_;refine AG (Aa b2 b3) ?_;refine AG (Aa b2 b3) ?_;refine AO ?_;refine sZ 500 ?_;refine AG (Aa b2 b3) ?_;refine AG (Aa b2 b3) ?_;refine By b2 hx ?_;refine AG (Aa b2 b3) ?_;refine AG (Aa b2 b3) ?_;refine AO ?_;refine sZ 600 ?_;refine AG b2 ?_;refine By b2 hx ?_;refine AG (Aa w1' w2') ?_;refine Aj ?_;exact AM rfl AA.out
   ·have b3:decide ((n:Int)<=9223372036854775807)=false:=Bd
    have hsm:¬Sm (ES neg n):=by
     intro hs;have h3:=hs.1;have h4:=hs.2
     revert h3 h4
     unfold ES;split<;>intro h3 h4<;>omega
    rw[Vq hsm];have ha:(ES neg n).natAbs=n:=by unfold ES;split<;>omega
    unfold GI.D GI.s GI.w;dsimp only;rw[ha];unfold wD wL;rw[hl];dsimp only[List.map];cases neg with
    |true=>
     have hs:(if ES true n<0 then(-1:Int)else 1) = -1:=AI (by show -(n:Int)<0;omega);rw[hs];refine sR 0 ?_;refine AC.seq ?_;refine AC.block ?_;refine sZ 100 ?_;refine AX b1 ?_;refine AO ?_;refine sZ 300 ?_;refine AG (Aa b2 b3) ?_;refine AG (Aa b2 b3) ?_;refine By b2 hx ?_;refine AG (Aa b2 b3) ?_;refine AG (Aa b2 b3) ?_;refine AO ?_;refine sZ 500 ?_;refine AG (Aa b2 b3) ?_;refine AG (Aa b2 b3) ?_;refine By b2 hx ?_;refine AG (Aa b2 b3) ?_;refine AG (Aa b2 b3) ?_;refine AO ?_;refine sR 700 ?_;refine AO ?_;refine sR 800 ?_;refine Aj ?_;exact AM rfl AA.out
    |false=>
     have hs:(if ES false n<0 then(-1:Int)else 1)=1:=AH (by show ¬(n:Int)<0;omega);rw[hs];refine sR 0 ?_;refine AC.seq ?_;refine AC.block ?_;refine sZ 100 ?_;refine AX b1 ?_;refine AO ?_;refine sZ 300 ?_;refine AG (Aa b2 b3) ?_;refine AG (Aa b2 b3) ?_;refine By b2 hx ?_;refine AG (Aa b2 b3) ?_;refine AG (Aa b2 b3) ?_;refine AO ?_;refine sZ 500 ?_;refine AG (Aa b2 b3) ?_;refine AG (Aa b2 b3) ?_;refine By b2 hx ?_;refine AG (Aa b2 b3) ?_;refine AG (Aa b2 b3) ?_;refine AO ?_;refine sR 700 ?_;refine AO ?_;refine An ?_;refine sR 900 ?_;refine Aj ?_;exact AM rfl AA.out
  ·have hl2:2<=(Ah n).length:=by
    rw[Gy h0,Gy (n:=n/BB) (by
     intro h
     have:=FF n BB
     have:=B7 n (show BB>0 by decide)
     rw[h]at*;omega)]
    simp
   have hsm:¬Sm (ES neg n):=by
    intro hs;have h3:=hs.1;have h4:=hs.2;have h5:BB<=n:=by omega
    unfold BB at h5
    revert h3 h4
    unfold ES;split<;>intro h3 h4<;>omega
   rw[Vq hsm];have ha:(ES neg n).natAbs=n:=by unfold ES;split<;>omega
   have hp:AA (.sl false 1 ((Ah n).map AT)):=⟨LU _⟩
   unfold GI.D GI.s GI.w;dsimp only;rw[ha];unfold wD wL;have hel:((((Ah n).map AT).length:Nat):Int)=((Ah n).length:Int):=by rw[Ab]
   generalize(Ah n).map AT=l at*;generalize hL:(Ah n).length=L at*;have b1:((L:Int)==0)=false:=Bo.2 (by omega);have b2:((L:Int)==1)=false:=Bo.2 (by omega);cases neg with
   |true=>
    have hs:(if ES true n<0 then(-1:Int)else 1) = -1:=AI (by show -(n:Int)<0;omega);rw[hs];refine sR 0 ?_;refine AC.seq ?_;refine AC.block ?_;refine sZ 100 ?_;refine AX (Aa hel b1) ?_;refine AO ?_;refine sZ 300 ?_;refine AX (Aa hel b2) ?_;refine AG (Aa hel b2) ?_;refine AG (Aa hel b2) ?_;refine AO ?_;refine sZ 500 ?_;refine AX (Aa hel b2) ?_;refine AG (Aa hel b2) ?_;refine AO ?_;refine sR 700 ?_;refine AO ?_;refine sR 800 ?_;refine Aj ?_;exact AM rfl AA.out
   |false=>
    have hs:(if ES false n<0 then(-1:Int)else 1)=1:=AH (by show ¬(n:Int)<0;omega);rw[hs];refine sR 0 ?_;refine AC.seq ?_;refine AC.block ?_;refine sZ 100 ?_;refine AX (Aa hel b1) ?_;refine AO ?_;refine sZ 300 ?_;refine AX (Aa hel b2) ?_;refine AG (Aa hel b2) ?_;refine AG (Aa hel b2) ?_;refine AO ?_;refine sZ 500 ?_;refine AX (Aa hel b2) ?_;refine AG (Aa hel b2) ?_;refine AO ?_;refine sR 700 ?_;refine AO ?_;refine An ?_;refine sR 900 ?_;refine Aj ?_;exact AM rfl AA.out
theorem N5 (x:GI)(h:x.wf):AL C0 166 [x.D] (i64 (max (-1) (min 1 x.z))):=by
 refine Af.walk w1 b8 rfl λF=>?_
 have e:max (-1) (min 1 x.s)=max (-1) (min 1 x.z):=by
  obtain⟨z,sm⟩:=x;cases sm with
  |true=>rfl
  |false=>
   have hb:=h.2 rfl;unfold GI.s;dsimp only at hb⊢;unfold Sm at hb;split<;>omega
 refine fR 0 ?_;refine fR 100 ?_;rw[e];refine Aj ?_;exact AM rfl AA.out
theorem pn (z:Int):ES (!decide (z<0)) z.natAbs = -z:=by
 by_cases h:z<0
 ·rw[Aw h];show((z.natAbs:Nat):Int) = -z;omega
 ·rw[Az h];show -((z.natAbs:Nat):Int) = -z;omega
def GI.few (x:GI):Prop:=(Ah x.z.natAbs).length<1000000
theorem Pz (x:GI)(h:x.wf)(hf:x.few):AL C0 165 [x.D] (Ac (-x.z)).D:=by
 by_cases hs:x.sm=true/\x.z ≠ -9223372036854775808
 ·obtain⟨z,sm⟩:=x
  obtain⟨rfl,hz⟩:=hs;have h1:=h.1 rfl;dsimp only at h1 hz⊢;have hsm:Sm z:=⟨by omega,h1.2⟩
  have:=xR z hsm
  rw[KO ⟨by have:=hsm.2;omega,by have:=hsm.1;omega⟩];exact this
 ·refine Af.walk w1 Vg rfl λF=>?_
  have cp:=KG x h;have cm:=Md (!decide (x.z<0)) x.z.natAbs (Gp hf (by decide));rw[pn]at cm;have hpr:AA (Ac (-x.z)).w:=AJ;dsimp only[GI.D]at cp cm⊢;generalize(Ac (-x.z)).s=rs at*;generalize(Ac (-x.z)).w=rw at*;obtain⟨z,sm⟩:=x;unfold GI.s GI.w at*;cases sm with
  |true=>
   have hz:z = -9223372036854775808:=DH λh0=>hs ⟨rfl,h0⟩
   subst hz;dsimp only at cp cm⊢;refine fR 0 ?_;refine AC.seq ?_;refine sZ 100 ?_
   repeat'(first|(refine BM (by exact CD) ?_;refine BO ?_)|((refine B1 (λhb=>?_) (λhb=>?_))<;>(try simp only[Bq,B0]at hb)<;>(try simp only[hb])<;>(refine BO ?_)))
   refine AO ?_;refine An ?_;refine fR 300 ?_;refine dI cp ?_;refine fR 400 ?_;refine dI cm ?_;refine Aj ?_;exact AM rfl AA.out
  |false=>
   have hne:=IV (n:=z.natAbs) (by
    intro h0
    have:=h.2 rfl
    apply this;exact⟨by dsimp only;omega,by dsimp only;omega⟩)
   dsimp only at cp cm⊢;unfold wD wL at*;have hp:AA (.sl false 1 ((Ah z.natAbs).map AT)):=⟨LU _⟩
   generalize(Ah z.natAbs).map AT=l at*;generalize(if z<0 then(-1:Int)else 1)=sg at*;generalize decide (z<0)=nb at*;refine fR 0 ?_;refine AC.seq ?_;refine AC.seq ?_;refine As 100 ?_;refine AX (Ao (@ne_eq (List D)) hne E6) ?_;refine AG kT ?_;refine AG kT ?_;refine AO ?_;refine An ?_;refine fR 300 ?_;refine dI cp ?_;refine fR 400 ?_;refine dI cm ?_;refine Aj ?_;exact AM rfl AA.out
theorem d9o (a b:Nat)(ha:(Ah a).length<1000000)(hb:(Ah b).length<1000000):AL C0 173 [wD a,wD b] (wD (a+b)):=by
 have:=qW (Ah a) (Ah b) (F3 a) (F3 b) (Gp ha (by decide)) (Gp hb (by decide))
 rwa [FY,FY]at this
theorem iz (a b:Nat)(h:b<=a)(ha:(Ah a).length<1000000):AL C0 175 [wD a,wD b] (wD (a-b)):=by
 have:=s9 (Ah a) (Ah b) (F3 a) (F3 b) (Gp ha (by decide)) (IQ b a h) (by rw[FY,FY];exact h)
 rwa [FY,FY]at this
theorem d9Q (a b:Nat)(ha:(Ah a).length<1000000)(hb:(Ah b).length<1000000):AL C0 172 [wD a,wD b] (wD (a*b)):=by
 have:=qi (Ah a) (Ah b) (F3 a) (F3 b) ha hb
 rwa [FY,FY]at this
theorem Hu {n k:Nat}(h:n<BB^k):(Ah n).length<=k:=by
 induction k generalizing n with
 |zero=>
  have:n=0:=by simpa using h
  subst this;rw[Gd];exact Ar _
 |succ k ih=>
  by_cases h0:n=0
  ·subst h0;rw[Gd];exact BW _
  ·rw[Gy h0,Bu]
   exact Nat.succ_le_succ (ih (Fr (by rw[Ba,<-CZ];exact h)))
theorem KF (n:Nat):n<BB^(Ah n).length:=by
 have:=IU (F3 n)
 rwa [FY]at this
theorem Yw (a b:Nat):(Ah (a+b)).length<=max (Ah a).length (Ah b).length+1:=by
 refine Hu ?_;have h1:=KF a;have h2:=KF b;have m1:BB^(Ah a).length<=BB^max (Ah a).length (Ah b).length:=GK (by decide) (Nat.le_max_left _ _);have m2:BB^(Ah b).length<=BB^max (Ah a).length (Ah b).length:=GK (by decide) (Nat.le_max_right _ _);rw[CZ];generalize BB^max (Ah a).length (Ah b).length=q at*;unfold BB;omega
theorem Yx (a b:Nat):(Ah (a-b)).length<=(Ah a).length:=IQ _ _ (Nat.sub_le _ _)
def Eh (x y:GI):GI:=if x.sm=true/\y.sm=true/\x.z+y.z = -9223372036854775808 then⟨x.z+y.z,true⟩else Ac (x.z+y.z)
theorem Nw (x y:GI):(Eh x y).z=x.z+y.z:=by unfold Eh;split<;>rfl
theorem Nj (x y:GI):(Eh x y).wf:=by
 unfold Eh;split
 ·rename_i h
  refine⟨λ_=>?_,λh=>by cases h⟩;dsimp only;rw[h.2.2];decide
 ·exact C4 _
theorem lL (x y:GI)(hx:x.sm=true)(hy:y.sm=true)(h1 : -9223372036854775808<=x.z+y.z)(h2:x.z+y.z<9223372036854775808):AL C0 127 [x.D,y.D] (Eh x y).D:=by
 obtain⟨a,sa⟩:=x;obtain⟨b,sb⟩:=y;dsimp only at hx hy h1 h2;subst hx;subst hy;have e:(Eh ⟨a,true⟩ ⟨b,true⟩).D=DL (a+b):=by
  unfold Eh;dsimp only;split
  ·rfl
  ·rename_i h
   have h3:¬a+b = -9223372036854775808:=λh0=>h ⟨rfl,rfl,h0⟩
   rw[KO ⟨by omega,h2⟩];rfl
 rw[e];show AL C0 _ [DL a,DL b] _;refine Af.walk w1 Vf rfl λF=>?_
 refine fR 0 ?_;refine AC.seq ?_;refine sZ 100 ?_
 repeat'(first|(refine BM (by exact CD) ?_;refine BO ?_)|((refine B1 (λhb=>?_) (λhb=>?_))<;>(try simp only[Bq,B0]at hb)<;>(try simp only[hb])<;>(refine BO ?_)))
 refine AO ?_;have e1:IntKind.i64.wrap (a+b)=a+b:=wI;have e2:(decide (a+b>a)==decide (b>0))=true:=by
  rw[ED,DO];omega
 refine sZ 200 ?_;refine K0 e1 ?_;refine fR 300 ?_;rw[e2];refine AO ?_;refine fR 400 ?_;refine Aj ?_;exact AM rfl AA.out
theorem qV (x y:GI)(hx:x.wf)(hy:y.wf)(fx:x.few)(fy:y.few)(hn:¬(x.sm=true/\y.sm=true∧-9223372036854775808<=x.z+y.z/\x.z+y.z<9223372036854775808)):AL C0 127 [x.D,y.D] (Ac (x.z+y.z)).D:=by
 refine Af.walk w1 Vf rfl λF=>?_
 have cx:=KG x hx;have cy:=KG y hy;have hpr:AA (Ac (x.z+y.z)).w:=AJ;have hpx:AA x.w:=AJ;have hpy:AA y.w:=AJ;have la:=Yw x.z.natAbs y.z.natAbs;have ls:=Yx x.z.natAbs y.z.natAbs;have ls':=Yx y.z.natAbs x.z.natAbs;unfold GI.few at fx fy;dsimp only[GI.D]at*;refine fR 0 ?_;refine DA ⟨[(2,.optr 0 0 2 0 0),(3,.optr 1 1 2 0 0),(4,.optr 2 2 2 0 0)],[⟨2,2,132,2,[DL 0]⟩,⟨1,1,132,2,[.agg [i64 y.s,y.w]]⟩,⟨0,0,132,2,[.agg [i64 x.s,x.w]]⟩],60⟩ ?_ ?_
 ·obtain⟨a,sa⟩:=x
  obtain⟨b,sb⟩:=y;clear cx cy la ls ls' hpr;have nx:sa=false->(Ah a.natAbs).map AT≠[]:=λh=>IV (by
   intro h0;subst h;exact hx.2 rfl ⟨by dsimp only;omega,by dsimp only;omega⟩)
  have ny:sb=false->(Ah b.natAbs).map AT≠[]:=λh=>IV (by
   intro h0;subst h;exact hy.2 rfl ⟨by dsimp only;omega,by dsimp only;omega⟩)
  unfold GI.s GI.w wD wL at*;dsimp only at*;generalize(Ah a.natAbs).map AT=ka at*;generalize(Ah b.natAbs).map AT=kb at*;cases sa with
  |false=>
   have nx:=nx rfl;dsimp only at*;generalize(if a<0 then(-1:Int)else 1)=sg at*;generalize(match sb with|true=>b|false=>if b<0 then(-1:Int)else 1)=sh at*;generalize(match sb with|true=>CK|false=>D.sl false 1 kb)=wy at*;refine AC.seq ?_;refine As 100 ?_;refine AX (Ao (@ne_eq (List D)) nx E6) ?_;refine AG kT ?_;refine AG kT ?_;refine AO ?_;refine An ?_;exact BM (by trivial) (AK)
  |true=>
   dsimp only at*;cases sb with
   |false=>
    have ny:=ny rfl;dsimp only at*;generalize(if b<0 then(-1:Int)else 1)=sh at*;refine AC.seq ?_;refine As 100 ?_;refine AX (Ao (@ne_eq (List D)) ny E6) ?_;refine AG (Bb kT (@ne_eq (List D)) ny E6) ?_;refine AG (Bb kT (@ne_eq (List D)) ny E6) ?_;refine AO ?_;refine An ?_;exact BM (by trivial) (AK)
   |true=>
    have ra:=hx.1 rfl;have rb:=hy.1 rfl;dsimp only at*;have e2:(decide (IntKind.i64.wrap (a+b)>a)==decide (b>0))=false:=by
     have hov:¬(-9223372036854775808<=a+b/\a+b<9223372036854775808):=λh=>hn ⟨rfl,rfl,h.1,h.2⟩
     have ew:IntKind.i64.wrap (a+b)=a+b-18446744073709551616/\9223372036854775808<=a+b\/IntKind.i64.wrap (a+b)=a+b+18446744073709551616/\a+b < -9223372036854775808:=by
      have e1:(2:Int)^IntKind.i64.bits=18446744073709551616:=rfl;have e2:(2:Int)^(IntKind.i64.bits-1)=9223372036854775808:=rfl;have e3:IntKind.i64.signed=true:=rfl;unfold IntKind.wrap;simp only[e1,e2,e3,Gl,HJ];split<;>omega
     rw[Bo,ne_eq,DO];omega
    refine sZ 100 ?_
    repeat'(first|(refine BM (by exact CD) ?_;refine BO ?_)|((refine B1 (λhb=>?_) (λhb=>?_))<;>(try simp only[Bq,B0]at hb)<;>(try simp only[hb])<;>(refine BO ?_)))
    refine AO ?_;refine fR 200 ?_;refine fR 300 ?_;rw[e2];refine AO ?_;refine An ?_;exact BM (by trivial) (AK)
 ·refine fR 500 ?_
  refine dI cx ?_;refine fR 600 ?_;refine dI cy ?_;refine AC.seq ?_;refine AC.block ?_;refine fR 700 ?_
  by_cases hs:(decide (x.z<0))=(decide (y.z<0))
  ·have e1:(decide (x.z<0)==decide (y.z<0))=true:=ED.2 hs
   rw[e1];have ca:=d9o x.z.natAbs y.z.natAbs fx fy;have cm:=Md (decide (x.z<0)) (x.z.natAbs+y.z.natAbs) (by omega);have ez:ES (decide (x.z<0)) (x.z.natAbs+y.z.natAbs)=x.z+y.z:=by
    rw[DO]at hs
    by_cases h:x.z<0
    ·rw[Aw h];have:=hs.1 h;show -(((x.z.natAbs+y.z.natAbs:Nat)):Int)=_;omega
    ·rw[Az h];have:¬y.z<0:=λh0=>h (hs.2 h0);show(((x.z.natAbs+y.z.natAbs:Nat)):Int)=_;omega
   rw[ez]at cm;dsimp only[GI.D]at cm;refine AO ?_;refine fR 800 ?_;refine dI ca ?_;refine dI cm ?_;refine Aj ?_;exact AM rfl AA.out
  ·have e1:(decide (x.z<0)==decide (y.z<0))=false:=Bo.2 hs
   rw[e1];have cc:=Rl x.z.natAbs y.z.natAbs (by omega) (by omega);refine AO ?_;refine fR 900 ?_;refine dI cc ?_
   by_cases hc:y.z.natAbs<=x.z.natAbs
   ·have e2:decide (EQ (x.z.natAbs:Nat) (y.z.natAbs:Nat)>=0)=true:=Aw (by unfold EQ;split<;>(try split)<;>omega)
    rw[e2];have ca:=iz x.z.natAbs y.z.natAbs hc fx;have cm:=Md (decide (x.z<0)) (x.z.natAbs-y.z.natAbs) (by omega);have ez:ES (decide (x.z<0)) (x.z.natAbs-y.z.natAbs)=x.z+y.z:=by
     rw[DO]at hs
     by_cases h:x.z<0
     ·rw[Aw h];have:¬y.z<0:=λh0=>hs ⟨λ_=>h0,λ_=>h⟩;show -(((x.z.natAbs-y.z.natAbs:Nat)):Int)=_;omega
     ·rw[Az h];have:y.z<0:=DH λh0=>hs ⟨λh1=>Ak h1 h,λh1=>Ak h1 h0⟩;show(((x.z.natAbs-y.z.natAbs:Nat)):Int)=_;omega
    rw[ez]at cm;dsimp only[GI.D]at cm;refine AO ?_;refine fR 1000 ?_;refine dI ca ?_;refine dI cm ?_;refine Aj ?_;exact AM rfl AA.out
   ·have e2:decide (EQ (x.z.natAbs:Nat) (y.z.natAbs:Nat)>=0)=false:=Az (by unfold EQ;split<;>(try split)<;>omega)
    rw[e2];have ca:=iz y.z.natAbs x.z.natAbs (by omega) fy;have cm:=Md (decide (y.z<0)) (y.z.natAbs-x.z.natAbs) (by omega);have ez:ES (decide (y.z<0)) (y.z.natAbs-x.z.natAbs)=x.z+y.z:=by
     rw[DO]at hs
     by_cases h:y.z<0
     ·rw[Aw h];have:¬x.z<0:=λh0=>hs ⟨λ_=>h,λ_=>h0⟩;show -(((y.z.natAbs-x.z.natAbs:Nat)):Int)=_;omega
     ·rw[Az h];have:x.z<0:=DH λh0=>hs ⟨λh1=>Ak h1 h0,λh1=>Ak h1 h⟩;show(((y.z.natAbs-x.z.natAbs:Nat)):Int)=_;omega
    rw[ez]at cm;dsimp only[GI.D]at cm;refine AO ?_;refine An ?_;refine fR 1100 ?_;refine dI ca ?_;refine dI cm ?_;refine Aj ?_;exact AM rfl AA.out
theorem Pw (x y:GI)(hx:x.wf)(hy:y.wf)(fx:x.few)(fy:y.few):AL C0 127 [x.D,y.D] (Eh x y).D:=by
 by_cases h:x.sm=true/\y.sm=true∧-9223372036854775808<=x.z+y.z/\x.z+y.z<9223372036854775808
 ·exact lL x y h.1 h.2.1 h.2.2.1 h.2.2.2
 ·have:=qV x y hx hy fx fy h
  have e:Eh x y=Ac (x.z+y.z):=by
   unfold Eh;rw[AH];rintro⟨h1,h2,h3⟩;exact h ⟨h1,h2,by omega,by omega⟩
  rw[e];exact this
theorem Z8 {z:Int}(h:(Ah z.natAbs).length<1000000):(Ac (-z)).few:=by
 show(Ah (-z).natAbs).length<1000000;rw[ND];exact h
def JK (x y:GI):GI:=Eh x (Ac (-y.z))
theorem eE (x y:GI):(JK x y).z=x.z-y.z:=by unfold JK;rw[Nw];show x.z + -y.z=_;omega
theorem al (x y:GI):(JK x y).wf:=Nj _ _
theorem iP (x y:GI)(hx:x.wf)(hy:y.wf)(fx:x.few)(fy:y.few):AL C0 259 [x.D,y.D] (JK x y).D:=by
 refine Af.walk w1 cZ rfl λF=>?_
 have c1:=Pz y hy fy;have c2:=Pw x (Ac (-y.z)) hx (C4 _) fx (Z8 fy);unfold JK;refine fR 0 ?_;refine AC.seq ?_;refine CN 100 [0,1,2] [3,4] ?_;refine CH ?_;refine Bf.same _ (c1) AJ ?_;refine CH ?_;refine dI c2 ?_;refine Aj ?_;exact AM rfl AA.out
theorem yN (x y:GI)(hx:x.wf)(hy:y.wf)(fx:x.few)(fy:y.few):AL C0 240 [x.D,y.D] (i64 (EQ x.z y.z)):=by
 by_cases h:x.sm=true/\y.sm=true
 ·obtain⟨a,sa⟩:=x
  obtain⟨b,sb⟩:=y;obtain⟨h1,h2⟩:=h;dsimp only at h1 h2;subst h1;subst h2;exact rS a b
 ·have cs:=iP x y hx hy fx fy
  have cg:=N5 (JK x y) (al x y);rw[eE]at cg;have e:max (-1) (min 1 (x.z-y.z))=EQ x.z y.z:=by unfold EQ;split<;>(try split)<;>omega
  rw[e]at cg;have hpr:AA (JK x y).w:=AJ;have hpx:AA x.w:=AJ;have hpy:AA y.w:=AJ;dsimp only[GI.D]at*;generalize(JK x y).s=rs at*;generalize(JK x y).w=rw at*;generalize EQ x.z y.z=r at*;refine Af.walk w1 Vj rfl λF=>?_
  obtain⟨a,sa⟩:=x;obtain⟨b,sb⟩:=y;have nx:sa=false->(Ah a.natAbs).map AT≠[]:=λh=>IV (by
   intro h0;subst h;exact hx.2 rfl ⟨by dsimp only;omega,by dsimp only;omega⟩)
  have ny:sb=false->(Ah b.natAbs).map AT≠[]:=λh=>IV (by
   intro h0;subst h;exact hy.2 rfl ⟨by dsimp only;omega,by dsimp only;omega⟩)
  unfold GI.s GI.w wD wL at*;dsimp only at*;generalize(Ah a.natAbs).map AT=ka at*;generalize(Ah b.natAbs).map AT=kb at*;cases sa with
  |false=>
   have nx:=nx rfl;dsimp only at*;generalize(if a<0 then(-1:Int)else 1)=sg at*;generalize(match sb with|true=>b|false=>if b<0 then(-1:Int)else 1)=sh at*;generalize(match sb with|true=>CK|false=>D.sl false 1 kb)=wy at*;refine fR 0 ?_;refine AC.seq ?_;refine AC.seq ?_;refine As 100 ?_;refine AX (Ao (@ne_eq (List D)) nx E6) ?_;refine AG kT ?_;refine AG kT ?_;refine AO ?_;refine An ?_;refine fR 700 ?_;refine dI cs ?_;refine dI cg ?_;refine Aj ?_;exact AM rfl AA.out
  |true=>
   dsimp only at*;cases sb with
   |false=>
    have ny:=ny rfl;dsimp only at*;generalize(if b<0 then(-1:Int)else 1)=sh at*;refine fR 0 ?_;refine AC.seq ?_;refine AC.seq ?_;refine As 100 ?_;refine AX (Ao (@ne_eq (List D)) ny E6) ?_;refine AG (Bb kT (@ne_eq (List D)) ny E6) ?_;refine AG (Bb kT (@ne_eq (List D)) ny E6) ?_;refine AO ?_;refine An ?_;refine fR 700 ?_;refine dI cs ?_;refine dI cg ?_;refine Aj ?_;exact AM rfl AA.out
   |true=>exact Ak ⟨rfl,rfl⟩ h
theorem MP (a b:Nat):(Ah (a*b)).length<=(Ah a).length+(Ah b).length:=by
 refine Hu ?_;rw[Gq];exact Nat.mul_lt_mul'' (KF a) (KF b)
theorem pk (a b:Int):ES (decide (a<0) != decide (b<0)) (a.natAbs*b.natAbs)=a*b:=by
 rw[<-Og]
 by_cases h1:a<0<;>by_cases h2:b<0
 ·rw[Aw h1,Aw h2]
  have:0<=a*b:=Int.mul_nonneg_of_nonpos_of_nonpos (by omega) (by omega)
  show(((a*b).natAbs:Nat):Int)=a*b;omega
 ·rw[Aw h1,Az h2]
  have:a*b<=0:=Int.mul_nonpos_of_nonpos_of_nonneg (by omega) (by omega)
  show -(((a*b).natAbs:Nat):Int)=a*b;omega
 ·rw[Az h1,Aw h2]
  have:a*b<=0:=Int.mul_nonpos_of_nonneg_of_nonpos (by omega) (by omega)
  show -(((a*b).natAbs:Nat):Int)=a*b;omega
 ·rw[Az h1,Az h2]
  have:0<=a*b:=Int.mul_nonneg (by omega) (by omega)
  show(((a*b).natAbs:Nat):Int)=a*b;omega
theorem qh (x y:GI)(hx:x.wf)(hy:y.wf)(fx:(Ah x.z.natAbs).length<400000)(fy:(Ah y.z.natAbs).length<400000)(hn:¬(x.sm=true/\y.sm=true/\(x.z*y.z).natAbs<=9223372036854775807)):AL C0 125 [x.D,y.D] (Ac (x.z*y.z)).D:=by
 refine Af.walk w1 Ve rfl λF=>?_
 have cx:=KG x hx;have cy:=KG y hy;have hpr:AA (Ac (x.z*y.z)).w:=AJ;have hpx:AA x.w:=AJ;have hpy:AA y.w:=AJ;have lm:=MP x.z.natAbs y.z.natAbs;have ca:=d9Q x.z.natAbs y.z.natAbs (by omega) (by omega);have cm:=Md (decide (x.z<0) != decide (y.z<0)) (x.z.natAbs*y.z.natAbs) (by omega);rw[pk]at cm;dsimp only[GI.D]at*;refine fR 0 ?_;refine DA ⟨[(2,.optr 0 0 2 0 0),(3,.optr 1 1 2 0 0),(4,.optr 2 2 2 0 0)],[⟨2,2,132,2,[DL 0]⟩,⟨1,1,132,2,[.agg [i64 y.s,y.w]]⟩,⟨0,0,132,2,[.agg [i64 x.s,x.w]]⟩],90⟩ ?_ ?_
 ·obtain⟨a,sa⟩:=x
  obtain⟨b,sb⟩:=y;clear cx cy lm ca cm hpr;have nx:sa=false->(Ah a.natAbs).map AT≠[]:=λh=>IV (by
   intro h0;subst h;exact hx.2 rfl ⟨by dsimp only;omega,by dsimp only;omega⟩)
  have ny:sb=false->(Ah b.natAbs).map AT≠[]:=λh=>IV (by
   intro h0;subst h;exact hy.2 rfl ⟨by dsimp only;omega,by dsimp only;omega⟩)
  unfold GI.s GI.w wD wL at*;dsimp only at*;generalize(Ah a.natAbs).map AT=ka at*;generalize(Ah b.natAbs).map AT=kb at*;cases sa with
  |false=>
   have nx:=nx rfl;dsimp only at*;generalize(if a<0 then(-1:Int)else 1)=sg at*;generalize(match sb with|true=>b|false=>if b<0 then(-1:Int)else 1)=sh at*;generalize(match sb with|true=>CK|false=>D.sl false 1 kb)=wy at*;refine AC.seq ?_;refine As 100 ?_;refine AX (Ao (@ne_eq (List D)) nx E6) ?_;refine AG kT ?_;refine AG kT ?_;refine AO ?_;refine An ?_;exact BM (by trivial) (AK)
  |true=>
   dsimp only at*;cases sb with
   |false=>
    have ny:=ny rfl;dsimp only at*;generalize(if b<0 then(-1:Int)else 1)=sh at*;refine AC.seq ?_;refine As 100 ?_;refine AX (Ao (@ne_eq (List D)) ny E6) ?_;refine AG (Bb kT (@ne_eq (List D)) ny E6) ?_;refine AG (Bb kT (@ne_eq (List D)) ny E6) ?_;refine AO ?_;refine An ?_;exact BM (by trivial) (AK)
   |true=>
    have ra:=hx.1 rfl;have rb:=hy.1 rfl;dsimp only at*;have sa:=Pm ra.1 ra.2;have sb:=Pm rb.1 rb.2;have la:a.natAbs<BB:=by unfold BB;omega
    have lb:b.natAbs<BB:=by unfold BB;omega
    have c0:=PL a.natAbs b.natAbs la lb;have hab:a.natAbs*b.natAbs=(a*b).natAbs:=(Og a b).symm;have hbig:9223372036854775807<(a*b).natAbs:=DH λh=>hn ⟨rfl,rfl,by omega⟩
    rw[hab]at c0;generalize(a*b).natAbs=p at*;refine sZ 100 ?_
    repeat'(first|(refine BM (by exact CD) ?_;refine BO ?_)|((refine B1 (λhb=>?_) (λhb=>?_))<;>(try simp only[Bq,B0]at hb)<;>(try simp only[hb])<;>(refine BO ?_)))
    refine AO ?_;refine AC.seq ?_;refine CN 200 [0,1,2,3,4,5,6,7,8,9,10] [11] ?_;refine CH ?_;refine Bf.same _ (sa) AJ ?_;refine CH ?_;refine Bf.same _ (sb) AJ ?_;refine CH ?_;refine Bf.same _ (c0) AJ ?_;refine CH ?_;refine AC.seq ?_
    by_cases h0:p/18446744073709551616=0
    ·rw[h0]
     have h1:p%18446744073709551616=p:=by omega
     rw[h1];have e3:decide ((p:Int)<=9223372036854775807)=false:=Bd;refine As 300 ?_
     repeat'(first|(refine BM (by exact CD) ?_;refine BO ?_)|((refine B1 (λhb=>?_) (λhb=>?_))<;>(try simp only[Bq,B0]at hb)<;>(try simp only[hb])<;>(refine BO ?_)))
     rw[e3];refine AO ?_;refine An ?_;exact BM (by trivial) (AK)
    ·have e3:(((p/18446744073709551616:Nat):Int)==0)=false:=Bo.2 (by omega)
     refine As 300 ?_;refine AX e3 ?_;refine AG e3 ?_;refine AG e3 ?_;refine AO ?_;refine An ?_;exact BM (by trivial) (AK)
 ·refine fR 700 ?_
  refine dI cx ?_;refine fR 800 ?_;refine dI cy ?_;refine fR 900 ?_;refine dI ca ?_;refine dI cm ?_;refine Aj ?_;exact AM rfl AA.out
theorem m5 (a b:Int)(hc:Sm (a*b))(ha : -9223372036854775808<=a/\a<9223372036854775808)(hb : -9223372036854775808<=b/\b<9223372036854775808):AL C0 125 [DL a,DL b] (DL (a*b)):=by
 refine Af.walk w1 Ve rfl λF=>?_
 have hab:a.natAbs*b.natAbs=(a*b).natAbs:=(Og a b).symm;have h1:a.natAbs*b.natAbs/18446744073709551616=0:=by rw[hab];have:=hc.1;have:=hc.2;omega
 have h2:a.natAbs*b.natAbs%18446744073709551616=(a*b).natAbs:=by rw[hab];have:=hc.1;have:=hc.2;omega
 have c0:=PL a.natAbs b.natAbs (by omega) (by omega);rw[h1,h2]at c0;refine fR 0 ?_;refine AC.seq ?_;refine sZ 100 ?_
 repeat'(first|(refine BM (by exact CD) ?_;refine BO ?_)|((refine B1 (λhb=>?_) (λhb=>?_))<;>(try simp only[Bq,B0]at hb)<;>(try simp only[hb])<;>(refine BO ?_)))
 refine AO ?_;refine AC.seq ?_;refine CN 200 [0,1,2,3,4,5,6,7,8,9,10] [11] ?_;refine CH ?_;refine Bf.same _ (Pm ha.1 ha.2) AJ ?_;refine CH ?_;refine Bf.same _ (Pm hb.1 hb.2) AJ ?_;refine CH ?_;refine Bf.same _ (c0) AJ ?_;refine CH ?_;refine sZ 300 ?_
 repeat'(first|(refine BM (by exact CD) ?_;refine BO ?_)|((refine B1 (λhb=>?_) (λhb=>?_))<;>(try simp only[Bq,B0]at hb)<;>(try simp only[hb])<;>(refine BO ?_)))
 have e3:decide ((((a*b).natAbs:Nat):Int)<=9223372036854775807)=true:=Aw (by have:=hc.1;have:=hc.2;omega);rw[e3];refine AO ?_;refine AC.seq ?_;refine fR 400 ?_;refine AO ?_;have e4:IntKind.i64.wrap (((a*b).natAbs:Nat):Int)=((a*b).natAbs:Nat):=wN (by have:=hc.1;have:=hc.2;omega)
 (refine B1 (λh41=>?_) (λh41=>?_))<;>(try simp only[Bq,B0]at h41)<;>(try simp only[h41])
 ·have e5:IntKind.i64.wrap (0-(((a*b).natAbs:Nat):Int)) = -((a*b).natAbs:Nat):=by
   rw[wI (by have:=hc.1;have:=hc.2;omega) (by have:=hc.1;have:=hc.2;omega)];omega
  have e6 : -(((a*b).natAbs:Nat):Int)=a*b:=by
   have hs:(a<0)≠(b<0):=by simpa using h41
   have:a*b<=0:=by
    by_cases h1:a<0
    ·have h2:¬b<0:=λh2=>hs (by simp[h1,h2])
     exact Int.mul_nonpos_of_nonpos_of_nonneg (by omega) (by omega)
    ·have h2:b<0:=DH λh2=>hs (by simp[h1,h2])
     exact Int.mul_nonpos_of_nonneg_of_nonpos (by omega) (by omega)
   omega
  refine sZ 500 ?_;refine K0 (Ao e4 e5 e6) ?_;refine Aj ?_;exact AM rfl AA.out
 ·have e6:(((a*b).natAbs:Nat):Int)=a*b:=by
   have hs:¬((a<0)≠(b<0)):=by simpa using h41
   have:0<=a*b:=by
    by_cases h1:a<0
    ·have h2:b<0:=DH λh2=>hs (by simp[h1,h2])
     exact Int.mul_nonneg_of_nonpos_of_nonpos (by omega) (by omega)
    ·have h2:¬b<0:=λh2=>hs (by simp[h1,h2])
     exact Int.mul_nonneg (by omega) (by omega)
   omega
  rw[e6]at e4;refine An ?_;refine sZ 600 ?_;refine K0 (Aa e6 e4) ?_;refine Aj ?_;exact AM rfl AA.out
theorem gW (x y:GI)(hx:x.wf)(hy:y.wf)(fx:(Ah x.z.natAbs).length<400000)(fy:(Ah y.z.natAbs).length<400000):AL C0 125 [x.D,y.D] (Ac (x.z*y.z)).D:=by
 by_cases h:x.sm=true/\y.sm=true/\(x.z*y.z).natAbs<=9223372036854775807
 ·obtain⟨a,sa⟩:=x
  obtain⟨b,sb⟩:=y;obtain⟨h1,h2,h3⟩:=h;dsimp only at h1 h2 h3;subst h1;subst h2;have hs:Sm (a*b):=⟨by omega,by omega⟩
  dsimp only;rw[KO hs];exact m5 a b hs (hx.1 rfl) (hy.1 rfl)
 ·exact qh x y hx hy fx fy h
def M1 (x:GI):GI:=if x.z<0 then Ac (-x.z)else x
theorem tX (x:GI):(M1 x).z=(x.z.natAbs:Nat):=by
 unfold M1;split
 ·show -x.z=_;omega
 ·omega
theorem qT (x:GI)(h:x.wf):(M1 x).wf:=by
 unfold M1;split
 ·exact C4 _
 ·exact h
theorem fj (x:GI)(h:x.wf)(hf:x.few):AL C0 212 [x.D] (M1 x).D:=by
 refine Af.walk w1 bz rfl λF=>?_
 have hs:=du x h;have cn:=Pz x h hf;have hpx:AA x.w:=AJ;have hpr:AA (Ac (-x.z)).w:=AJ;unfold M1
 by_cases hz:x.z<0
 ·have e:decide (x.s<0)=true:=Aw (by rw[hs];exact hz)
  rw[AI hz];dsimp only[GI.D]at*;refine fR 0 ?_;refine AC.seq ?_;refine fR 100 ?_;rw[e];refine AO ?_;refine fR 200 ?_;refine dI cn ?_;refine Aj ?_;exact AM rfl AA.out
 ·have e:decide (x.s<0)=false:=Az (by rw[hs];exact hz)
  rw[AH hz];dsimp only[GI.D]at*;refine fR 0 ?_;refine AC.seq ?_;refine fR 100 ?_;rw[e];refine AO ?_;refine An ?_;refine fR 300 ?_;refine Aj ?_;exact AM rfl AA.out
structure MV (B Y u1 u0:Nat)(q r:Nat):Prop where
 eq:q*(Y/B)+r=u1
 up:u1*B+u0<(q+1)*Y
 q2:q<=B+1
theorem Xk {B Y u1 u0:Nat}(hB:0<B)(hY:B*B<=2*Y)(hY2:Y<B*B)(hev:B%2=0)(hu:u1<Y)(h0:u0<B):
  MV B Y u1 u0 (u1/(Y/B)) (u1-u1/(Y/B)*(Y/B))/\u1-u1/(Y/B)*(Y/B)<B:=by
 have e:=FF Y B;have m:=B7 Y hB;generalize hg:Y/B=y1 at*;generalize Y%B=y0 at*;have hy1:y1<B:=by
  rcases BE y1 B with h|h
  ·exact h
  ·have:=Cy B h
   omega
 have hy2:B<=2*y1:=by
  rcases BE (2*y1) B with h|h
  ·exfalso
   have h1:2*y1+2<=B:=by omega
   have h2:=Cy B h1;have h3:B*(2*y1+2)=2*(B*y1)+2*B:=by
    rw[BQ,JR,Ba B 2]
   omega
  ·exact h
 have e1:=FF u1 y1;have m1:=B7 u1 (show 0<y1 by omega);have c1:y1*(u1/y1)=u1/y1*y1:=Ba _ _;refine⟨⟨by rw[hg];omega,?_,?_⟩,by omega⟩
 ·generalize hq:u1/y1=q at*
  have h1:u1+1<=(q+1)*y1:=by rw[Bz];omega
  have h2:=CV B h1;have h3:(q+1)*Y=(q+1)*y1*B+(q+1)*y0:=by
   rw[<-e,BQ,Ba B y1,B4]
  rw[Bz]at h2;omega
 ·rcases BE (B+1) (u1/y1)with h|h
  ·exfalso
   have h1:=Cy y1 (show B+2<=u1/y1 by omega);have h2:y1*(B+2)=B*y1+2*y1:=by rw[BQ,Ba y1 B,Ba y1 2]
   omega
  ·exact h
theorem YQ {B Y u1 u0 q r:Nat}(hB:0<B)(hu:u1<Y)(h0:u0<B)(I:MV B Y u1 u0 q r)
  (c:B<=q\/B*r+u0<q*(Y%B)):0<q/\MV B Y u1 u0 (q-1) (r+Y/B):=by
 have e:=FF Y B;obtain⟨i1,i2,i3⟩:=I;generalize hg:Y/B=y1 at*;generalize Y%B=y0 at*;have hq:0<q:=by
  rcases c with c|c
  ·omega
  ·rcases D7 q with h|h
   ·subst h;omega
   ·exact h
 obtain⟨p,rfl⟩:∃p,q=p+1:=⟨q-1,by omega⟩
 refine⟨hq,⟨?_,?_,?_⟩⟩
 ·rw[JP,hg,Ba p];rw[Bz,Ba p]at i1;omega
 ·rw[JP]
  rcases c with c|c
  ·have h1:=CV Y c
   have h2:(u1+1)*B<=Y*B:=CV B hu;rw[Bz]at h2;rw[Ba Y B]at h2;omega
  ·have h3:(p+1)*Y=(p+1)*y1*B+(p+1)*y0:=by
    rw[<-e,BQ,Ba B y1,B4]
   have h4:u1*B=(p+1)*y1*B+r*B:=by rw[<-i1,Bz]
   rw[Ba r B]at h4;omega
 ·omega
theorem UH {B Y u1 u0 q r:Nat}(I:MV B Y u1 u0 q r)
  (c:q*(Y%B)<=B*r+u0):q=(u1*B+u0)/Y:=by
 have e:=FF Y B;obtain⟨i1,i2,i3⟩:=I;have h3:q*Y=q*(Y/B)*B+q*(Y%B):=by
  conv=>lhs;rw[<-e]
  rw[BQ,Ba B (Y/B),B4]
 have h4:u1*B=q*(Y/B)*B+r*B:=by rw[<-i1,Bz]
 rw[Ba r B]at h4;have h5:0<Y:=by
  rcases D7 Y with h|h
  ·subst h;omega
  ·exact h
 symm
 apply Nat.div_eq_of_lt_le
 ·omega
 ·exact i2
theorem Xj {B Y u1 u0 q r:Nat}(hB:0<B)(I:MV B Y u1 u0 q r)(hq:q<=B)(hr:B<=r):
  q=(u1*B+u0)/Y:=by
 refine UH I ?_;have m:=B7 Y hB;have h1:q*(Y%B)<=B*B:=JU hq (by omega);have h2:=Cy B hr;omega
theorem l7 {B N S y u32 u1 u0 v:Nat}(hS:0<S)(hy:0<y)(hN:N*S=u32*(B*B)+(u1*B+u0))(hv:v=(u32*B+u1)%(y*S)):
  (u32*B+u1)/(y*S)*B+(v*B+u0)/(y*S)=N/y/\(v*B+u0)%(y*S)/S=N%y:=by
 have hY0:0<y*S:=IK hy hS;have e1:=FF (u32*B+u1) (y*S);have e2:=FF (v*B+u0) (y*S);have m2:=B7 (v*B+u0) hY0;rw[<-hv]at e1;have dY:N*S/(y*S)=N/y:=QY _ _ hS;have mY:N*S%(y*S)=N%y*S:=QZ _ _ _;generalize(u32*B+u1)/(y*S)=q1 at*;generalize(v*B+u0)/(y*S)=q0 at*;generalize(v*B+u0)%(y*S)=r at*;generalize y*S=Y at*;have hT:N*S=r+Y*(q1*B+q0):=by
  have c1:u32*(B*B)+u1*B=Y*q1*B+v*B:=by
   rw[<-B4,<-Bz,<-e1,Bz]
  rw[hN,BQ,<-B4 Y q1 B];omega
 refine⟨?_,?_⟩
 ·rw[<-dY,hT,TW _ _ hY0,IL m2,BV]
 ·rw[hT,TP,Ft m2]at mY
  rw[mY,Nat.mul_div_cancel _ hS]
theorem oU {hi lo y s:Nat}(hs:s<=63)(h1:hi<y)(hlo:lo<18446744073709551616):
  lo/2^(64-s)<2^s/\hi*2^s+lo/2^(64-s)<y*2^s /\
   (hi*18446744073709551616+lo)*2^s=(hi*2^s+lo/2^(64-s))*18446744073709551616+lo*2^s%18446744073709551616:=by
 have hp:0<2^s:=Ho s;have hpp:2^(64-s)*2^s=18446744073709551616:=by
  rw[<-Gq,show 64-s+s=64 by omega]
 have hl:lo*2^s/18446744073709551616=lo/2^(64-s):=by
  rw[<-hpp,QY _ _ hp]
 have hl2:lo/2^(64-s)<2^s:=Fr (by rw[hpp];exact hlo);refine⟨hl2,?_,?_⟩
 ·have:(hi+1)*2^s<=y*2^s:=CV _ h1
  rw[Bz]at this;omega
 ·have e:=FF (lo*2^s) 18446744073709551616
  rw[hl]at e;rw[Bz,Bz,Nat.mul_right_comm];omega
theorem Vx {a b s:Nat}(h:b<2^s):(a*2^s) ||| b=a*2^s+b:=by
 rw[Ba,Nat.two_pow_add_eq_or_of_lt h]
theorem gU (x:Nat)(hx:x<BB):AL C0 195 [AT x] (i64 (64-(Lib.bitLen x:Int))):=by
 refine⟨⟨_,_,Tryz.func195,rfl,by kernel_rfl⟩,λY w vs hG hnG hX hvs hr=>?_⟩
 have:=RS hvs hr
 subst this;refine(Tryz.bits_LeadingZeros64 x w (by omega) (by unfold BB at hx;omega)).mono ?_;rintro e w' ⟨rfl,rfl⟩;exact⟨_,_,rfl,.refl _ _,rfl,.prim _⟩
theorem YK {x:Nat}(h0:x≠0)(hx:x<BB):∃s,s<=63/\(64-(Lib.bitLen x:Int))=(s:Nat)/\9223372036854775808<=x*2^s/\x*2^s<18446744073709551616:=by
 obtain⟨h1,h2,h3⟩:=Lib.bitLenAux_bounds 64 x hx h0;have h4:=Lib.bitLen_le x 64 (Ar _) hx;have h5:Lib.bitLenAux 64 x=Lib.bitLen x:=rfl;rw[h5]at h1 h2 h3;refine⟨64-Lib.bitLen x,by omega,by omega,?_,?_⟩
 ·have:=CV (2^(64-Lib.bitLen x)) h2
  rw[<-Gq,show Lib.bitLen x-1+(64-Lib.bitLen x)=63 by omega]at this;exact this
 ·have:=(Nat.mul_lt_mul_right (Ho (64-Lib.bitLen x))).2 h3
  rw[<-Gq,show Lib.bitLen x+(64-Lib.bitLen x)=64 by omega]at this;exact this
theorem Jg (n:Nat):IntKind.u64.wrap (n:Int)=((n%18446744073709551616:Nat):Int):=by
 have e1:(2:Int)^IntKind.u64.bits=18446744073709551616:=rfl;unfold IntKind.wrap;simp only[e1];have e3:IntKind.u64.signed=false:=rfl;rw[e3];simp only[Hk,Fs,if_false];omega
theorem P6 (x s:Nat)(hs:s<=63):Lr .u64 (x:Int) (s:Int)=((x*2^s%18446744073709551616:Nat):Int):=by
 have hm:min ((s:Int)).toNat (IntKind.bits .u64)=s:=by
  have:IntKind.bits .u64=64:=rfl
  rw[this];omega
 unfold Lr;rw[hm]
 have:(x:Int)*2^s=((x*2^s:Nat):Int):=by simp
 rw[this];exact Jg _
theorem OL (x s:Nat)(hs:s<=64):M7 .u64 (x:Int) (s:Int)=((x/2^s:Nat):Int):=by
 have hm:min ((s:Int)).toNat (IntKind.bits .u64)=s:=by
  have:IntKind.bits .u64=64:=rfl
  rw[this];omega
 unfold M7;rw[hm]
 have:(2:Int)^s=((2^s:Nat):Int):=by simp
 rw[this,Int.fdiv_eq_ediv_of_nonneg _ (Int.natCast_nonneg _)];exact(Int.natCast_ediv _ _).symm
theorem TD (a:Nat)(ha:a<18446744073709551616):(BitVec.ofInt (IntKind.bits .u64) (a:Int)).toNat=a:=by
 rw[show IntKind.bits .u64=64 from rfl,BitVec.ofInt_natCast,BitVec.toNat_ofNat];exact Ft ha
theorem Wy (a b:Nat)(ha:a<18446744073709551616)(hb:b<18446744073709551616):H3 .or .u64 (a:Int) (b:Int)=((a ||| b:Nat):Int):=by
 have h:a ||| b<2^64:=Nat.or_lt_two_pow ha hb;show IntKind.u64.wrap ((BitVec.ofInt (IntKind.bits .u64) (a:Int) ||| BitVec.ofInt (IntKind.bits .u64) (b:Int)).toNat:Int)=_;rw[BitVec.toNat_or,TD a ha,TD b hb,Jg];exact congrArg Nat.cast (Ft h)
theorem fk (a:Nat)(ha:a<18446744073709551616):H3 .and .u64 (a:Int) 4294967295=((a%4294967296:Nat):Int):=by
 show IntKind.u64.wrap ((BitVec.ofInt (IntKind.bits .u64) (a:Int) &&& BitVec.ofInt (IntKind.bits .u64) ((4294967295:Nat):Int)).toNat:Int)=_;rw[BitVec.toNat_and,TD a ha,TD _ (by decide),Jg,show(4294967295:Nat)=2^32-1 from rfl,Nat.and_two_pow_sub_one_eq_mod];exact congrArg Nat.cast (JZ)
theorem V7 (a b:Nat):IntKind.u64.wrap ((a:Int).tdiv (b:Int))=((a/b%18446744073709551616:Nat):Int):=by
 rw[<-Int.ofNat_tdiv];exact Jg _
theorem eF {a b:Nat}(h:b<=a)(ha:a<18446744073709551616):IntKind.u64.wrap ((a:Int)-(b:Int))=((a-b:Nat):Int):=by
 rw[<-Int.natCast_sub h,Jg];exact congrArg Nat.cast (JZ)
section
variable {C:BA} {B F:Ad} {s:St} {rd:Option Nat} {Q:Exit->Ad->St->Prop}
theorem jM {a b:Code}(S:Nat->St)(h1:AC C B rd F a s (λe F1 s1=>Jr (F1=F/\∃n,Wk s1 (S n)) (λe=>Q e F1 s1) e))(h2:∀n,AC C B rd F b (S n) Q):AC C B rd F (.seq a b) s Q:=
 AC.seq (h1.mono λe F1 s1 h=>by
  cases e with
  |normal=>
   obtain⟨h0,n,h3⟩:=(show F1=F/\∃n,Wk s1 (S n)from h)
   rw[h0];exact AC.weak (S n) h3 (h2 n)
  |ret=>exact h
  |exit j=>exact h
  |goto l=>exact h
  |panic c=>exact h
  |outgrown=>exact h)
end
theorem Nh (z:Int):IntKind.u64.wrap z=z%18446744073709551616:=by
 have e1:(2:Int)^IntKind.u64.bits=18446744073709551616:=rfl;unfold IntKind.wrap;simp only[e1];have e3:IntKind.u64.signed=false:=rfl;rw[e3];simp only[Hk,Fs,if_false]
theorem kD (a b:Nat)(ha:a<4294967296)(hb:b<4294967296):IntKind.u64.wrap (IntKind.u64.wrap ((a:Int)*4294967296)+(b:Int))=((a*4294967296+b:Nat):Int):=by
 rw[Nh,Nh];omega
theorem Yv (a c q Y:Nat)(hY:0<Y)(hY2:Y<18446744073709551616)(hq:q=(a*4294967296+c)/Y):
  IntKind.u64.wrap (IntKind.u64.wrap (IntKind.u64.wrap ((a:Int)*4294967296)+(c:Int))-IntKind.u64.wrap ((q:Int)*(Y:Int)))=(((a*4294967296+c)%Y:Nat):Int):=by
 have e:=FF (a*4294967296+c) Y;have m:=B7 (a*4294967296+c) hY;rw[<-hq,Ba Y q]at e;generalize(a*4294967296+c)%Y=v at*;rw[<-Gm q Y];generalize q*Y=Q at*;rw[Nh,Nh,Nh,Nh];omega
structure tS (hi lo y s Y u u10:Nat):Prop where
 s63:s<=63
 eY:Y=y*2^s
 big:9223372036854775808<=Y
 Yl:Y<18446744073709551616
 uY:u<Y
 u10l:u10<18446744073709551616
 N:(hi*BB+lo)*2^s=u*18446744073709551616+u10
 e8:Lr .u64 (y:Int) (s:Int)=(Y:Int)
 e9:M7 .u64 (Y:Int) 32=((Y/4294967296:Nat):Int)
 e10:H3 .and .u64 (Y:Int) 4294967295=((Y%4294967296:Nat):Int)
 ew:IntKind.u64.wrap (64-(s:Int))=((64-s:Nat):Int)
 e11:H3 .or .u64 (Lr .u64 (hi:Int) (s:Int)) (M7 .u64 (lo:Int) ((64-s:Nat):Int))=(u:Int)
 e12:Lr .u64 (lo:Int) (s:Int)=(u10:Int)
 e13:M7 .u64 (u10:Int) 32=((u10/4294967296:Nat):Int)
 e14:H3 .and .u64 (u10:Int) 4294967295=((u10%4294967296:Nat):Int)
theorem oN {hi lo y s:Nat}(h1:hi<y)(hlo:lo<BB)(hs:s<=63)(t1:9223372036854775808<=y*2^s)(t2:y*2^s<18446744073709551616):
  ∃Y u u10,tS hi lo y s Y u u10:=by
 obtain⟨m1,m2,m3⟩:=oU hs h1 hlo;have hpos:0<2^s:=Ho s;have hh:hi*2^s<18446744073709551616:=Dy (Nat.le_add_right _ _) (Gp m2 t2);have hl:lo/2^(64-s)<18446744073709551616:=Dy (Gn _ _) hlo;refine⟨_,_,_,hs,rfl,t1,t2,m2,B7 _ (by decide),m3,?_,OL _ 32 (by decide),fk _ t2,?_,?_,P6 lo s hs,OL _ 32 (by decide),fk _ (B7 _ (by decide))⟩
 ·rw[P6 y s hs,Ft t2]
 ·rw[wU];omega
 ·rw[P6 hi s hs,Ft hh,OL lo (64-s) (by omega),Wy _ _ hh hl,Vx m1]
theorem ZK (hi lo y:Nat)(h1:hi<y)(hlo:lo<BB)(hy:y<BB):AL C0 193 [AT hi,AT lo,AT y] (.tup [AT ((hi*BB+lo)/y),AT ((hi*BB+lo)%y)]):=by
 refine Af.walk w1 bs rfl λF=>?_
 have y0:¬(y:Int)=0:=by omega
 have c1:((y:Int)==0)=false:=by simp;omega
 have c2:decide ((y:Int)<=(hi:Int))=false:=Bd;refine sR 0 ?_;refine AC.seq ?_;refine sZ 100 ?_;refine AX c1 ?_;refine AO ?_;refine An ?_;refine AC.seq ?_;refine sZ 300 ?_;refine AX c2 ?_;refine AO ?_;refine An ?_;refine AC.seq ?_;refine sR 500 ?_;refine AO ?_
 (refine B1 (λh27=>?_) (λh27=>?_))<;>(try simp only[Bq,B0]at h27)<;>(try simp only[h27])
 ·have hi0:hi=0:=by simpa using h27
  subst hi0;refine AC.seq ?_;refine CN 600 [0,1,2,3,4,5,6] [7] ?_;refine BU ?_;refine Aj ?_;refine AM ?_ AA.out;have l1:lo/y<18446744073709551616:=Dy (Gn _ _) hlo;rw[V7,Ft l1,Hq,BV];rfl
 ·obtain⟨s,hs,es,t1,t2⟩:=YK (x:=y) (by omega) hy
  have cl:=gU y hy;rw[es]at cl;have ws:IntKind.u64.wrap (s:Int)=(s:Int):=wU;obtain⟨Y,u,u10,L⟩:=oN h1 hlo hs t1 t2;have ew0:(0:Int)<=IntKind.u64.wrap (64-(s:Int)):=by rw[L.ew];omega
  refine An ?_;refine sR 700 ?_;refine cI cl ?_;rw[ws];refine sZ 800 ?_;refine AX L.e8 ?_;refine sZ 900 ?_;refine AX L.e9 ?_;refine sZ 1000 ?_;refine AX L.e10 ?_;refine sZ 1100 ?_;refine AG (Aa L.ew L.e11) ?_;refine sZ 1200 ?_;refine AX L.e12 ?_;refine sZ 1300 ?_;refine AX L.e13 ?_;refine sZ 1400 ?_;refine AX L.e14 ?_;have hB:2147483648<=Y/4294967296:=by have:=L.big;omega
  have hB2:Y/4294967296<4294967296:=by have:=L.Yl;omega
  have n0:¬((Y/4294967296:Nat):Int)=0:=by omega
  obtain⟨I0,r0⟩:=Xk (B:=4294967296) (u0:=u10/4294967296) (by decide) (by have:=L.big;omega) L.Yl (by decide) L.uY (by have:=L.u10l;omega);have q0l:=I0.q2;have hu64:u<18446744073709551616:=Gp L.uY L.Yl;have hqy:=Nat.div_mul_le_self u (Y/4294967296);have e15:IntKind.u64.wrap ((u:Int).tdiv ((Y/4294967296:Nat):Int))=((u/(Y/4294967296):Nat):Int):=by
   rw[V7,JZ]
  have e16:IntKind.u64.wrap ((u:Int)-IntKind.u64.wrap (((u/(Y/4294967296):Nat):Int)*((Y/4294967296:Nat):Int)))=((u-u/(Y/4294967296)*(Y/4294967296):Nat):Int):=by
   rw[<-Gm,Jg,JZ,eF hqy hu64]
  refine sZ 1500 ?_;refine AX e15 ?_;refine sZ 1600 ?_;refine AX e16 ?_;have hu1:u10/4294967296<4294967296:=by have:=L.u10l;omega
  have hy0:Y%4294967296<4294967296:=B7 _ (by decide);generalize hu1e:u10/4294967296=u1 at*;generalize hu0e:u10%4294967296=u0 at*;refine jM (λn=>⟨[(2,AT Y),(6,u64 0),(7,u64 0),(8,AT s),(9,AT (Y/4294967296)),(10,AT (Y%4294967296)),(11,AT u),(13,AT u1),(14,AT u0),(15,AT ((u*4294967296+u1)/Y))],[],n⟩) ?_ λn=>?_
  ·refine AC.block ?_
   refine HH (α:=Nat×Nat×Nat) (λp=>⟨[(2,AT Y),(6,u64 0),(7,u64 0),(8,AT s),(9,AT (Y/4294967296)),(10,AT (Y%4294967296)),(11,AT u),(13,AT u1),(14,AT u0),(15,AT p.1),(16,AT p.2.1)],[],p.2.2⟩) (λp=>p.1)
    (λp F'=>F'=F/\MV 4294967296 Y u u1 p.1 p.2.1/\p.2.1<4294967296) (_,_,_)
    ⟨rfl,I0,r0⟩ AK ?_
   rintro⟨q,r,m⟩ F' ⟨rfl,I,hr⟩;dsimp only at I hr⊢;have hq2:=I.q2;refine AC.seq ?_;obtain⟨b,hbt⟩:∃b:Bool,b=decide (4294967296<=q\/4294967296*r+u1<q*(Y%4294967296)):=⟨_,rfl⟩
   refine DA ⟨[(2,AT Y),(6,u64 0),(7,u64 0),(8,AT s),(9,AT (Y/4294967296)),(10,AT (Y%4294967296)),(11,AT u),(13,AT u1),(14,AT u0),(15,AT q),(16,AT r),(78,Al b)],[],m+30⟩ ?_ ?_
   ·rcases BE q 4294967296 with hq|hq
    ·have e1:decide ((q:Int)>=4294967296)=false:=Bd
     have hqy:q*(Y%4294967296)<=4294967295*4294967295:=JU (by omega) (by omega);have k1:IntKind.u64.wrap ((q:Int)*((Y%4294967296:Nat):Int))=((q*(Y%4294967296):Nat):Int):=by
      rw[<-Gm,Jg,JZ]
     have k2:IntKind.u64.wrap (4294967296*(r:Int))=((4294967296*r:Nat):Int):=by rw[wU];omega
     have k3:IntKind.u64.wrap (((4294967296*r:Nat):Int)+(u1:Int))=((4294967296*r+u1:Nat):Int):=by rw[wU];omega
     have k4:decide (((q*(Y%4294967296):Nat):Int)>((4294967296*r+u1:Nat):Int))=b:=by
      rw[hbt];exact DO.2 ⟨λh=>Or.inr (by omega),λh=>by rcases h with h|h<;>omega⟩
     refine As 1700 ?_;refine AG e1 ?_;refine AG (CS kF k1 k2 k3 k4) ?_;exact BM (by trivial) (AK)
    ·have e1:decide ((q:Int)>=4294967296)=true:=BR
     have hb:b=true:=by rw[hbt];exact Aw (Or.inl hq)
     subst hb;refine As 1700 ?_;refine AG e1 ?_;refine AG kT ?_;exact BM (by trivial) (AK)
   ·cases b
    ·have hc:=Do hbt.symm
     have hq:=UH I (by omega);subst hq;refine AO ?_;refine CG ?_;exact⟨rfl,_,AK⟩
    ·have hc:=DN hbt.symm
     obtain⟨hq0,I2⟩:=YQ (by decide) L.uY hu1 I hc;have hq3:=I2.q2;have k1:IntKind.u64.wrap ((q:Int)-1)=((q-1:Nat):Int):=by rw[wU];omega
     have k2:IntKind.u64.wrap ((r:Int)+((Y/4294967296:Nat):Int))=((r+Y/4294967296:Nat):Int):=by rw[wU];omega
     refine AO ?_;refine An ?_;refine AC.block ?_;refine sZ 1800 ?_;refine AX k1 ?_;refine sZ 1900 ?_;refine AX k2 ?_;refine sR 2000 ?_;refine AO ?_
     (refine B1 (λh85=>?_) (λh85=>?_))<;>(try simp only[Bq,B0]at h85)<;>(try simp only[h85])
     ·have hq:=Xj (by decide) I2 (by omega) (by have:=DN h85;omega)
      rw[hq];refine CG ?_;exact⟨rfl,_,AK⟩
     ·refine An ?_
      refine⟨(q-1,r+Y/4294967296,_),⟨rfl,I2,by have:=Do h85;dsimp only;omega⟩,by dsimp only;omega,AK⟩
  ·have hY0:0<Y:=by have:=L.big;omega
   have e21:=Yv u u1 _ Y hY0 L.Yl rfl;have q1l:(u*4294967296+u1)/Y<4294967296:=by
    refine Fr ?_
    have:(u+1)*4294967296<=Y*4294967296:=CV _ L.uY
    rw[Bz]at this;omega
   have hvY:(u*4294967296+u1)%Y<Y:=B7 _ hY0;have tr:=l7 (B:=4294967296) (N:=hi*BB+lo) (S:=2^s) (y:=y) (u32:=u) (u1:=u1) (u0:=u0) (v:=(u*4294967296+u1)%Y) (Ho s) (by omega) (by rw[L.N];omega) (by rw[L.eY]);rw[<-L.eY]at tr;clear e15 e16 I0 r0 q0l hqy;obtain⟨q1,hq1e⟩:∃x,x=(u*4294967296+u1)/Y:=⟨_,rfl⟩
   rw[<-hq1e]at e21 q1l tr⊢;obtain⟨v,hve⟩:∃x,x=(u*4294967296+u1)%Y:=⟨_,rfl⟩
   rw[<-hve]at e21 hvY tr;have hu0:u0<4294967296:=by rw[<-hu0e];exact B7 _ (by decide)
   obtain⟨J0,s0⟩:=Xk (B:=4294967296) (u0:=u0) (by decide) (by have:=L.big;omega) L.Yl (by decide) hvY hu0;have q0l:=J0.q2;have hv64:v<18446744073709551616:=Gp hvY L.Yl;have hqy:=Nat.div_mul_le_self v (Y/4294967296);have e22:IntKind.u64.wrap ((v:Int).tdiv ((Y/4294967296:Nat):Int))=((v/(Y/4294967296):Nat):Int):=by
    rw[V7,JZ]
   have e23:IntKind.u64.wrap ((v:Int)-IntKind.u64.wrap (((v/(Y/4294967296):Nat):Int)*((Y/4294967296:Nat):Int)))=((v-v/(Y/4294967296)*(Y/4294967296):Nat):Int):=by
    rw[<-Gm,Jg,JZ,eF hqy hv64]
   refine sZ 2100 ?_;refine AX e21 ?_;refine sZ 2200 ?_;refine AX e22 ?_;refine sZ 2300 ?_;refine AX e23 ?_;refine jM (λn=>⟨[(2,AT Y),(6,u64 0),(7,u64 0),(8,AT s),(9,AT (Y/4294967296)),(10,AT (Y%4294967296)),(11,AT u),(13,AT u1),(14,AT u0),(15,AT q1),(17,AT v),(18,AT ((v*4294967296+u0)/Y))],[],n⟩) ?_ λn=>?_
   ·refine AC.block ?_
    refine HH (α:=Nat×Nat×Nat) (λp=>⟨[(2,AT Y),(6,u64 0),(7,u64 0),(8,AT s),(9,AT (Y/4294967296)),(10,AT (Y%4294967296)),(11,AT u),(13,AT u1),(14,AT u0),(15,AT q1),(17,AT v),(18,AT p.1),(16,AT p.2.1)],[],p.2.2⟩) (λp=>p.1)
     (λp F'=>F'=F/\MV 4294967296 Y v u0 p.1 p.2.1/\p.2.1<4294967296) (_,_,_)
     ⟨rfl,J0,s0⟩ AK ?_
    rintro⟨q,r,m⟩ F' ⟨rfl,I,hr⟩;dsimp only at I hr⊢;have hq2:=I.q2;refine AC.seq ?_;obtain⟨b,hbt⟩:∃b:Bool,b=decide (4294967296<=q\/4294967296*r+u0<q*(Y%4294967296)):=⟨_,rfl⟩
    refine DA ⟨[(2,AT Y),(6,u64 0),(7,u64 0),(8,AT s),(9,AT (Y/4294967296)),(10,AT (Y%4294967296)),(11,AT u),(13,AT u1),(14,AT u0),(15,AT q1),(17,AT v),(18,AT q),(16,AT r),(113,Al b)],[],m+30⟩ ?_ ?_
    ·rcases BE q 4294967296 with hq|hq
     ·have e1:decide ((q:Int)>=4294967296)=false:=Bd
      have hqy:q*(Y%4294967296)<=4294967295*4294967295:=JU (by omega) (by omega);have k1:IntKind.u64.wrap ((q:Int)*((Y%4294967296:Nat):Int))=((q*(Y%4294967296):Nat):Int):=by
       rw[<-Gm,Jg,JZ]
      have k2:IntKind.u64.wrap (4294967296*(r:Int))=((4294967296*r:Nat):Int):=by rw[wU];omega
      have k3:IntKind.u64.wrap (((4294967296*r:Nat):Int)+(u0:Int))=((4294967296*r+u0:Nat):Int):=by rw[wU];omega
      have k4:decide (((q*(Y%4294967296):Nat):Int)>((4294967296*r+u0:Nat):Int))=b:=by
       rw[hbt];exact DO.2 ⟨λh=>Or.inr (by omega),λh=>by rcases h with h|h<;>omega⟩
      refine As 2400 ?_;refine AG e1 ?_;refine AG (CS kF k1 k2 k3 k4) ?_;exact BM (by trivial) (AK)
     ·have e1:decide ((q:Int)>=4294967296)=true:=BR
      have hb:b=true:=by rw[hbt];exact Aw (Or.inl hq)
      subst hb;refine As 2400 ?_;refine AG e1 ?_;refine AG kT ?_;exact BM (by trivial) (AK)
    ·cases b
     ·have hc:=Do hbt.symm
      have hq:=UH I (by omega);subst hq;refine AO ?_;refine CG ?_;exact⟨rfl,_,AK⟩
     ·have hc:=DN hbt.symm
      obtain⟨hq0,I2⟩:=YQ (by decide) hvY hu0 I hc;have hq3:=I2.q2;have k1:IntKind.u64.wrap ((q:Int)-1)=((q-1:Nat):Int):=by rw[wU];omega
      have k2:IntKind.u64.wrap ((r:Int)+((Y/4294967296:Nat):Int))=((r+Y/4294967296:Nat):Int):=by rw[wU];omega
      refine AO ?_;refine An ?_;refine AC.block ?_;refine sZ 2500 ?_;refine AX k1 ?_;refine sZ 2600 ?_;refine AX k2 ?_;refine sR 2700 ?_;refine AO ?_
      (refine B1 (λh120=>?_) (λh120=>?_))<;>(try simp only[Bq,B0]at h120)<;>(try simp only[h120])
      ·have hq:=Xj (by decide) I2 (by omega) (by have:=DN h120;omega)
       rw[hq];refine CG ?_;exact⟨rfl,_,AK⟩
      ·refine An ?_
       refine⟨(q-1,r+Y/4294967296,_),⟨rfl,I2,by have:=Do h120;dsimp only;omega⟩,by dsimp only;omega,AK⟩
   ·have e28:=Yv v u0 _ Y hY0 L.Yl rfl
    have hm28:(v*4294967296+u0)%Y<Y:=B7 _ hY0;have q2l:(v*4294967296+u0)/Y<4294967296:=by
     refine Fr ?_
     have:(v+1)*4294967296<=Y*4294967296:=CV _ hvY
     rw[Bz]at this;omega
    have k1:=kD q1 ((v*4294967296+u0)/Y) q1l q2l;have k2:=OL ((v*4294967296+u0)%Y) s (by omega);rw[tr.1]at k1;rw[tr.2]at k2;refine sZ 2800 ?_;refine AG (Ao k1 e28 k2) ?_;refine Aj ?_;exact AM rfl AA.out
theorem Xq {n2 v1 P U V q:Nat}(hU:U<(n2+1)*P)(hV:v1*P<=V)(hq:n2+1<=(q+1)*v1):U<(q+1)*V:=by
 have h1:=CV P hq;have h2:=Cy (q+1) hV;rw[B4]at h1;omega
theorem X8 {n3 D P U V q:Nat}(hU:U<(n3+1)*P)(hV:D*P<=V)(hq:n3<q*D):U<q*V:=by
 have h1:=CV P (show n3+1<=q*D from hq);have h2:=Cy q hV;rw[B4]at h1;omega
theorem Ys {n3 D P U V q B v:Nat}(hU:n3*P<=U)(hV:V=D*P+v)(hv:v<P)(hq:q*D<=n3)(hqB:q<=B)(hD:B<=D):q*V<=U+V:=by
 have h1:=CV P hq;rw[B4]at h1;have h2:q*v<=B*P:=JU hqB (by omega);have h3:=CV P hD;have h4:q*V=q*(D*P)+q*v:=by rw[hV,BQ]
 omega
theorem Xm {c x s:Nat}(hs:s<=63)(hc:c<2^s)(hx:x<18446744073709551616):
  c |||(x*2^s%18446744073709551616)=c+x*2^s%18446744073709551616/\c+x*2^s%18446744073709551616<18446744073709551616 /\
   c+x*2^s%18446744073709551616+18446744073709551616*(x/2^(64-s))=c+x*2^s/\x/2^(64-s)<2^s:=by
 have hp:0<2^s:=Ho s;have hpp:2^(64-s)*2^s=18446744073709551616:=by
  rw[<-Gq,show 64-s+s=64 by omega]
 have hl:x*2^s/18446744073709551616=x/2^(64-s):=by
  rw[<-hpp,QY _ _ hp]
 have hm:x*2^s%18446744073709551616=x%2^(64-s)*2^s:=by
  rw[<-hpp,QZ]
 have hl2:x/2^(64-s)<2^s:=Fr (by rw[hpp];exact hx);have e:=FF (x*2^s) 18446744073709551616;rw[hl]at e;have ho:c |||(x*2^s%18446744073709551616)=c+x*2^s%18446744073709551616:=by
  rw[hm,Nat.or_comm,Vx hc,L4]
 have hlt:c+x*2^s%18446744073709551616<18446744073709551616:=by
  rw[hm]
  have:(x%2^(64-s)+1)*2^s<=2^(64-s)*2^s:=CV _ (B7 _ (Ho _))
  rw[hpp,Bz]at this;omega
 exact⟨ho,hlt,by omega,hl2⟩
structure Sf (w out:List Nat)(s i c:Nat):Prop where
 le:i<=w.length
 len:out.length=w.length+1
 wd:Wd out
 val:AU out=AU (w.take i)*2^s
 at_:out[i]?=some c
 cl:c<2^s
 zero:∀k,i<k->∀d,out[k]?=some d->d=0
theorem rp {w out:List Nat}{s i c x:Nat}(hs:s<=63)(hw:Wd w)(hi:i<w.length)(hx:w[i]?=some x)(I:Sf w out s i c):
  Sf w ((out.set i (c+x*2^s%18446744073709551616)).set (i+1) (x/2^(64-s))) s (i+1) (x/2^(64-s)):=by
 have hxl:x<BB:=hw x (Ax hx);obtain⟨_,d2,d3,d4⟩:=Xm hs I.cl hxl;obtain⟨z,hz⟩:∃z,out[i+1]?=some z:=⟨out[i+1]'(by have:=I.len;omega),Bs _⟩
 have hz0:=I.zero _ (IM i) z hz;subst hz0;have s1:=KH (d:=c+x*2^s%18446744073709551616) I.at_;have hz1:(out.set i (c+x*2^s%18446744073709551616))[i+1]?=some 0:=by rw[JO (by omega)];exact hz
 have s2:=KH (d:=x/2^(64-s)) hz1;have hbx:AU (w.take (i+1))=AU (w.take i)+BB^i*x:=by rw[Fy hx,HR (i:=i) (by rw[Bc];omega)]
 have hhi:x/2^(64-s)<BB:=Dy (Gn _ _) hxl;refine⟨by omega,by rw[DK,DK];exact I.len,(I.wd.set d2).set hhi,?_,?_,d4,λk hk d hd=>?_⟩
 ·have e1:BB^(i+1)*(x/2^(64-s))=BB^i*(18446744073709551616*(x/2^(64-s))):=by rw[CZ,B4]
  have e2:BB^i*(c+x*2^s%18446744073709551616+18446744073709551616*(x/2^(64-s)))=BB^i*(c+x*2^s):=by rw[d3]
  rw[BQ,BQ _ c (x*2^s)]at e2;rw[hbx,Bz,<-I.val,B4];omega
 ·rw[QW (by rw[DK];have:=I.len;omega)]
 ·rw[JO (by omega),JO (by omega)]at hd
  exact I.zero k (by omega) d hd
def Up (w:List Nat)(s:Nat)(H:Hp)(n:Nat)(d:D)(H':Hp)(n':Nat):Prop:=
 ∃(out:List Nat) (g:Nat),out.length=w.length+1/\Wd out/\AU out=AU w*2^s/\d=.osl 103 g 1 0 (w.length+1)/\H'=⟨103,g,187,1,out.map AT⟩::H/\n<=n'
theorem YT (w:List Nat)(s:Nat)(hs:s<=63)(hw:Wd w)(hl:w.length<4000000)(H:Hp)(n:Nat):CX C0 196 [wL w,i64 s] H n (Up w s H n):=by
 refine CX.walk w1 bu rfl λF=>?_
 unfold wL;have ew:(((w.map AT).length:Nat):Int)=(w.length:Int):=by rw[Ab]
 have wl:IntKind.i64.wrap ((w.length:Int)+1)=((w.length+1:Nat):Int):=by rw[wI];omega
 have r3:List.replicate (w.length+1) (ofV (.int .u64 0))=(List.replicate (w.length+1) 0).map AT:=by rw[Kw];rfl
 refine sR 0 ?_;refine sZ 100 ?_;refine AX (Ao ew wl kN) ?_;refine AC.seq ?_;refine sZ 200 ?_;refine AX ew ?_;obtain⟨g,hg⟩:∃g,g=n+1+1+1+1:=⟨_,rfl⟩
 rw[<-hg];have I0:Sf w (List.replicate (w.length+1) 0) s 0 0:=⟨BW _,by simp,NV _,by simp[AU,Q1],by simp,Ho s,λk _ d hd=>QT (Ax hd)⟩
 refine AC.weak ⟨[(0,.sl false 1 (w.map AT)),(1,i64 s),(4,CK),(5,.osl 103 g 1 0 (w.length+1)),(12,.sl false 1 (w.map AT)),(13,i64 w.length),(14,i64 0)],⟨103,g,187,1,(List.replicate (w.length+1) 0).map AT⟩::H,n+30⟩ (by rw[<-r3];exact AK) ?_;refine AC.block ?_;refine AC.loop (α:=Nat×Nat×List Nat×Nat) (λp=>⟨[(0,.sl false 1 (w.map AT)),(1,i64 s),(4,CK),(5,.osl 103 g 1 0 (w.length+1)),(12,.sl false 1 (w.map AT)),(13,i64 w.length),(14,i64 p.1)],⟨103,g,187,1,p.2.2.1.map AT⟩::H,p.2.2.2⟩) (λp=>w.length-p.1)
  (λp=>Sf w p.2.2.1 s p.1 p.2.1/\n<=p.2.2.2) (0,0,List.replicate (w.length+1) 0,n+30)
  ⟨I0,Nat.le_add_right _ _⟩ AK ?_
 rintro⟨i,c,o,m⟩ F ⟨I,hm⟩;dsimp only at I hm⊢;refine sR 300 ?_;refine AC.seq ?_;refine AO ?_
 (refine B1 (λh15=>?_) (λh15=>?_))<;>(try simp only[Bq,B0]at h15)<;>(try simp only[h15])
 ·have hi:i<w.length:=by simpa using h15
  obtain⟨x,hx⟩:∃x,w[i]?=some x:=⟨w[i],Bs hi⟩
  have hx':=Dt hx;have hc':=Dt I.at_;have hxl:x<BB:=hw x (Ax hx);obtain⟨d1,d2,d3,d4⟩:=Xm hs I.cl hxl;have J:=rp hs hw hi hx I;have e5:H3 .or .u64 (c:Int) (Lr .u64 (x:Int) (s:Int))=((c+x*2^s%18446744073709551616:Nat):Int):=by
   rw[P6 x s hs,Wy _ _ (by omega) (B7 _ (by decide)),d1]
  refine An ?_;refine AC.seq ?_;refine AC.block ?_;refine sR 400 ?_;refine By kT hx' ?_;refine BU ?_;refine AC.seq ?_;refine CN 500 [0,1,2,3,4,5,6] [7,8,9] ?_;refine AG (Bb e5 kN BV hc') ?_;refine Eb rfl rfl ?_;refine N9 rfl rfl rfl hc' ?_;refine AG @map_set ?_;refine AC.seq ?_;obtain⟨z,hz⟩:∃z,o[i+1]?=some z:=⟨o[i+1]'(by have:=I.len;omega),Bs _⟩
  have hz0:=I.zero _ (IM i) z hz;subst hz0;have hz1:(o.set i (c+x*2^s%18446744073709551616))[i+1]?=some 0:=by rw[JO (by omega)];exact hz
  have hz':=Dt hz1;have wi:IntKind.i64.wrap ((i:Int)+1)=((i+1:Nat):Int):=wI;rcases D7 s with hs0|hs0
  ·have e1:decide ((s:Int)>0)=false:=Bd
   have hx0:x/2^(64-s)=0:=by rw[hs0];exact IL hxl
   have hset:(o.set i (c+x*2^s%18446744073709551616)).set (i+1) 0=o.set i (c+x*2^s%18446744073709551616):=by
    refine Qf λk=>?_
    rcases Nat.decEq (i+1) k with hk|hk
    ·rw[JO hk]
    ·subst hk
     rw[QW (by have:=(BS.1 hz1).1;exact this),hz1]
   rw[hx0,hset]at J;refine As 600 ?_;refine AX e1 ?_;refine AO ?_;refine An ?_;refine As 800 ?_;refine AX wi ?_;refine⟨(i+1,0,o.set i (c+x*2^s%18446744073709551616),m+200),⟨J,by dsimp only;omega⟩,by dsimp only;omega,AK⟩
  ·have e1:decide ((s:Int)>0)=true:=BR
   have w64:IntKind.i64.wrap (64-(s:Int))=((64-s:Nat):Int):=by rw[wI];omega
   have w640:(0:Int)<=IntKind.i64.wrap (64-(s:Int)):=by rw[w64];omega
   have e36:=OL x (64-s) (by omega);refine As 600 ?_;refine AX e1 ?_;refine AO ?_;refine As 700 ?_;refine AG (D9 wi w64 e36 kN BV hz') ?_
   try rw[map_set]
   refine As 800 ?_;refine AX wi ?_;refine⟨(i+1,x/2^(64-s),(o.set i (c+x*2^s%18446744073709551616)).set (i+1) (x/2^(64-s)),m+200),⟨J,by dsimp only;omega⟩,by dsimp only;omega,AK⟩
 ·have hi:i=w.length:=by
   have:¬i<w.length:=by simpa using h15
   have:=I.le
   omega
  subst hi;have hv:=I.val;rw[Cn (Ar _)]at hv;refine CG ?_;refine sR 900 ?_;refine Aj ?_;exact⟨o,g,I.len,I.wd,hv,rfl,rfl,by omega⟩
section
variable {C:BA} {B F:Ad} {s:St} {rd:Option Nat} {Q:Exit->Ad->St->Prop}
theorem DJ {a b:Code}{α:Type}(S:α->St)(J:α->Prop)(h1:AC C B rd F a s (λe F1 s1=>Jr (F1=F/\∃x,J x/\Wk s1 (S x)) (λe=>Q e F1 s1) e))(h2:∀x,J x->AC C B rd F b (S x) Q):AC C B rd F (.seq a b) s Q:=
 AC.seq (h1.mono λe F1 s1 h=>by
  cases e with
  |normal=>
   obtain⟨h0,x,hx,h3⟩:=(show F1=F/\∃x,J x/\Wk s1 (S x)from h)
   rw[h0];exact AC.weak (S x) h3 (h2 x hx)
  |ret=>exact h
  |exit j=>exact h
  |goto l=>exact h
  |panic c=>exact h
  |outgrown=>exact h)
end
theorem kn {q v c:Nat}(hq:q<BB)(hv:v<BB)(hc:c<BB):
  (q*v%BB+c)%BB+BB*(q*v/BB+(q*v%BB+c)/BB)=q*v+c/\q*v/BB+(q*v%BB+c)/BB<BB:=by
 have hqv:q*v<=(18446744073709551616-1)*(18446744073709551616-1):=JU (by unfold BB at hq;omega) (by unfold BB at hv;omega);have hk:(18446744073709551616-1)*(18446744073709551616-1)=340282366920938463426481119284349108225:=by decide
 rw[hk]at hqv;generalize q*v=p at*;have e1:=FU p BB;have e2:=FU (p%BB+c) BB;have l1:=B7 p (show BB>0 by decide);have l2:=B7 (p%BB+c) (show BB>0 by decide);unfold BB at*;generalize p/18446744073709551616=A at*;generalize p%18446744073709551616=D at*;generalize(D+c)/18446744073709551616=E at*;generalize(D+c)%18446744073709551616=G at*;omega
theorem Cf {l:List Nat}{i:Nat}(h:i<l.length):∃a,l[i]?=some a:=⟨l[i],Bs h⟩
theorem Ws {l:List Nat}{k a:Nat}(hl:l.length=k+1)(ha:l[k]?=some a):AU l=AU (l.take k)+BB^k*a:=by
 rw[LV ha,IJ (by omega)];simp[AU]
theorem e0n {l:List Nat}{k a b:Nat}(hl:l.length=k+2)(ha:l[k]?=some a)(hb:l[k+1]?=some b):AU l=AU (l.take k)+BB^k*(a+BB*b):=by
 rw[LV ha]
 have:l.drop (k+1)=[b]:=by
  rw[Et (by omega),IJ (by omega)]
  congr 1
  exact(BS.1 hb).2
 rw[this];simp[AU]
theorem e0o {l:List Nat}{k a b c:Nat}(hl:l.length=k+3)(ha:l[k]?=some a)(hb:l[k+1]?=some b)(hc:l[k+2]?=some c):AU l=AU (l.take k)+BB^k*(a+BB*(b+BB*c)):=by
 rw[LV ha];have h1:=Ws (l:=l.drop (k+1)) (k:=1) (a:=c) (by rw[D8];omega) (by rw[HI,FD];exact hc);have h2:(l.drop (k+1)).take 1=[b]:=by
  rw[Et (by omega)];simp only[List.take_succ_cons,NE]
  congr 1
  exact(BS.1 hb).2
 rw[h1,h2];simp[AU]
structure Nt (P v:List Nat)(m p0 p1 p2 v2 v1:Nat):Prop where
 lP:P.length=m+3
 lv:v.length=m+2
 wP:Wd P
 wv:Wd v
 h0:P[m]?=some p0
 h1:P[m+1]?=some p1
 h2:P[m+2]?=some p2
 g2:v[m]?=some v2
 g1:v[m+1]?=some v1
 top:0<v1
 less:AU P<AU v*BB
namespace Nt
variable {P v:List Nat} {m p0 p1 p2 v2 v1:Nat} (S:Nt P v m p0 p1 p2 v2 v1)
include S
theorem valP:AU P=AU (P.take m)+BB^m*(p0+BB*(p1+BB*p2)):=e0o S.lP S.h0 S.h1 S.h2
theorem valv:AU v=AU (v.take m)+BB^m*(v2+BB*v1):=e0n S.lv S.g2 S.g1
theorem lowP:AU (P.take m)<BB^m:=by
 have:=IU (S.wP.take m)
 rwa [Bc,Fp (by have:=S.lP;omega)]at this
theorem lowv:AU (v.take m)<BB^m:=by
 have:=IU (S.wv.take m)
 rwa [Bc,Fp (by have:=S.lv;omega)]at this
theorem p0l:p0<BB:=S.wP _ (Ax S.h0)
theorem p1l:p1<BB:=S.wP _ (Ax S.h1)
theorem p2l:p2<BB:=S.wP _ (Ax S.h2)
theorem v1l:v1<BB:=S.wv _ (Ax S.g1)
theorem v2l:v2<BB:=S.wv _ (Ax S.g2)
theorem below3:AU P<(p0+BB*(p1+BB*p2)+1)*BB^m:=by
 rw[S.valP,Bz,J4,Ba (BB^m)]
 have:=S.lowP
 omega
theorem below2:AU P<(p1+BB*p2+1)*BB^(m+1):=by
 have h:=S.below3;have h1:=S.p0l;generalize p1+BB*p2=t at*;have h2:(p0+BB*t+1)*BB^m<=(BB*(t+1))*BB^m:=CV _ (by rw[BQ BB t 1];omega);have h3:(t+1)*BB^(m+1)=(BB*(t+1))*BB^m:=by rw[CZ,Ba (BB^m) BB,<-B4,Ba (t+1) BB]
 omega
theorem abovev:v1*BB^(m+1)<=AU v:=by
 rw[S.valv,CZ,BQ]
 have:v1*(BB^m*BB)=BB^m*(BB*v1):=by rw[Ba v1,B4]
 omega
theorem abovev2:(v2+BB*v1)*BB^m<=AU v:=by
 rw[S.valv,Ba];omega
theorem pos:0<AU v:=Co (IK S.top (Nat.pow_pos (by decide))) S.abovev
theorem p2v1:p2<=v1:=by
 rcases BE v1 p2 with h|h
 ·exfalso
  have e1:BB^(m+2)*p2<=AU P:=by
   rw[S.valP,BQ,BQ,BQ]
   have:BB^(m+2)*p2=BB^m*(BB*(BB*p2)):=by rw[CZ,CZ,B4,B4]
   omega
  have e2:AU v<BB^(m+1)*(v1+1):=by
   have h1:=S.lowv;have h2:=S.v2l;have e3:BB^(m+1)*(v1+1)=BB^m*(BB*v1+BB):=by rw[CZ,B4,BQ,Ej]
   have e4:BB^m*(v2+BB*v1+1)<=BB^m*(BB*v1+BB):=Cy _ (by omega);rw[BQ _ _ 1,Ej]at e4;rw[S.valv,e3];omega
  have e5:BB^(m+1)*(v1+1)*BB=BB^(m+2)*(v1+1):=by rw[Nat.mul_right_comm,<-CZ]
  have e6:BB^(m+2)*(v1+1)<=BB^(m+2)*p2:=Cy _ h;have e7:(AU v)*BB<=BB^(m+1)*(v1+1)*BB:=CV _ (Kt e2)
  have:=S.less
  omega
 ·exact h
end Nt
theorem ly {B q v2 r c p0:Nat}(hq:q<B)(hv:v2<B)(h:0<c\/q*v2<=r*B+p0):q*v2<=(r+B*c)*B+p0:=by
 rcases h with h|h
 ·have h2:q*v2<=B*B:=JU (by omega) (by omega)
  have h4:B*1<=B*c:=Cy _ h;have h3:B*B<=(r+B*c)*B:=CV _ (by omega);omega
 ·have h3:r*B<=(r+B*c)*B:=CV _ (by omega)
  omega
structure Mp (U V n2 v1 q r c:Nat):Prop where
 eq:q*v1+(r+BB*c)=n2
 up:U<(q+1)*V
 qB:q<BB
 rB:r<BB
 c1:c<=1
section
variable {P v:List Nat} {m p0 p1 p2 v2 v1:Nat} (S:Nt P v m p0 p1 p2 v2 v1)
include S
theorem lz (h:v1<=p2):Mp (AU P) (AU v) (p1+BB*p2) v1 18446744073709551615 ((p1+v1+0)%BB) ((p1+v1+0)/BB):=by
 have h1:p2=v1:=Nat.le_antisymm S.p2v1 h;have h2:=S.less;have h3:=S.p1l;have h4:=S.v1l;have e:=FU (p1+v1+0) BB;refine⟨?_,?_,by decide,B7 _ (by decide),?_⟩
 ·rw[e,h1]
  show 18446744073709551615*v1+(p1+v1+0)=p1+18446744073709551616*v1;omega
 ·rw[Ba];exact h2
 ·have:p1+v1+0<2*BB:=by omega
  exact Of (Fr (by rw[Ba];exact this))
theorem jx (h:p2<v1):Mp (AU P) (AU v) (p1+BB*p2) v1 ((p2*BB+p1)/v1) ((p2*BB+p1)%v1) 0:=by
 have c0:p2*BB+p1=p1+BB*p2:=by rw[Ba,L4]
 rw[c0];have e:=FF (p1+BB*p2) v1;have l:=B7 (p1+BB*p2) S.top;have h3:=S.p1l;have h4:=S.v1l;have c1:=Ba v1 ((p1+BB*p2)/v1);refine⟨by omega,Xq S.below2 S.abovev ?_,?_,by omega,by decide⟩
 ·rw[Bz];omega
 ·refine Fr ?_
  have:BB*(p2+1)<=BB*v1:=Cy _ h
  rw[BQ]at this;rw[Ba v1];omega
theorem kY {q r:Nat}(G:Mp (AU P) (AU v) (p1+BB*p2) v1 q r 0)(h:r*BB+p0<q*v2):
  0<q/\Mp (AU P) (AU v) (p1+BB*p2) v1 (q-1) ((r+v1+0)%BB) ((r+v1+0)/BB):=by
 obtain⟨e,u,b,rb,_⟩:=G;rcases D7 q with h0|h0
 ·subst h0;omega
 obtain⟨k,rfl⟩:∃k,q=k+1:=⟨q-1,by omega⟩
 have e1:=FU (r+v1+0) BB;have h4:=S.v1l;have e2:(k+1)*(v2+BB*v1)=(k+1)*v2+BB*((k+1)*v1):=by rw[BQ,JR]
 have hn3:p0+BB*(p1+BB*p2)<(k+1)*(v2+BB*v1):=by
  rw[e2,<-e,BQ BB,FE,Dv r,Ba BB r];omega
 refine⟨by omega,⟨?_,?_,by omega,B7 _ (by decide),?_⟩⟩
 ·rw[JP,e1,<-e,Bz];omega
 ·rw[JP];exact X8 S.below3 S.abovev2 hn3
 ·have:r+v1+0<2*BB:=by omega
  exact Of (Fr (by rw[Ba];exact this))
theorem X7 {q r c:Nat}(G:Mp (AU P) (AU v) (p1+BB*p2) v1 q r c)(h:0<c\/q*v2<=r*BB+p0):q*AU v<=AU P+AU v:=by
 obtain⟨e,u,b,rb,c1⟩:=G;have h5:=S.v2l;have hq:q*v2<=(r+BB*c)*BB+p0:=ly b h5 h;have e2:q*(v2+BB*v1)=q*v2+BB*(q*v1):=by rw[BQ,JR]
 refine Ys (n3:=p0+BB*(p1+BB*p2)) (D:=v2+BB*v1) (P:=BB^m) (B:=BB) (v:=AU (v.take m)) ?_ ?_ S.lowv ?_ (by omega) ?_
 ·rw[S.valP,Ba];omega
 ·rw[S.valv,Ba];omega
 ·rw[e2,<-e,BQ BB]
  have:BB*(r+BB*c)=(r+BB*c)*BB:=Ba _ _
  omega
 ·have:=S.top
  have h1:=Cy BB (show 1<=v1 from this);omega
end
theorem kZ {x r p0:Nat}(hp:p0<BB):(x/BB<r\/x/BB=r/\x%BB<=p0)↔x<=r*BB+p0:=by
 have e:=FF x BB;have l:=B7 x (show 0<BB by decide);generalize x/BB=h at*;generalize x%BB=d at*;unfold BB at*;omega
theorem UU {U V q N:Nat}(h:N+q*V=U+0)(hu:U<(q+1)*V):U/V=q/\U%V=N:=by
 have h1:U=N+V*q:=by rw[Ba];omega
 have h2:N<V:=by rw[Bz]at hu;omega
 subst h1;exact⟨by rw[TW _ _ (by omega),IL h2,BV],by rw[TP,Ft h2]⟩
theorem Yk {U V q N N3 T c:Nat}(h:N+q*V=U+T)(hN:N<T)(hu:q*V<=U+V)(h3:N3+T*c=N+V)(hc:c<=1)(h3l:N3<T):0<q/\U/V=q-1/\U%V=N3:=by
 rcases D7 q with h0|h0
 ·subst h0;omega
 obtain⟨k,rfl⟩:∃k,q=k+1:=⟨q-1,by omega⟩
 rw[Bz,J4]at h hu;have hc1:c=1:=by
  rcases D7 c with h4|h4
  ·subst h4;omega
  ·omega
 subst hc1;have h5:N3+k*V=U+0:=by omega
 have h6:U<(k+1)*V:=by rw[Bz];omega
 obtain⟨a,b⟩:=UU h5 h6;exact⟨by omega,by rw[a];omega,b⟩
theorem jl {A P v:List Nat}{q i z x d b c b' c' lo:Nat}(hz:A[i]?=some z)(hx:v[i]?=some x)(hI:AU A+q*AU (v.take i)=AU P+BB^i*(c+b))
  (h1:lo+BB*c'=q*x+c) (h2:d+lo+b=z+BB*b'):AU (A.set i d)+q*AU (v.take (i+1))=AU P+BB^(i+1)*(c'+b'):=by
 have hs:=KH (d:=d) hz;have hi:i<v.length:=(BS.1 hx).1;rw[Fy hx,HR (i:=i) (by rw[Bc];omega),BQ,JR q,CZ,B4];have e:BB^i*(d+q*x+(c+b))=BB^i*(z+BB*(c'+b')):=by congr 1;rw[BQ BB];omega
 rw[BQ,BQ,BQ (BB^i) z]at e;omega
theorem jm {A P:List Nat}{i z d X b c b':Nat}(hz:A[i]?=some z)(hI:AU A+X=AU P+BB^i*(c+b))(h2:d+c+b=z+BB*b'):AU (A.set i d)+X=AU P+BB^(i+1)*b':=by
 have hs:=KH (d:=d) hz;rw[CZ,B4];have e:BB^i*(d+(c+b))=BB^i*(z+BB*b'):=by congr 1;omega
 rw[BQ,BQ (BB^i) z]at e;omega
theorem jb {A P v:List Nat}{i z x c:Nat}(hz:A[i]?=some z)(hx:v[i]?=some x)(hI:AU A+BB^i*c=AU P+AU (v.take i)):
  AU (A.set i ((z+x+c)%BB))+BB^(i+1)*((z+x+c)/BB)=AU P+AU (v.take (i+1)):=by
 have hs:=KH (d:=(z+x+c)%BB) hz;have hi:i<v.length:=(BS.1 hx).1;rw[Fy hx,HR (i:=i) (by rw[Bc];omega),CZ,B4];have e:BB^i*((z+x+c)%BB+BB*((z+x+c)/BB))=BB^i*(z+x+c):=by rw[FU]
 rw[BQ,BQ,BQ (BB^i) z]at e;omega
theorem jf {A:List Nat}{i z c X:Nat}(hz:A[i]?=some z)(hI:AU A+BB^i*c=X):
  AU (A.set i ((z+c)%BB))+BB^(i+1)*((z+c)/BB)=X:=by
 have hs:=KH (d:=(z+c)%BB) hz;rw[CZ,B4];have e:BB^i*((z+c)%BB+BB*((z+c)/BB))=BB^i*(z+c):=by rw[FU]
 rw[BQ,BQ (BB^i) z]at e;omega
theorem Mf {A P Z:List Nat}{i z:Nat}(h:P[i]?=some z):((A++(P++Z)).map AT)[A.length+i]?=some (AT z):=by
 have hi:i<P.length:=(BS.1 h).1;refine Dt ?_;rw[FC (by omega),L1,GW hi];exact h
theorem R5 {A P Z:List Nat}{i d:Nat}(hi:i<P.length):((A++(P++Z)).map AT).set (A.length+i) (AT d)=(A++(P.set i d++Z)).map AT:=by
 rw[map_set,Ob _ _ (by omega),L1,List.set_append_left _ _ hi]
set_option maxHeartbeats 2000000
def qS (A P Z v:List Nat)(gq Tq gu:Nat)(qs:List D)(d:D)(H':Hp)(_:Nat):Prop:=
 ∃P':List Nat,P'.length=P.length/\Wd P'/\AU P'=AU P%AU v/\d=AT (AU P/AU v)/\H'=[⟨1505,gq,Tq,1,qs⟩,⟨103,gu,187,1,(A++(P'++Z)).map AT⟩]
theorem s8 (A P Z v:List Nat)(m p0 p1 p2 v2 v1:Nat)(S:Nt P v m p0 p1 p2 v2 v1)(hm:A.length+m<4000000)(gq Tq gu:Nat)(qs:List D)(n:Nat):
  CX C0 197 [.osl 103 gu 1 A.length (m+3),wL v] [⟨1505,gq,Tq,1,qs⟩,⟨103,gu,187,1,(A++(P++Z)).map AT⟩] n (qS A P Z v gq Tq gu qs):=by
 refine CX.walk w1 bv rfl λF=>?_
 unfold wL;have hPl:=S.lP;have hvl:=S.lv;have ev:(((v.map AT).length:Nat):Int)=((m+2:Nat):Int):=by rw[Ab,hvl]
 have k1:IntKind.i64.wrap (((m+2:Nat):Int)-1)=((m+1:Nat):Int):=by rw[wI];omega
 have k2:IntKind.i64.wrap (((m+2:Nat):Int)-2)=(m:Int):=by rw[wI];omega
 have hp0:=Mf (A:=A) (Z:=Z) S.h0;have hp1:=Mf (A:=A) (Z:=Z) S.h1;have hp2:=Mf (A:=A) (Z:=Z) S.h2;have hv1:=Dt S.g1;have hv2:=Dt S.g2;have l0:=S.p0l;have l1:=S.p1l;have l2:=S.p2l;have lv1:=S.v1l;have lv2:=S.v2l;refine sR 0 ?_;refine sZ 100 ?_;refine AX ev ?_;refine sR 200 ?_;refine sR 300 ?_;refine DJ (α:=Nat×Nat×Nat×Nat) (λp=>⟨[(0,.osl 103 gu 1 A.length (m+3)),(1,.sl false 1 (v.map AT)),(5,i64 ((m+2:Nat):Int)),(6,AT p.1),(7,AT p.2.1),(8,AT p.2.2.1)],[⟨1505,gq,Tq,1,qs⟩,⟨103,gu,187,1,(A++(P++Z)).map AT⟩],p.2.2.2⟩)
  (λp=>Mp (AU P) (AU v) (p1+BB*p2) v1 p.1 p.2.1 p.2.2.1) ?_ ?_
 ·refine AC.seq ?_
  refine CN 400 [0,1,2,3,4,5,6,7,8] [9] ?_;refine AG (Ao kN k1 hp2) ?_;refine By kT hv1 ?_;refine AG (Ao kN k1 hp2) ?_;rcases BE p2 v1 with h|h
  ·have e1:decide ((p2:Int)>=(v1:Int))=false:=Bd
   have G:=jx S h;rw[e1];refine AO ?_;refine CN 700 [0,1,2,3,4,5,6,7,8,9,10,11,12,13,14,15,16,17,18] [19] ?_;refine AG (Bb kN k1 hp2 hp1) ?_;refine By kT hv1 ?_;refine AG (Bb kN k1 hp2 hp1) ?_;refine Bf.same _ (ZK p2 p1 v1 h l1 lv1) AJ ?_;refine BU ?_;exact⟨trivial,⟨(p2*BB+p1)/v1,(p2*BB+p1)%v1,0,_⟩,G,AK⟩
  ·have e1:decide ((p2:Int)>=(v1:Int))=true:=BR
   have G:=lz S h;rw[e1];refine AO ?_;refine sR 500 ?_;refine CN 600 [0,1,2,3,4,5,6,7,8,9,10,11,12,13,14] [15] ?_;refine AG (Bb kN k1 hp2 hp1) ?_;refine By kT hv1 ?_;refine AG (Bb kN k1 hp2 hp1) ?_;exact⟨trivial,⟨18446744073709551615,(p1+v1+0)%BB,(p1+v1+0)/BB,_⟩,G,AK⟩
 rintro⟨q0,r0,c0,n0⟩ G0;dsimp only at G0⊢;refine DJ (α:=Nat×Nat) (λp=>⟨[(0,.osl 103 gu 1 A.length (m+3)),(1,.sl false 1 (v.map AT)),(5,i64 ((m+2:Nat):Int)),(6,AT p.1)],[⟨1505,gq,Tq,1,qs⟩,⟨103,gu,187,1,(A++(P++Z)).map AT⟩],p.2⟩)
  (λp=>p.1<BB/\AU P<(p.1+1)*AU v/\p.1*AU v<=AU P+AU v) ?_ ?_
 ·refine AC.block ?_
  refine HH (α:=Nat×Nat×Nat×Nat) (λp=>⟨[(0,.osl 103 gu 1 A.length (m+3)),(1,.sl false 1 (v.map AT)),(5,i64 ((m+2:Nat):Int)),(6,AT p.1),(7,AT p.2.1),(8,AT p.2.2.1)],[⟨1505,gq,Tq,1,qs⟩,⟨103,gu,187,1,(A++(P++Z)).map AT⟩],p.2.2.2⟩)
   (λp=>p.1) (λp F'=>F'=F/\Mp (AU P) (AU v) (p1+BB*p2) v1 p.1 p.2.1 p.2.2.1) (q0,r0,c0,n0) ⟨rfl,G0⟩ AK ?_
  rintro⟨q,r,c,n1⟩ F' ⟨rfl,G⟩;dsimp only at G⊢;refine AC.seq ?_;refine AC.seq ?_;rcases D7 c with hc|hc
  ·subst hc
   have e8:(((0:Nat):Int)==0)=true:=rfl;refine As 800 ?_;refine AX e8 ?_;refine AO ?_;refine An ?_;refine AC.block ?_;have lq:=G.qB;have cm:=PL q v2 lq lv2;refine sZ 900 ?_;refine AG (Aa kN k2) ?_;refine By kT hv2 ?_;refine AG (Aa kN k2) ?_;refine BF.same _ cm AJ ?_;refine BU ?_;have ht:=kZ (x:=q*v2) (r:=r) l0;obtain⟨b,hb⟩:∃b:Bool,b=decide (q*v2<=r*BB+p0):=⟨_,rfl⟩
   refine AC.seq ?_;refine DA ⟨[(0,.osl 103 gu 1 A.length (m+3)),(1,.sl false 1 (v.map AT)),(5,i64 ((m+2:Nat):Int)),(6,AT q),(7,AT r),(91,Al b)],[⟨1505,gq,Tq,1,qs⟩,⟨103,gu,187,1,(A++(P++Z)).map AT⟩],n1+100⟩ ?_ ?_
   ·change(q*v2/18446744073709551616<r\/q*v2/18446744073709551616=r/\q*v2%18446744073709551616<=p0)↔_ at ht
    generalize q*v2/18446744073709551616=hi at*;generalize q*v2%18446744073709551616=lo at*;rcases BE hi r with h|h
    ·have e1:decide ((hi:Int)<(r:Int))=true:=BR
     have hb1:b=true:=by rw[hb];exact Aw (ht.1 (.inl h))
     subst hb1;refine As 1000 ?_;refine AG e1 ?_;refine AG kT ?_;exact BM (by trivial) (AK)
    ·have e1:decide ((hi:Int)<(r:Int))=false:=Bd
     rcases Nat.eq_or_lt_of_le h with h2|h2
     ·have e2:((hi:Int)==(r:Int))=true:=ED.2 (by omega)
      have e3:decide ((lo:Int)<=(p0:Int))=b:=by
       rw[hb];exact DO.2 ⟨λh3=>ht.1 (.inr ⟨h2.symm,by omega⟩),λh3=>by rcases ht.2 h3 with h4|h4<;>omega⟩
      refine As 1000 ?_;refine AG e1 ?_;refine AG (Aa kF e2) ?_;refine AG (D9 kF e2 kN k2 hp0 e3) ?_;exact BM (by trivial) (AK)
     ·have e2:((hi:Int)==(r:Int))=false:=Bo.2 (by omega)
      have hb1:b=false:=by rw[hb];exact Az λh3=>by rcases ht.2 h3 with h4|h4<;>omega
      subst hb1;refine As 1000 ?_;refine AG e1 ?_;refine AG kF ?_;simp only[e2];refine AG (Aa kF Fs) ?_;exact BM (by trivial) (AK)
   ·cases b
    ·have hn:=Do hb.symm
     obtain⟨hq0,G2⟩:=kY S G (by omega);have j1:IntKind.u64.wrap ((q:Int)-1)=((q-1:Nat):Int):=by rw[wU (by omega) (by have:=G.qB;unfold BB at this;omega)];omega
     refine AO ?_;refine An ?_;refine sZ 1100 ?_;refine AX j1 ?_;refine As 1200 ?_;refine AG (Aa kN k1) ?_;refine By kT hv1 ?_;refine AG (Aa kN k1) ?_;exact⟨(q-1,(r+v1+0)%BB,(r+v1+0)/BB,_),⟨trivial,G2⟩,by dsimp only;omega,AK⟩
    ·have hn:=DN hb.symm
     refine AO ?_;refine CG ?_;exact⟨rfl,⟨q,_⟩,⟨G.qB,G.up,X7 S G (.inr hn)⟩,AK⟩
  ·have e8:((c:Int)==0)=false:=Bo.2 (by omega)
   refine As 800 ?_;refine AX e8 ?_;refine AO ?_;refine CG ?_;exact⟨rfl,⟨q,_⟩,⟨G.qB,G.up,X7 S G (.inl hc)⟩,AK⟩
 rintro⟨q,n1⟩ ⟨hq,hup,hdn⟩;dsimp only at hq hup hdn⊢;clear hp0 hp1 hp2;refine sR 1300 ?_;refine AC.seq ?_;refine sR 1400 ?_;refine AC.block ?_;refine AC.loop (α:=Nat×Nat×Nat×List Nat×Nat) (λp=>⟨[(0,.osl 103 gu 1 A.length (m+3)),(1,.sl false 1 (v.map AT)),(5,i64 ((m+2:Nat):Int)),(6,AT q),(11,AT p.2.1),(12,AT p.2.2.1),(104,i64 ((m+2:Nat):Int)),(105,i64 p.1)],[⟨1505,gq,Tq,1,qs⟩,⟨103,gu,187,1,(A++(p.2.2.2.1++Z)).map AT⟩],p.2.2.2.2⟩) (λp=>m+2-p.1)
  (λp=>p.1<=m+2/\p.2.1<=1/\p.2.2.1<BB/\p.2.2.2.1.length=m+3/\Wd p.2.2.2.1/\AU p.2.2.2.1+q*AU (v.take p.1)=AU P+BB^p.1*(p.2.2.1+p.2.1)) (0,0,0,P,_) ⟨BW _,BW _,(show 0<BB by decide),hPl,S.wP,by simp[AU]⟩ AK ?_
 rintro⟨i,b,c,p,n2⟩ F ⟨hi,hb,hc,hpl,hpw,hI⟩;dsimp only at hi hb hc hpl hpw hI⊢;have hv1':=hv1;clear hv1 hv2;refine sR 1500 ?_;refine AC.seq ?_;refine AO ?_
 (refine B1 (λhlt=>?_) (λhlt=>?_))<;>(try simp only[Bq,B0]at hlt)<;>(try simp only[hlt])
 ·have hi2:i<m+2:=by
   have:=DN hlt
   omega
  obtain⟨x,hx⟩:=Cf (l:=v) (i:=i) (by omega);have hx':=Dt hx;have hxl:x<BB:=S.wv x (Ax hx);obtain⟨z,hz⟩:=Cf (l:=p) (i:=i) (by omega);have hz':=Mf (A:=A) (Z:=Z) hz;have hzl:z<BB:=hpw z (Ax hz);have cm:=PL q x hq hxl;have md:=kn hq hxl hc;obtain⟨h,l,lo,k,c',eh,el,elo,ek,ec,hlo,hc',hmd⟩:∃h l lo k c',q*x/18446744073709551616=h/\q*x%18446744073709551616=l/\(l+c+0)%18446744073709551616=lo/\(l+c+0)/18446744073709551616=k/\h+k=c'/\lo<BB/\c'<BB/\lo+BB*c'=q*x+c:=
   ⟨_,_,_,_,_,rfl,rfl,rfl,rfl,rfl,B7 _ (by decide),md.2,md.1⟩
  rw[eh,el]at cm;have j1:IntKind.u64.wrap ((h:Int)+(k:Int))=(c':Int):=by rw[<-Int.natCast_add,ec];exact XH hc'
  have hsub:=Uv (a:=z) (b:=lo) hb;have hdig:=UW hzl hlo hb;have hb':(if z<lo+b then 1 else 0)<=1:=by split<;>decide
  have hd:(z+BB-lo-b)%BB<BB:=B7 _ (by decide);generalize(if z<lo+b then 1 else 0)=b' at*;generalize(z+BB-lo-b)%BB=d at*;have wi:IntKind.i64.wrap ((i:Int)+1)=((i+1:Nat):Int):=wI;refine An ?_;refine AC.seq ?_;refine AC.block ?_;refine sR 1600 ?_;refine sZ 1700 ?_;refine AG kN ?_;refine By kT hx' ?_;refine AG kN ?_;refine BF.same _ cm AJ ?_;refine BU ?_;refine sR 1800 ?_;refine sZ 1900 ?_;refine AX (Aa elo ek) ?_;refine sZ 2000 ?_;refine AX j1 ?_;refine As 2100 ?_;refine AG (Aa kN hz') ?_
  first|(refine Eb rfl rfl ?_;refine Rx rfl rfl (hsub) ?_)|(refine FL rfl rfl ?_;refine Pg rfl rfl (hsub) ?_)
  refine AG (Aa kN hz') ?_;rw[R5 (by omega)];refine As 2200 ?_;refine AX wi ?_;exact⟨(i+1,b',c',p.set i d,_),⟨hi2,hb',hc',by dsimp only;rw[DK];exact hpl,hpw.set hd,jl hz hx hI hmd hdig⟩,by dsimp only;omega,AK⟩
 ·have hi2:i=m+2:=by
   have:=Do hlt
   omega
  subst hi2;rw[Gw]at hI;obtain⟨z,hz⟩:=Cf (l:=p) (i:=m+2) (by omega);have hz':=Mf (A:=A) (Z:=Z) hz;have hzl:z<BB:=hpw z (Ax hz);have hsub:=Uv (a:=z) (b:=c) hb;have hdig:=UW hzl hc hb;have hb':(if z<c+b then 1 else 0)<=1:=by split<;>decide
  have hd:(z+BB-c-b)%BB<BB:=B7 _ (by decide);generalize(if z<c+b then 1 else 0)=b' at*;generalize(z+BB-c-b)%BB=d at*;have hT:=jm hz hI hdig;have hml:m+2<p.length:=by omega
  refine CG ?_;refine sZ 2300 ?_;refine AG (Aa kN hz') ?_
  first|(refine Eb rfl rfl ?_;refine Rx rfl rfl (hsub) ?_)|(refine FL rfl rfl ?_;refine Pg rfl rfl (hsub) ?_)
  refine AG (Aa kN hz') ?_;rw[R5 hml];have hpl2:(p.set (m+2) d).length=m+3:=by rw[DK];exact hpl
  have hpw2:=hpw.set (i:=m+2) hd;clear hz' hz hdig hsub hI;generalize p.set (m+2) d=p2 at*;refine AC.seq ?_;refine AC.seq ?_;rcases D7 b' with hb0|hb0
  ·subst hb0
   have e24:(((0:Nat):Int)==0)=true:=rfl;obtain⟨ed,em⟩:=UU hT hup;refine As 2400 ?_;refine AX e24 ?_;refine AO ?_;refine sR 2500 ?_;refine Aj ?_;exact⟨p2,by omega,hpw2,em.symm,by rw[ed],rfl⟩
  ·have hb1:b'=1:=by omega
   subst hb1;have e24:(((1:Nat):Int)==0)=false:=rfl;have hpL:=IU hpw2;rw[hpl2]at hpL;refine As 2400 ?_;refine AX e24 ?_;refine AO ?_;refine An ?_;refine sR 2600 ?_;refine AC.seq ?_;refine sR 2700 ?_;refine AC.block ?_;refine AC.loop (α:=Nat×Nat×List Nat×Nat) (λp=>⟨[(0,.osl 103 gu 1 A.length (m+3)),(1,.sl false 1 (v.map AT)),(5,i64 ((m+2:Nat):Int)),(6,AT q),(17,AT p.2.1),(156,i64 ((m+2:Nat):Int)),(157,i64 p.1)],[⟨1505,gq,Tq,1,qs⟩,⟨103,gu,187,1,(A++(p.2.2.1++Z)).map AT⟩],p.2.2.2⟩) (λp=>m+2-p.1)
    (λp=>p.1<=m+2/\p.2.1<=1/\p.2.2.1.length=m+3/\Wd p.2.2.1/\AU p.2.2.1+BB^p.1*p.2.1=AU p2+AU (v.take p.1)) (0,0,p2,_) ⟨BW _,BW _,hpl2,hpw2,by simp[AU]⟩ AK ?_
   rintro⟨i,c3,p3,n3⟩ F ⟨hi,hc3,hpl3,hpw3,hI⟩;dsimp only at hi hc3 hpl3 hpw3 hI⊢;refine sR 2800 ?_;refine AC.seq ?_;refine AO ?_
   (refine B1 (λhlt=>?_) (λhlt=>?_))<;>(try simp only[Bq,B0]at hlt)<;>(try simp only[hlt])
   ·have hi2:i<m+2:=by
     have:=DN hlt
     omega
    obtain⟨x,hx⟩:=Cf (l:=v) (i:=i) (by omega);have hx':=Dt hx;have hxl:x<BB:=S.wv x (Ax hx);obtain⟨z,hz⟩:=Cf (l:=p3) (i:=i) (by omega);have hz':=Mf (A:=A) (Z:=Z) hz;have hzl:z<BB:=hpw3 z (Ax hz);have hadd:=Y8 (a:=z) (b:=x) hc3;have J:=jb hz hx hI;have hs:(z+x+c3)%BB<BB:=B7 _ (by decide);have hc':(z+x+c3)/BB<=1:=by
     have:z+x+c3<2*BB:=by omega
     exact Of (Fr (by rw[Ba];exact this))
    generalize(z+x+c3)%BB=d at*;generalize(z+x+c3)/BB=c' at*;have wi:IntKind.i64.wrap ((i:Int)+1)=((i+1:Nat):Int):=wI;refine An ?_;refine AC.seq ?_;refine AC.block ?_;refine sR 2900 ?_;refine QR w1 3000 [0,1,2,3,4,5,6,7,8,9,10,11,12,13,14,15,16] [17] 16 [12,10,9,8,7,6,5,4,3,2,1,0,11,13,15] (103) (by kernel_rfl) (by kernel_rfl) ?_;refine BO ?_;refine NH (Aa kN hz') ?_;refine NQ rfl rfl rfl rfl ?_;refine N8 (λ_ _=>rfl) (by exact CD) ⟨rfl,by omega⟩ hx' ?_
    try dsimp only[D.cells,spot]
    refine NH (Aa kN hz') ?_;refine NQ rfl rfl rfl rfl ?_;refine Pg rfl rfl hadd ?_;refine NH (Aa kN hz') ?_;refine BM (by first|exact Or.inl AB|exact Or.inl rfl) ?_;refine AG kN ?_;rw[R5 (by omega)];refine As 3100 ?_;refine AX wi ?_;exact⟨(i+1,c',p3.set i d,_),⟨hi2,hc',by dsimp only;rw[DK];exact hpl3,hpw3.set hs,J⟩,by dsimp only;omega,AK⟩
   ·have hi2:i=m+2:=by
     have:=Do hlt
     omega
    subst hi2;rw[Cn (l:=v) (by omega)]at hI;obtain⟨z,hz⟩:=Cf (l:=p3) (i:=m+2) (by omega);have hz':=Mf (A:=A) (Z:=Z) hz;have hzl:z<BB:=hpw3 z (Ax hz);have J:=jf hz hI;have hs:(z+c3)%BB<BB:=B7 _ (by decide);have hc':(z+c3)/BB<=1:=by
     have:z+c3<2*BB:=by omega
     exact Of (Fr (by rw[Ba];exact this))
    have j1:IntKind.u64.wrap ((z:Int)+(c3:Int))=(((z+c3)%BB:Nat):Int):=by rw[<-Int.natCast_add];exact Jg _
    generalize(z+c3)%BB=d at*;generalize(z+c3)/BB=c' at*;have hml:m+2<p3.length:=by omega
    have hpl4:(p3.set (m+2) d).length=m+3:=by rw[DK];exact hpl3
    have hpw4:=hpw3.set (i:=m+2) hs;have hpL4:=IU hpw4;rw[hpl4]at hpL4;obtain⟨q0p,ed,em⟩:=Yk (by rw[Ej]at hT;exact hT) hpL hdn J hc' hpL4;have j2:IntKind.u64.wrap ((q:Int)-1)=((q-1:Nat):Int):=by rw[wU (by omega) (by unfold BB at hq;omega)];omega
    refine CG ?_;refine sZ 3200 ?_;refine AG (Ao kN hz' j1) ?_;rw[R5 hml];refine sZ 3300 ?_;refine AX j2 ?_;refine Aj ?_;exact⟨p3.set (m+2) d,by omega,hpw4,em.symm,by rw[ed],rfl⟩
theorem CX.toP {C:BA}{f:Nat}{args:List D}{Φ:D->Hp->Nat->Prop}{Ψ:D->Prop}(h:CX C f args [] 0 Φ)(k:∀d H n,Φ d H n->∃d',Fz H [] d d'/\CE d'/\Ψ d'):Af C f args Ψ:=by
 refine⟨h.1,λY w vs hG hnG hX' hvs hr=>?_⟩
 let F0:Ad:=⟨w,Y,λ_=>False,0,nol,[]⟩
 have m0:Am C F0 nol [] w:=⟨⟨by simp,.nil,by simp⟩,rfl,rfl,rfl,Ar _,λ_ _ _=>rfl,hX',hG,hnG,by simp[F0],λ_ _ _ h=>h,λ_ cs _ _ h=>⟨cs,_,h,rfl⟩⟩
 have hoe:AN F0.X nol []=Y:=funext λb=>propext (by simp[AN,F0])
 refine(h.2 F0 nol w vs m0 (λ_ _ _=>rfl) (by simp) hvs (λi d hd=>by rw[hoe];exact hr i d hd)).mono ?_;rintro e w' ⟨v,d,H',n',ρ',rfl,hΦ,m,x,fr,g,r⟩;obtain⟨d',h3,h4,h5⟩:=k d H' n' hΦ;have hH:Cs H' [] H' []:=by
  generalize H'=H0
  have:∀H1:Hp,Cs H0 [] H1 []:=λH1=>by
   induction H1 with
   |nil=>exact .nil
   |cons e r ih=>exact .drop ih
  exact this H0
 obtain⟨m2,hO,hN⟩:=hH.mem m;have r3:=h3.rep m hO hN r;have r4:=h4 _ nol _ _ _ r3;exact⟨v,d',rfl,⟨m.os,m.tape,m.output,m.size,λb hb=>m.blk b hb (by simp[F0])⟩,h5,r4.anti λb hb=>.inl hb⟩
theorem fG {H Hf:Hp}{a a' b b':D}(h1:Fz H Hf a a')(h2:Fz H Hf b b'):Fz H Hf (.tup [a,b]) (.tup [a',b']):=
 .tup rfl λi d d' hd hd'=>by
  match i with
  | 0=>simp at hd hd';subst hd;subst hd';exact h1
  | 1=>simp at hd hd';subst hd;subst hd';exact h2
  |i+2=>simp at hd
theorem ZY {a b:D}(h1:CE a)(h2:CE b):CE (.tup [a,b]):=CE.tup λd hd=>by
 simp only[A8,Dq,or_false]at hd;rcases hd with rfl|rfl
 ·exact h1
 ·exact h2
theorem jw (K g T:Nat)(l l':List Nat)(h:l.take l'.length=l'):Fz [⟨K,g,T,1,l.map AT⟩] [] (.osl K g 1 0 l'.length) (wL l'):=by
 have hll:l'.length<=l.length:=by
  have:=congrArg List.length h
  rw[Bc]at this;omega
 have key:∀(j:Nat) (d d':D),(l.map AT)[0+j]?=some d->(l'.map AT)[j]?=some d'->d=d':=λj d d' h1 h2=>by
  rw[<-h,Ay,FT]at h2;rw[BV,Ay]at h1;split at h2
  ·rw[h1]at h2;exact GV h2
  ·simp at h2
 refine .osl (e:=⟨K,g,T,1,l.map AT⟩) (by simp[Hp.get]) rfl rfl rfl (by simp;exact hll) (by simp) (λj d d' h1 h2=>by rw[key j d d' h1 h2]) λj d d' q c c' h1 h2 h3 h4=>?_
 rw[key j d d' h1 h2]at h3;rw[h3]at h4;cases h4;exact Fz.refl _
theorem rz:wD 0=.sl false 1 []:=by unfold wD;rw[Gd];rfl
theorem my (w:List Nat)(s:Nat)(hs:s<=63)(hw:Wd w)(hl:w.length<4000000):Af C0 196 [wL w,i64 s] (λd=>∃out:List Nat,out.length=w.length+1/\Wd out/\AU out=AU w*2^s/\d=wL out):=
 (YT w s hs hw hl [] 0).toP λd H n ⟨out,g,h1,h2,h3,h4,h5,_⟩=>by
  subst h4;subst h5;refine⟨wL out,?_,LU _,out,h1,h2,h3,rfl⟩
  have:=jw 103 g 187 out out (by simp)
  rw[h1]at this;exact this
theorem mi {n k:Nat}(h1:BB^k<=n)(h2:n<BB^(k+1)):(Ah n).length=k+1:=by
 have h3:=Hu h2;have h4:=Dy h1 (KF n);have h5:=(Nat.pow_lt_pow_iff_right (show 1<BB by decide)).1 h4;omega
theorem UR:∀(n:Nat) {k a:Nat},(Ah n).length=k+1->(Ah n)[k]?=some a->a≠0:=λn=>by
 induction n using Nat.strongRecOn with
 |ind n ih=>
  intro k a h1 h2
  by_cases h0:n=0
  ·subst h0;rw[Gd]at h1;cases h1
  ·rw[Gy h0]at h1 h2
   rw[Bu]at h1;have h3:=Nat.succ.inj h1;cases k with
   |zero=>
    have h4:Ah (n/BB)=[]:=FB h3;have h5:n/BB=0:=by rw[<-FY (n/BB),h4];rfl
    have h6:=FU n BB;rw[h5]at h6;simp at h2;intro h7;subst h7;rw[h2]at h6;omega
   |succ k=>
    rw[Kq]at h2;exact ih _ (Ir (EX h0) (by decide)) h3 h2
theorem Zm {n k:Nat}(h:(Ah n).length=k+1):BB^k<=n:=by
 obtain⟨a,ha⟩:=Cf (l:=Ah n) (i:=k) (by omega);have h1:=UR n h ha;have h2:=Ws h ha;rw[FY]at h2;have h3:=Cy (BB^k) (show 1<=a by omega);omega
theorem yT {b m y s:Nat}(hs:s<=63)(hl:(Ah b).length=m+1)(hy:(Ah b)[m]?=some y)(h:y*2^s<BB):(Ah (b*2^s)).length=m+1:=by
 have hp:0<2^s:=Ho s;have hpp:2^(64-s)*2^s=BB:=by rw[<-Gq,show 64-s+s=64 by omega]
 have h1:y<2^(64-s):=by
  rw[<-hpp]at h;exact Nat.lt_of_mul_lt_mul_right h
 refine mi ?_ ?_
 ·have:=Zm hl
  exact BY this (Nat.le_mul_of_pos_right _ hp)
 ·have h2:=Ws hl hy
  have h3:=IU ((F3 b).take m);rw[Bc,hl,Fp (by omega)]at h3;rw[FY]at h2;have h4:b<BB^m*(y+1):=by rw[BQ,Ej];omega
  have h5:BB^m*(y+1)<=BB^m*2^(64-s):=Cy _ h1;have h6:b*2^s<BB^m*2^(64-s)*2^s:=TM (Co h4 h5) hp;rw[B4,hpp]at h6;exact h6
theorem ZO {l:List Nat}{j a:Nat}(h:l[j]?=some a):AU (l.drop j)=a+BB*AU (l.drop (j+1)):=by
 have hj:j<l.length:=(BS.1 h).1;rw[Et hj,(BS.1 h).2];rfl
theorem RU {l:List Nat}{j a:Nat}(h:j<l.length):(l.set j a).drop j=a::l.drop (j+1):=by
 rw[Et (by rw[DK];exact h)]
 congr 1
 ·exact List.getElem_set_self _
 ·rw[List.drop_set_of_lt (by omega)]
theorem lH {a q:List Nat}{j x b rest:Nat}(hb:0<b)(hx:a[j]?=some x)(hj:j<q.length)(hI:AU (q.drop (j+1))*b+rest=AU (a.drop (j+1))):
  AU ((q.set j ((rest*BB+x)/b)).drop j)*b+(rest*BB+x)%b=AU (a.drop j)/\(rest*BB+x)%b<b:=by
 refine⟨?_,B7 _ hb⟩;rw[RU hj,ZO hx,<-hI,AU];have e:=FF (rest*BB+x) b;rw[Bz,BQ BB,B4 BB,Ba BB rest,Ba _ b];omega
theorem RI {q b r a:Nat}(h:q*b+r=a)(hr:r<b):q=a/b/\r=a%b:=by
 subst h;rw[Ba];exact⟨by rw[Nat.mul_add_div (by omega),IL hr,Dv],by rw[Nat.mul_add_mod,Ft hr]⟩
structure Me (X:Nat)(v U q:List Nat)(lu lq k:Nat):Prop where
 lU:U.length=lu
 lQ:q.length=lq
 wU:Wd U
 wq:Wd q
 val:BB^k*AU (q.drop k)*AU v+AU U=X
 less:AU (U.drop k)<AU v
theorem ib {U:List Nat}(j n:Nat):U=U.take j++((U.drop j).take n++U.drop (j+n)):=by
 rw[<-List.drop_drop,Fq,Fq]
theorem oo {X:Nat}{v U q:List Nat}{lu lq j m:Nat}(I:Me X v U q lu lq (j+1))(hv:v.length=m+2)(wv:Wd v)(v1 v2:Nat)(h2:v[m]?=some v2)(h1:v[m+1]?=some v1)(ht:0<v1)(hj:j+(m+3)<=lu):
  ∃p0 p1 p2,Nt ((U.drop j).take (m+3)) v m p0 p1 p2 v2 v1/\AU (U.drop (j+(m+3)))=0/\AU ((U.drop j).take (m+3))=AU (U.drop j):=by
 obtain⟨lU,lQ,wU,wq,val,less⟩:=I;obtain⟨x,hx⟩:=Cf (l:=U) (i:=j) (by omega);have hxl:=wU x (Ax hx);have e1:=ZO hx;have hlt:AU (U.drop j)<AU v*BB:=by
  have:BB*(AU (U.drop (j+1))+1)<=BB*AU v:=Cy _ less
  rw[BQ,Ba BB (AU v)]at this;omega
 have hPl:((U.drop j).take (m+3)).length=m+3:=by rw[Bc,D8];omega
 have e2:AU (U.drop j)=AU ((U.drop j).take (m+3))+BB^(m+3)*AU (U.drop (j+(m+3))):=by
  conv=>lhs;rw[<-Fq (m+3) (U.drop j)]
  rw[LB,hPl,List.drop_drop]
 have hvl:=IU wv;rw[hv]at hvl;have hz:AU (U.drop (j+(m+3)))=0:=by
  rcases D7 (AU (U.drop (j+(m+3))))with h|h
  ·exact h
  ·exfalso
   have e3:BB^(m+3)*1<=BB^(m+3)*AU (U.drop (j+(m+3))):=Cy _ h;have e4:AU v*BB<=BB^(m+2)*BB:=CV _ (Kt hvl);have e5:BB^(m+2)*BB=BB^(m+3):=(CZ BB (m+2)).symm;rw[e5]at e4;omega
 rw[hz,FE,Dv]at e2;obtain⟨p0,h0⟩:=Cf (l:=(U.drop j).take (m+3)) (i:=m) (by omega);obtain⟨p1,h3⟩:=Cf (l:=(U.drop j).take (m+3)) (i:=m+1) (by omega);obtain⟨p2,h4⟩:=Cf (l:=(U.drop j).take (m+3)) (i:=m+2) (by omega);exact⟨p0,p1,p2,⟨hPl,hv,λa ha=>wU a (Kv (GJ ha)),wv,h0,h3,h4,h2,h1,ht,by rw[<-e2];exact hlt⟩,hz,e2.symm⟩
theorem om {X:Nat}{v U q P':List Nat}{lu lq j m:Nat}(I:Me X v U q lu lq (j+1))(hv:0<AU v)(hj:j+(m+3)<=lu)(hjq:j<lq)(hz:AU (U.drop (j+(m+3)))=0)(hP:AU ((U.drop j).take (m+3))=AU (U.drop j))
  (h1:P'.length=m+3) (h2:Wd P') (h3:AU P'=AU ((U.drop j).take (m+3))%AU v) (hd:AU ((U.drop j).take (m+3))/AU v<BB):
  Me X v (U.take j++(P'++U.drop (j+(m+3)))) (q.set j (AU ((U.drop j).take (m+3))/AU v)) lu lq j:=by
 obtain⟨lU,lQ,wU,wq,val,less⟩:=I;have hA:(U.take j).length=j:=by rw[Bc];omega
 have e0:AU U=AU (U.take j)+BB^j*AU (U.drop j):=by
  conv=>lhs;rw[<-Fq j U]
  rw[LB,hA]
 have e1:AU (P'++U.drop (j+(m+3)))=AU P':=by rw[LB,hz,FE,Dv]
 refine⟨?_,by rw[DK];exact lQ,?_,wq.set hd,?_,?_⟩
 ·rw[Be,Be,hA,h1,D8];omega
 ·exact Wd.append (wU.take j) (Wd.append h2 λa ha=>wU a (Kv ha))
 ·rw[RU (by omega),AU,LB,hA,e1,h3,hP]
  rw[e0]at val;have e2:=FF (AU (U.drop j)) (AU v);have e3:BB^(j+1)*AU (q.drop (j+1))*AU v=BB^j*(BB*AU (q.drop (j+1))*AU v):=by
   rw[CZ,B4,B4,B4]
  rw[e3]at val;have e4:BB^j*AU (U.drop j)=BB^j*(AU v*(AU (U.drop j)/AU v))+BB^j*(AU (U.drop j)%AU v):=by
   rw[<-BQ,e2]
  rw[B4,Bz,BQ,Ba (AU (U.drop j)/AU v)];omega
 ·rw[List.drop_left' hA,e1,h3]
  exact B7 _ hv
theorem mE {a b s:Nat}{U v:List Nat}{k lu lq:Nat}(hU:AU U=a*2^s)(hv:AU v=b*2^s)(wU:Wd U)(lU:U.length=lu){q:List Nat}(hq:q=List.replicate lq 0)(hk:lq<=k)
  (hab:a<BB^k*b):Me (a*2^s) v U q lu lq k:=by
 subst hq;refine⟨lU,Hn,wU,NV _,?_,?_⟩
 ·rw[IJ (by rw[Hn];exact hk)]
  rw[show AU []=0 from rfl,FE,Hq,BV,hU]
 ·rcases BE (AU (U.drop k)) (AU v)with h|h
  ·exact h
  ·exfalso
   have e0:AU U=AU (U.take k)+BB^(U.take k).length*AU (U.drop k):=by
    conv=>lhs;rw[<-Fq k U]
    rw[LB]
   have hp:0<2^s:=Ho s;have h3:a*2^s<BB^k*b*2^s:=TM hab hp;rw[B4,<-hv]at h3;rcases BE U.length k with hl|hl
   ·rw[IJ (by omega)]at h
    rw[show AU []=0 from rfl]at h;rw[Nat.le_zero.1 h,FE]at h3;omega
   ·rw[Bc,Fp hl]at e0
    have:=Cy (BB^k) h
    omega
theorem ol {a b s:Nat}{v U q:List Nat}{lu lq:Nat}(I:Me (a*2^s) v U q lu lq 0)(hv:AU v=b*2^s):AU q=a/b/\AU U=a%b*2^s:=by
 obtain⟨lU,lQ,wU,wq,val,less⟩:=I;simp only[NF,J4,GH]at val less;obtain⟨h1,h2⟩:=RI val less;rw[hv,QY _ _ (Ho s)]at h1;rw[hv,QZ]at h2;exact⟨h1,h2⟩
structure PQ (U u:List Nat)(s i:Nat):Prop where
 len:u.length=U.length
 wd:Wd u
 rest:∀k,i<=k->u[k]?=U[k]?
 val:∀c,U[i]?=some c->AU (U.take i)+BB^i*(c%2^s)=2^s*AU (u.take i)
theorem lJ {U:List Nat}{s r:Nat}(wU:Wd U)(h:AU U=r*2^s)(hs:s<=63):PQ U U s 0:=by
 refine⟨rfl,wU,λ_ _=>rfl,λc hc=>?_⟩;have e:=LV hc;simp only[NE,NF,J4,AU,BV,FE]at e⊢;have hpp:2^(64-s)*2^s=BB:=by rw[<-Gq,show 64-s+s=64 by omega]
 have e1:(AU U)%2^s=0:=by rw[h];exact Nat.mul_mod_left _ _
 rw[e,<-hpp,Nat.mul_right_comm,Nat.add_mul_mod_self_right]at e1;exact e1
theorem Xw {c d s:Nat}(hs:s<=63)(hc:c<BB):c/2^s ||| d*2^(64-s)%BB=c/2^s+d%2^s*2^(64-s)/\c/2^s+d%2^s*2^(64-s)<BB /\
  c%2^s+2^s*(c/2^s+d%2^s*2^(64-s))=c+BB*(d%2^s):=by
 have hpp:2^s*2^(64-s)=BB:=by rw[<-Gq,show s+(64-s)=64 by omega]
 have h1:d*2^(64-s)%BB=d%2^s*2^(64-s):=by rw[<-hpp,QZ]
 have h2:c/2^s<2^(64-s):=Fr (by rw[hpp];exact hc);have h3:d%2^s<2^s:=B7 _ (Ho s);have h4:(d%2^s+1)*2^(64-s)<=2^s*2^(64-s):=CV _ h3;rw[hpp,Bz,J4]at h4;have e:=FU c (2^s);refine⟨?_,by omega,?_⟩
 ·rw[h1,Nat.or_comm,Vx h2,L4]
 ·rw[BQ,JR,hpp,Ba (d%2^s)]
  omega
theorem mK {U u:List Nat}{s i c d:Nat}(hs:s<=63)(wU:Wd U)(I:PQ U u s i)(hc:U[i]?=some c)(hd:U[i+1]?=some d):
  PQ U (u.set i (c/2^s+d%2^s*2^(64-s))) s (i+1):=by
 obtain⟨len,wd,rest,val⟩:=I;have hcl:=wU c (Ax hc);obtain⟨_,e2,e3⟩:=Xw (d:=d) hs hcl;have hi:i<U.length:=(BS.1 hc).1;refine⟨by rw[DK];exact len,wd.set e2,λk hk=>?_,λc' hc'=>?_⟩
 ·rw[JO (by omega)];exact rest k (by omega)
 ·rw[hd]at hc'
  cases hc';have v0:=val c hc;rw[RV (by omega),HR (i:=i) (by rw[Bc];omega),Fy hc,HR (i:=i) (by rw[Bc];omega),BQ,<-v0,CZ,B4,JR (2^s)];have e4:BB^i*(c%2^s+2^s*(c/2^s+d%2^s*2^(64-s)))=BB^i*(c+BB*(d%2^s)):=by rw[e3]
  rw[BQ,BQ (BB^i) c]at e4;omega
theorem mJ {U u:List Nat}{s n r:Nat}(I:PQ U u s n)(hn:n<U.length)(hU:AU U=r*2^s)(hl:AU U<BB^n):AU (u.take n)=r:=by
 obtain⟨c,hc⟩:=Cf hn;have e:=LV hc;have hz:c+BB*AU (U.drop (n+1))=0:=by
  rcases D7 (c+BB*AU (U.drop (n+1)))with h|h
  ·exact h
  ·have:=Cy (BB^n) h
   omega
 have hc0:c=0:=by omega
 subst hc0;have v0:=I.val 0 hc;rw[hz,FE,Dv]at e;rw[Nat.zero_mod,FE,Dv,<-e,hU,Ba]at v0;exact(Nat.eq_of_mul_eq_mul_left (Ho s) v0).symm
theorem Z7 {a b:Nat}(h:a<b):decide (EQ (a:Int) (b:Int)<0)=true:=Aw (by unfold EQ;split<;>(try split)<;>omega)
theorem Rk {a b:Nat}(h:b<=a):decide (EQ (a:Int) (b:Int)<0)=false:=Az (by unfold EQ;split<;>(try split)<;>omega)
theorem sA {env:Ap}{t K g n N t2:Nat}{z:List Nat}{T:Nat}{d2:D}(hl:z.length=N)(he:env.get t=.osl K g 1 0 N:=by exact rfl)(h2:env.get t2=d2:=by exact rfl):Wk ⟨env,[⟨K,g,T,1,z.map AT⟩],n⟩ ⟨[(t,.sl false 1 (z.map AT)),(t2,d2)],[],n⟩:=by
 subst hl;refine⟨.drop .nil,⟨?_,?_,trivial⟩,Ar _⟩
 ·dsimp only
  rw[he]
  have:=SU K g T 1 (z.map AT)
  rwa [Ab]at this
 ·dsimp only
  rw[h2];exact .refl _
theorem mH (a b:Nat)(hab:a<b)(ha:(Ah a).length<1000000)(hb:(Ah b).length<1000000):AL C0 146 [wD a,wD b] (.tup [wD (a/b),wD (a%b)]):=by
 rw[IL hab,Ft hab,rz];refine Af.walk w1 SQ rfl λF=>?_
 have cc:=Rl a b (by omega) (by omega);have e1:=Z7 hab;refine sR 0 ?_;refine AC.seq ?_;refine sR 100 ?_;refine cI cc ?_;rw[e1];refine AO ?_;refine sR 200 ?_;refine Aj ?_;exact⟨_,fG (.nil 1) (.refl _),ZY (.sl λe he=>by cases he) (LU _),rfl⟩
theorem oq (a b:Nat)(hab:b<=a)(ha:(Ah a).length<1000000)(hb:(Ah b).length=1)(hb0:b≠0):AL C0 146 [wD a,wD b] (.tup [wD (a/b),wD (a%b)]):=by
 have cc:=Rl a b (by omega) (by omega);have e1:=Rk hab;have hbl:b<BB:=by
  have:=KF b
  rw[hb,Nat.pow_one]at this;exact this
 have hlb:(Ah b)[0]?=some b:=by rw[NO hb0 hbl];rfl
 have va:=FY a;have wa:=F3 a;refine Af.walk w1 SQ rfl λF=>?_
 unfold wD wL at cc⊢;change AC C0 F none F _ _ (Se X1.tt _ (· = .tup [wD (a/b),wD (a%b)]));generalize Ah a=la at*;generalize Ah b=lb at*;have hb':=Dt hlb;have e3:((((lb.map AT).length:Nat):Int)==1)=true:=by rw[Ab,hb];rfl
 have ea:(((la.map AT).length:Nat):Int)=(la.length:Int):=by rw[Ab]
 have wl:IntKind.i64.wrap ((la.length:Int)-1)=(la.length:Int)-1:=wI;have r3:List.replicate la.length (ofV (.int .u64 0))=(List.replicate la.length 0).map AT:=by rw[Kw];rfl
 refine sR 0 ?_;refine AC.seq ?_;refine sR 100 ?_;refine cI cc ?_;rw[e1];refine AO ?_;refine An ?_;refine AC.seq ?_;refine sZ 300 ?_;refine AX e3 ?_;refine AO ?_;refine sZ 400 ?_;refine AX (Aa ea kN) ?_;refine sR 500 ?_;refine AC.seq ?_;refine sZ 600 ?_;refine AX (Aa ea wl) ?_;refine AC.block ?_;refine AC.loop (α:=Nat×Nat×List Nat×Nat) (λp=>⟨[(0,.sl false 1 (la.map AT)),(1,.sl false 1 (lb.map AT)),(6,.osl 402 11 1 0 la.length),(7,AT p.2.1),(8,i64 ((p.1:Int)-1))],[⟨402,11,187,1,p.2.2.1.map AT⟩],p.2.2.2⟩) (λp=>p.1)
  (λp=>p.1<=la.length/\p.2.1<b/\p.2.2.1.length=la.length/\Wd p.2.2.1/\AU (p.2.2.1.drop p.1)*b+p.2.1=AU (la.drop p.1)) (la.length,0,List.replicate la.length 0,_)
  ⟨Ar _,EX hb0,by simp,NV _,by simp[AU]⟩ (by rw[<-r3];exact AK) ?_
 rintro⟨k,r,q,m⟩ F ⟨h1,h2,h3,h4,h5⟩;dsimp only at h1 h2 h3 h4 h5⊢;clear cc e1 e3 ea wl r3;refine AC.seq ?_;refine sR 700 ?_;refine AO ?_
 (refine B1 (λh20=>?_) (λh20=>?_))<;>(try simp only[Bq,B0]at h20)<;>(try simp only[h20])
 ·obtain⟨j,rfl⟩:∃j,k=j+1:=⟨k-1,by
   have:(k:Int)-1>=0:=by simpa using h20
   omega⟩
  have wj:((j+1:Nat):Int)-1=(j:Int):=by omega
  obtain⟨x,hx⟩:=Cf (l:=la) (i:=j) (by omega);obtain⟨z,hz⟩:=Cf (l:=q) (i:=j) (by omega);have hx':=Dt hx;have hz':=Dt hz;have hxl:=wa x (Ax hx);have cd:=ZK r x b h2 hxl hbl;obtain⟨J1,J2⟩:=lH (EX hb0) hx (by omega) h5;have hql:(r*BB+x)/b<BB:=by
   refine Fr ?_
   have:(r+1)*BB<=b*BB:=CV _ h2
   rw[Bz]at this;omega
  have wi:IntKind.i64.wrap ((j:Int)-1)=(j:Int)-1:=wI;generalize(r*BB+x)/b=d at*;generalize(r*BB+x)%b=r' at*;rw[wj];refine An ?_;refine AC.seq ?_;refine AC.block ?_;refine QR w1 900 [0,1,2,3,4,5,6,7,8,9,10,11,12,13,14,15] [16] 15 [11,9,8,7,6,5,4,3,2,1,0,10,12,14] (402) (by kernel_rfl) (by kernel_rfl) ?_;refine BO ?_;refine NH kN ?_;refine NQ rfl rfl rfl rfl ?_;refine N8 (λ_ _=>rfl) (by exact CD) ⟨rfl,by omega⟩ hx' ?_
  try dsimp only[D.cells,spot]
  refine NH kN ?_;refine NQ rfl rfl rfl rfl ?_;refine N8 (λ_ _=>rfl) (by exact CD) ⟨rfl,by omega⟩ hb' ?_
  try dsimp only[D.cells,spot]
  refine NH kN ?_;refine NQ rfl rfl rfl rfl ?_;refine MU (λ_ _=>rfl) (by exact CD) ?_;refine BO ?_;refine Bf.same _ cd AJ ?_;refine NH (Ao kN BV hz') ?_;refine BM (by first|exact Or.inl AB|exact Or.inl rfl) ?_;refine AG (Aa kN BV) ?_;rw[map_set];refine As 800 ?_;refine AX wi ?_;exact⟨(j,r',q.set j d,_),⟨by dsimp only;omega,J2,by dsimp only;rw[DK];exact h3,h4.set hql,J1⟩,by dsimp only;omega,AK⟩
 ·have hk:k=0:=by
   have:¬((k:Int)-1>=0):=by simpa using h20
   omega
  subst hk;rw[GH,GH,va]at h5;obtain⟨q1,q2⟩:=RI h5 h2;refine CG ?_;refine AC.weak ⟨[(6,.sl false 1 (q.map AT)),(7,AT r)],[],_⟩ (sA h3) ?_;refine sR 1000 ?_;refine BF.same _ (trim_ok q h4 (by omega)) AJ ?_;refine BU ?_;have hrl:Wd [r]:=λa ha=>by
   simp only[A8,Dq,or_false]at ha;subst ha;exact Gp h2 hbl
  refine BF.pure [wL [r]] _ ⟨.nn true 1 _,trivial⟩ (trim_ok [r] hrl (by simp)) AJ ?_;refine BU ?_;refine Aj ?_;exact AM (by rw[q1,q2];simp[AU]) AA.out
set_option maxHeartbeats 4000000
theorem aD {H:Hp}{K g T:Nat}{l:List Nat}{N:Nat}(hl:l.length=N)(he:Hp.get H K=some ⟨K,g,T,1,l.map AT⟩:=by exact rfl):Fz H [] (.osl K g 1 0 N) (.sl false 1 (l.map AT)):=by
 subst hl;have key:∀(j:Nat) (d d':D),(l.map AT)[0+j]?=some d->(l.map AT)[j]?=some d'->d=d':=λj d d' h1 h2=>by
  rw[BV]at h1;rw[h1]at h2;exact GV h2
 refine .osl (e:=⟨K,g,T,1,l.map AT⟩) he rfl rfl rfl (by simp) (by simp) (λj d d' h1 h2=>by rw[key j d d' h1 h2]) λj d d' q c c' h1 h2 h3 h4=>?_
 rw[key j d d' h1 h2]at h3;rw[h3]at h4;cases h4;exact Fz.refl _
theorem mI (a b m:Nat)(hab:b<=a)(ha:(Ah a).length<1000000)(hb:(Ah b).length=m+2):AL C0 146 [wD a,wD b] (.tup [wD (a/b),wD (a%b)]):=by
 have hlen:=IQ b a hab;have cc:=Rl a b (by omega) (by omega);have e1:=Rk hab;obtain⟨y,hy⟩:=Cf (l:=Ah b) (i:=m+1) (by omega);have y0:=UR b hb hy;have yl:y<BB:=F3 b y (Ax hy);obtain⟨s,hs,es,t1,t2⟩:=YK y0 yl;have cl:=gU y yl;rw[es]at cl;have hvl:=yT hs hb hy t2;obtain⟨v,hv⟩:∃v,v=Ah (b*2^s):=⟨_,rfl⟩
 have wv:Wd v:=by rw[hv];exact F3 _
 have vv:AU v=b*2^s:=by rw[hv];exact FY _
 rw[<-hv]at hvl;obtain⟨v1,h1⟩:=Cf (l:=v) (i:=m+1) (by omega);obtain⟨v2,h2⟩:=Cf (l:=v) (i:=m) (by omega);have v10:v1≠0:=UR (b*2^s) (by rw[<-hv];exact hvl) (by rw[<-hv];exact h1);have vpos:0<AU v:=by
  rw[vv];refine IK ?_ (Ho s);refine EX λh=>?_
  subst h;rw[Gd]at hb;cases hb
 have va:=FY a;have vb:=FY b;have wa:=F3 a;have wb:=F3 b;have hup:=KF a;have hbge:=Zm hb;refine Af.walk w1 SQ rfl λF=>?_
 unfold wD wL at cc⊢;change AC C0 F none F _ _ (Se X1.tt _ (· = .tup [wD (a/b),wD (a%b)]));generalize Ah a=la at*;generalize Ah b=lb at*;obtain⟨lq,hlq⟩:∃lq,la.length=lq+(m+2):=⟨la.length-(m+2),by omega⟩
 have hy':=Dt hy;have e3:((((lb.map AT).length:Nat):Int)==1)=false:=by rw[Ab,hb];exact Bo.2 (by omega)
 have elb:(((lb.map AT).length:Nat):Int)=((m+2:Nat):Int):=by rw[Ab,hb]
 have wlb0:IntKind.i64.wrap (((m+2:Nat):Int)-1)=((m+1:Nat):Int):=by rw[wI];omega
 have wlb:IntKind.i64.wrap ((((lb.map AT).length:Nat):Int)-1)=((m+1:Nat):Int):=by rw[elb];exact wlb0
 have ea:(((la.map AT).length:Nat):Int)=(la.length:Int):=by rw[Ab]
 have ev:(((v.map AT).length:Nat):Int)=((m+2:Nat):Int):=by rw[Ab,hvl]
 have wq1:IntKind.i64.wrap ((la.length:Int)-((m+2:Nat):Int))=(lq:Int):=by rw[wI];omega
 have wq2:IntKind.i64.wrap ((lq:Int)+1)=((lq+1:Nat):Int):=by rw[wI];omega
 have wq1':IntKind.i64.wrap ((la.length:Int)-((m+2:Nat):Int))=((lq+1:Nat):Int)-1:=by rw[wI];omega
 have wraw:IntKind.i64.wrap (IntKind.i64.wrap ((((la.map AT).length:Nat):Int)-((m+2:Nat):Int))+1)=((lq+1:Nat):Int):=by rw[ea,wq1,wq2]
 have r3:List.replicate (lq+1) (ofV (.int .u64 0))=(List.replicate (lq+1) 0).map AT:=by rw[Kw];rfl
 refine sR 0 ?_;refine AC.seq ?_;refine sR 100 ?_;refine cI cc ?_;rw[e1];refine AO ?_;refine An ?_;refine AC.seq ?_;refine sZ 300 ?_;refine AX e3 ?_;refine AO ?_;refine An ?_;refine sZ 1100 ?_;refine AG (Bb wlb elb wlb0 kN) ?_;refine By kT hy' ?_;refine AG (Bb wlb elb wlb0 kN) ?_;refine cI cl ?_;refine DJ (α:=Nat) (λn=>⟨[(0,.sl false 1 (la.map AT)),(9,i64 s),(10,.sl false 1 (v.map AT))],[],n⟩) (λ_=>True) ?_ ?_
 ·refine rI 1200 ?_
  refine BF.prop [wL lb,i64 s] _ (FH.refl _) (my lb s hs wb (by omega)) AJ ?_;rintro d ⟨out,o1,o2,o3,rfl⟩;have hvo:wD (AU out)=.sl false 1 (v.map AT):=by rw[o3,vb,hv];rfl
  refine BU ?_;refine BF.same _ (trim_ok out o2 (by omega)) AJ ?_;refine BU ?_;simp only[hvo];exact⟨trivial,_,trivial,AK⟩
 rintro n0 -;clear cc e1 e3 elb wlb wlb0 hy' cl es t1 t2 yl y0 hy wb;refine sR 1300 ?_;refine BF.own _ (YT la s hs wa (by omega) [] _) ?_;rintro d H' n1 ⟨U,gu,u1,u2,u3,rfl,rfl,-⟩;rw[va]at u3;refine BU ?_;refine sZ 1400 ?_;refine AX ev ?_;refine DJ (α:=Nat×Nat) (λp=>⟨[(0,.sl false 1 (la.map AT)),(9,i64 s),(10,.sl false 1 (v.map AT)),(11,.osl 103 gu 1 0 (la.length+1)),(12,i64 ((m+2:Nat):Int)),(13,.osl 1505 p.1 1 0 (lq+1))],[⟨1505,p.1,187,1,(List.replicate (lq+1) 0).map AT⟩,⟨103,gu,187,1,U.map AT⟩],p.2⟩) (λ_=>True) ?_ ?_
 ·refine As 1500 ?_
  refine AX (CS ea wq1 wq2 kN r3) ?_;exact⟨trivial,⟨n1+9,n1+20⟩,trivial,by rw[<-r3];exact AK⟩
 rintro⟨g,n2⟩ -;dsimp only;have I0:Me (a*2^s) v U (List.replicate (lq+1) 0) (la.length+1) (lq+1) (lq+1):=by
  refine mE u3 vv u2 u1 rfl (Ar _) ?_
  have:BB^(lq+1)*BB^(m+1)<=BB^(lq+1)*b:=Cy _ hbge
  rw[<-Gq,show lq+1+(m+1)=la.length by omega]at this;omega
 refine AC.seq ?_;refine sZ 1600 ?_;refine AX (Aa ea wq1') ?_;refine AC.block ?_;refine AC.loop (α:=Nat×List Nat×List Nat×Nat) (λp=>⟨[(9,i64 s),(10,.sl false 1 (v.map AT)),(11,.osl 103 gu 1 0 (la.length+1)),(12,i64 ((m+2:Nat):Int)),(13,.osl 1505 g 1 0 (lq+1)),(14,i64 ((p.1:Int)-1))],[⟨1505,g,187,1,p.2.2.1.map AT⟩,⟨103,gu,187,1,p.2.1.map AT⟩],p.2.2.2⟩) (λp=>p.1)
  (λp=>p.1<=lq+1/\Me (a*2^s) v p.2.1 p.2.2.1 (la.length+1) (lq+1) p.1) (lq+1,U,List.replicate (lq+1) 0,_) ⟨Ar _,I0⟩ AK ?_
 rintro⟨k,u,q,n3⟩ F ⟨hk,I⟩;dsimp only at hk I⊢;clear I0 wq1 wq2 wq1' wraw r3 ea;refine AC.seq ?_;refine sR 1700 ?_;refine AO ?_
 (refine B1 (λh20=>?_) (λh20=>?_))<;>(try simp only[Bq,B0]at h20)<;>(try simp only[h20])
 ·obtain⟨j,rfl⟩:∃j,k=j+1:=⟨k-1,by
   have:(k:Int)-1>=0:=by simpa using h20
   omega⟩
  have wj:((j+1:Nat):Int)-1=(j:Int):=by omega
  obtain⟨p0,p1,p2,SI,hz,hP⟩:=oo I hvl wv v1 v2 h2 h1 (EX v10) (by omega);have hA:(u.take j).length=j:=by rw[Bc,I.lU];omega
  have cs:=λn=>s8 (u.take j) ((u.drop j).take (m+3)) (u.drop (j+(m+3))) v m p0 p1 p2 v2 v1 SI (by rw[hA];omega) g 187 gu (q.map AT) n
  rw[hA,<-ib j (m+3)]at cs;obtain⟨z,hzq⟩:=Cf (l:=q) (i:=j) (by rw[I.lQ];omega);have hz':=Dt hzq;have hdl:AU ((u.drop j).take (m+3))/AU v<BB:=Fr SI.less;have wi:IntKind.i64.wrap ((j:Int)-1)=(j:Int)-1:=wI;have wjn1:IntKind.i64.wrap ((j:Int)+((m+2:Nat):Int))=((j+(m+2):Nat):Int):=by rw[wI];omega
  have wjn2:IntKind.i64.wrap (((j+(m+2):Nat):Int)+1)=((j+(m+3):Nat):Int):=by rw[wI];omega
  have wraw:IntKind.i64.wrap (IntKind.i64.wrap ((j:Int)+((m+2:Nat):Int))+1)=((j+(m+3):Nat):Int):=by rw[wjn1,wjn2]
  have els:j+(m+3)-j=m+3:=L1 _ _;have J:=λP' h1 h2 h3=>om (P':=P') I vpos (by omega) (by omega) hz hP h1 h2 h3 hdl
  rw[wj];refine An ?_;refine AC.seq ?_;refine AC.block ?_;refine As 1900 ?_;refine AG (D9 wraw wjn1 wjn2 kN BV els) ?_;refine BF.own _ (cs _) ?_;rintro d H' n4 ⟨P',g1,g2,g3,rfl,rfl⟩;rw[SI.lP]at g1;refine AG (Ao kN BV hz') ?_;rw[map_set];refine As 1800 ?_;refine AX wi ?_;exact⟨(j,u.take j++(P'++u.drop (j+(m+3))),q.set j (AU ((u.drop j).take (m+3))/AU v),_),⟨by dsimp only;omega,J P' g1 g2 g3⟩,by dsimp only;omega,AK⟩
 ·have hk:k=0:=by
   have:¬((k:Int)-1>=0):=by simpa using h20
   omega
  subst hk;obtain⟨q1,q2⟩:=ol I vv;have D0:=lJ I.wU q2 hs;have wu:=I.wU;have wqq:=I.wq;have lu:=I.lU;have lqq:=I.lQ;have hlt:AU u<BB^(m+2):=by
   have:=I.less
   rw[GH]at this;have h:=IU wv;rw[show v.length=m+2 from hvl]at h;omega
  clear I;refine CG ?_;refine AC.seq ?_;refine sR 2000 ?_;refine AC.block ?_;refine AC.loop (α:=Nat×List Nat×Nat) (λp=>⟨[(9,i64 s),(11,.osl 103 gu 1 0 (la.length+1)),(12,i64 ((m+2:Nat):Int)),(13,.osl 1505 g 1 0 (lq+1)),(96,i64 ((m+2:Nat):Int)),(97,i64 p.1)],[⟨1505,g,187,1,q.map AT⟩,⟨103,gu,187,1,p.2.1.map AT⟩],p.2.2⟩) (λp=>m+2-p.1)
   (λp=>p.1<=m+2/\PQ u p.2.1 s p.1) (0,u,_) ⟨BW _,D0⟩ AK ?_
  rintro⟨i,x,n4⟩ F ⟨hi,I⟩;dsimp only at hi I⊢;have xl:=I.len;refine sR 2100 ?_;refine AC.seq ?_;refine AO ?_
  (refine B1 (λhlt2=>?_) (λhlt2=>?_))<;>(try simp only[Bq,B0]at hlt2)<;>(try simp only[hlt2])
  ·have hi2:i<m+2:=by
    have:=DN hlt2
    omega
   obtain⟨c,hc⟩:=Cf (l:=u) (i:=i) (by omega);obtain⟨d,hd⟩:=Cf (l:=u) (i:=i+1) (by omega);have hcx:x[i]?=some c:=by rw[I.rest i (Ar _)];exact hc
   have hdx:x[i+1]?=some d:=by rw[I.rest (i+1) (by omega)];exact hd
   have hc':=Dt hcx;have hcl:=wu c (Ax hc);have hdl:=wu d (Ax hd);have I2:=mK hs wu I hc hd;obtain⟨g1,g2,_⟩:=Xw (d:=d) hs hcl;have esh:=OL c s (by omega);have wi:IntKind.i64.wrap ((i:Int)+1)=((i+1:Nat):Int):=wI;refine An ?_;refine AC.seq ?_;refine AC.block ?_;refine sR 2200 ?_;refine sZ 2300 ?_;refine AG (Bb kN BV hc' esh) ?_;rw[map_set];have hxi:i<x.length:=by omega
   have h2c:((x.set i (c/2^s)).map AT)[i]?=some (AT (c/2^s)):=Dt (QW hxi);have h2d:((x.set i (c/2^s)).map AT)[i+1]?=some (AT d):=Dt (by rw[JO (by omega)];exact hdx);refine AC.seq ?_;rcases D7 s with h0|h0
   ·have e24:decide ((s:Int)>0)=false:=Bd
    have es0:x.set i (c/2^s+d%2^s*2^(64-s))=x.set i (c/2^s):=by
     rw[h0,NF,Nat.mod_one,Hq,Dv]
    rw[es0]at I2;refine As 2400 ?_;refine AX e24 ?_;refine AG e24 ?_;refine AO ?_;refine An ?_;refine As 2600 ?_;refine AX wi ?_;exact⟨(i+1,x.set i (c/2^s),_),⟨hi2,I2⟩,by dsimp only;omega,AK⟩
   ·have e24:decide ((s:Int)>0)=true:=BR
    have e24':decide (((i+1:Nat):Int)<((la.length+1:Nat):Int))=true:=BR;have w64:IntKind.i64.wrap (64-(s:Int))=((64-s:Nat):Int):=by rw[wI];omega
    have w640:(0:Int)<=IntKind.i64.wrap (64-(s:Int)):=by rw[w64];omega
    have e27:=P6 d (64-s) (by omega);have e28:H3 .or .u64 ((c/2^s:Nat):Int) ((d*2^(64-s)%18446744073709551616:Nat):Int)=((c/2^s+d%2^s*2^(64-s):Nat):Int):=by
     rw[Wy _ _ (Dy (Gn _ _) hcl) (B7 _ (by decide)),g1]
    have hset:((x.set i (c/2^s)).map AT).set i (AT (c/2^s+d%2^s*2^(64-s)))=(x.set i (c/2^s+d%2^s*2^(64-s))).map AT:=by
     rw[map_set,List.set_set]
    refine As 2400 ?_;refine AX e24 ?_;refine AG (Ao e24 wi e24') ?_;refine AO ?_;refine CN 2500 [0,1,2,3,4,5,6,7,8,9,10,11] [12,13,14] ?_;refine AG (CM wi w64 e27 e28 kN BV (Aa h2c h2d)) ?_;refine Eb rfl rfl ?_;refine N9 rfl rfl rfl h2c ?_;refine AG hset ?_;refine As 2600 ?_;refine AX wi ?_;exact⟨(i+1,x.set i (c/2^s+d%2^s*2^(64-s)),_),⟨hi2,I2⟩,by dsimp only;omega,AK⟩
  ·have hi2:i=m+2:=by
    have:=Do hlt2
    omega
   subst hi2;have hr:=mJ I (by omega) q2 hlt;have wx:=I.wd;refine CG ?_;refine AC.weak ⟨[(11,.sl false 1 (x.map AT)),(12,i64 ((m+2:Nat):Int)),(13,.sl false 1 (q.map AT))],[],_⟩ ⟨.drop (.drop .nil),⟨aD (by omega),.refl _,aD lqq,trivial⟩,Ar _⟩ ?_;have e4:List.take (m+2-0) (List.drop 0 (x.map AT))=(x.take (m+2)).map AT:=by
    rw[Oh];simp
   have e5:List.take (m+2) (x.map AT)=(x.take (m+2)).map AT:=by
    rw[Oh]
   have ex:(x.map AT).length=la.length+1:=by rw[Ab];omega
   refine AC.seq ?_;refine CN 2700 [0,1,2,3,4] [5,6,7] ?_;refine BU ?_;refine Bf.same _ (trim_ok q wqq (by omega)) AJ ?_;refine AG (Bb kN Nat.sub_zero (@GH D) e5) ?_;refine BF.same _ (trim_ok (x.take (m+2)) (wx.take _) (by rw[Bc];omega)) AJ ?_;refine BU ?_;refine Aj ?_;exact AM (by rw[q1,hr]) AA.out
theorem ic (a b:Nat)(hb:b≠0)(ha:(Ah a).length<1000000)(hbl:(Ah b).length<1000000):AL C0 146 [wD a,wD b] (.tup [wD (a/b),wD (a%b)]):=by
 rcases BE a b with h|h
 ·exact mH a b h ha hbl
 ·rcases hl:(Ah b).length with _|m
  ·have:=KF b
   rw[hl]at this;simp at this;exact Ak this hb
  ·rcases m with _|m
   ·exact oq a b h ha hl hb
   ·exact mI a b m h ha hl
set_option maxHeartbeats 2000000
theorem Px {x:GI}(h:x.wf)(h0:x.z ≠ -9223372036854775808):x=Ac x.z:=by
 obtain⟨z,sm⟩:=x;unfold Ac
 congr 1
 cases sm with
 |true=>
  have:=h.1 rfl
  dsimp only at this h0⊢;exact(Aw (show Sm z from⟨by omega,by omega⟩)).symm
 |false=>
  have:=h.2 rfl
  exact(Az this).symm
theorem EE (z:Int):(Ac z).z=z:=rfl
def ER (x y:GI):GI×GI:=
 if x.sm=true/\y.sm=true/\x.z ≠ -9223372036854775808 then(⟨x.z/y.z,true⟩,⟨x.z%y.z,true⟩)
 else if x.z.tmod y.z<0 then(JK (Ac (x.z.tdiv y.z)) ⟨1,true⟩,Eh (Ac (x.z.tmod y.z)) y)else(Ac (x.z.tdiv y.z),Ac (x.z.tmod y.z))
theorem l5 (a b:Int)(hb:0<b):(a.tmod b<0->a.tdiv b-1=a/b/\a.tmod b+b=a%b)/\(¬a.tmod b<0->a.tdiv b=a/b/\a.tmod b=a%b):=by
 have e1:=Int.tdiv_eq_ediv (a:=a) (b:=b);have e2:=Int.tmod_add_mul_tdiv a b;have e3:=Int.emod_add_mul_ediv a b;have e4:=Int.emod_nonneg a (show b≠0 by omega);have e5:=Int.emod_lt_of_pos a hb;have hsg:b.sign=1:=Int.sign_eq_one_of_pos hb;rw[hsg]at e1;split at e1
 ·rw[Int.add_zero]at e1
  rw[e1]at e2;constructor
  ·intro h;omega
  ·intro _;exact⟨e1,by omega⟩
 ·rename_i hc
  have hd:¬b ∣ a:=λh=>hc (Or.inr h)
  have hr:a%b≠0:=λh=>hd (Int.dvd_of_emod_eq_zero h)
  have e6:b*(a/b+1)=b*(a/b)+b:=by rw[Int.mul_add,Int.mul_one]
  rw[e1,e6]at e2;constructor
  ·intro _;exact⟨by omega,by omega⟩
  ·intro h;omega
theorem bR {x y:GI}(hy:0<y.z):(ER x y).1.z=x.z/y.z/\(ER x y).2.z=x.z%y.z:=by
 obtain⟨f1,f2⟩:=l5 x.z y.z hy;unfold ER;split
 ·exact⟨rfl,rfl⟩
 ·split
  ·rename_i h
   rw[eE,Nw];exact f1 h
  ·rename_i h
   exact f2 h
theorem aK {x y:GI}(hx:x.wf)(hy:y.wf)(h0:0<y.z):(ER x y).1.wf/\(ER x y).2.wf:=by
 unfold ER;split
 ·rename_i h
  have hx1:=hx.1 h.1;have hy1:=hy.1 h.2.1;obtain⟨_,_,h3⟩:=h;have hm:=Int.emod_lt_of_pos x.z h0;have hm2:=Int.emod_nonneg x.z (show y.z≠0 by omega);refine⟨⟨λ_=>?_,λh=>by cases h⟩,⟨λ_=>⟨by dsimp only;omega,by dsimp only;omega⟩,λh=>by cases h⟩⟩;dsimp only;have e3:=Int.emod_add_mul_ediv x.z y.z;constructor
  ·rcases Int.lt_or_le (x.z/y.z) (-9223372036854775808)with h|h
   ·exfalso
    have h8:y.z*(x.z/y.z+1)<=1*(x.z/y.z+1):=Int.mul_le_mul_of_nonpos_right (by omega) (by omega);rw[Int.mul_add,Int.mul_one]at h8;omega
   ·exact h
  ·rcases Int.lt_or_le (x.z/y.z) 9223372036854775808 with h|h
   ·exact h
   ·exfalso
    have h5:(1:Int)*(x.z/y.z)<=y.z*(x.z/y.z):=Int.mul_le_mul_of_nonneg_right (by omega) (by omega);omega
 ·split
  ·exact⟨al _ _,Nj _ _⟩
  ·exact⟨C4 _,C4 _⟩
theorem mv (a b:Int)(hb:0<b):ES (decide (a<0)) (a.natAbs/b.natAbs)=a.tdiv b/\ES (decide (a<0)) (a.natAbs%b.natAbs)=a.tmod b:=by
 obtain⟨n,rfl⟩:∃n:Nat,b=n:=⟨b.natAbs,by omega⟩
 rw[E5]
 by_cases h:a<0
 ·obtain⟨m,rfl⟩:∃m:Nat,a = -(m:Int):=⟨a.natAbs,by omega⟩
  rw[Aw h,ND,E5,Int.neg_tdiv,Int.neg_tmod];exact⟨rfl,rfl⟩
 ·obtain⟨m,rfl⟩:∃m:Nat,a=(m:Int):=⟨a.natAbs,by omega⟩
  rw[Az h,E5];exact⟨rfl,rfl⟩
theorem lI (x y:GI)(hx:x.wf)(hy:y.wf)(h0:0<y.z)(fx:x.few)(fy:y.few)(hn:¬(x.sm=true/\y.sm=true/\x.z ≠ -9223372036854775808)):
  AL C0 213 [x.D,y.D] (.tup [(ER x y).1.D,(ER x y).2.D]):=by
 unfold ER;rw[AH hn];refine Af.walk w1 Vh rfl λF=>?_
 have cx:=KG x hx;have cy:=KG y hy;have cd:=ic x.z.natAbs y.z.natAbs (by omega) fx fy;obtain⟨t1,t2⟩:=mv x.z y.z h0;have lq:(Ah (x.z.natAbs/y.z.natAbs)).length<1000000:=Dy (IQ _ _ (Gn _ _)) fx;have lr:(Ah (x.z.natAbs%y.z.natAbs)).length<1000000:=Dy (IQ _ _ (Nat.mod_le _ _)) fx;have c1:=Md (decide (x.z<0)) (x.z.natAbs/y.z.natAbs) (Gp lq (by decide));have c2:=Md (decide (x.z<0)) (x.z.natAbs%y.z.natAbs) (Gp lr (by decide));rw[t1]at c1;rw[t2]at c2;have fq:(Ac (x.z.tdiv y.z)).few:=by
  show(Ah (x.z.tdiv y.z).natAbs).length<1000000;rw[Int.natAbs_tdiv];exact lq
 have fr:(Ac (x.z.tmod y.z)).few:=by
  show(Ah (x.z.tmod y.z).natAbs).length<1000000;rw[Int.natAbs_tmod];exact lr
 have f1:(⟨1,true⟩:GI).few:=by show(Ah 1).length<1000000;rw[NO (by decide) (by decide)];decide
 have cg:=N5 (Ac (x.z.tmod y.z)) (C4 _);have cs:=iP (Ac (x.z.tdiv y.z)) ⟨1,true⟩ (C4 _) ⟨λ_=>⟨by decide,by decide⟩,λh=>by cases h⟩ fq f1;have ca:=Pw (Ac (x.z.tmod y.z)) y (C4 _) hy fr fy;rw[EE]at cg;have co:AL C0 126 [i64 1] (⟨1,true⟩:GI).D:=Ca Dx 1000 40;have hpx:AA x.w:=AJ;have hpy:AA y.w:=AJ;have hpq:AA (Ac (x.z.tdiv y.z)).w:=AJ;have hpr:AA (Ac (x.z.tmod y.z)).w:=AJ;have hps:AA (JK (Ac (x.z.tdiv y.z)) ⟨1,true⟩).w:=AJ;have hpa:AA (Eh (Ac (x.z.tmod y.z)) y).w:=AJ;have hp1:AA (⟨1,true⟩:GI).w:=AJ;clear t1 t2 lq lr fq fr f1;dsimp only[GI.D]at*;refine fR 0 ?_;refine DA ⟨[(2,.optr 0 0 2 0 0),(3,.optr 1 1 2 0 0),(4,.optr 2 2 2 0 0),(5,.optr 3 3 2 0 0)],[⟨3,3,132,2,[DL 0]⟩,⟨2,2,132,2,[DL 0]⟩,⟨1,1,132,2,[.agg [i64 y.s,y.w]]⟩,⟨0,0,132,2,[.agg [i64 x.s,x.w]]⟩],90⟩ ?_ ?_
 ·obtain⟨a,sa⟩:=x
  obtain⟨b,sb⟩:=y;clear cx cy cd c1 c2 cg cs ca co hpq hpr hps hpa hp1;have nx:sa=false->(Ah a.natAbs).map AT≠[]:=λh=>IV (by
   intro h0;subst h;exact hx.2 rfl ⟨by dsimp only;omega,by dsimp only;omega⟩)
  have ny:sb=false->(Ah b.natAbs).map AT≠[]:=λh=>IV (by
   intro h0;subst h;exact hy.2 rfl ⟨by dsimp only;omega,by dsimp only;omega⟩)
  unfold GI.s GI.w wD wL at*;dsimp only at*;generalize(Ah a.natAbs).map AT=ka at*;generalize(Ah b.natAbs).map AT=kb at*;cases sa with
  |false=>
   have nx:=nx rfl;dsimp only at*;generalize(if a<0 then(-1:Int)else 1)=sg at*;generalize(match sb with|true=>b|false=>if b<0 then(-1:Int)else 1)=sh at*;generalize(match sb with|true=>CK|false=>D.sl false 1 kb)=wy at*;refine AC.seq ?_;refine As 100 ?_;refine AX (Ao (@ne_eq (List D)) nx E6) ?_;refine AG kT ?_;refine AG kT ?_;refine AG kT ?_;refine AO ?_;refine An ?_;exact BM (by trivial) (AK)
  |true=>
   dsimp only at*;cases sb with
   |false=>
    have ny:=ny rfl;dsimp only at*;generalize(if b<0 then(-1:Int)else 1)=sh at*;refine AC.seq ?_;refine As 100 ?_;refine AX (Ao (@ne_eq (List D)) ny E6) ?_;refine AG (Bb kT (@ne_eq (List D)) ny E6) ?_;refine AG (Bb kT (@ne_eq (List D)) ny E6) ?_;refine AG (Bb kT (@ne_eq (List D)) ny E6) ?_;refine AO ?_;refine An ?_;exact BM (by trivial) (AK)
   |true=>
    have ha:a = -9223372036854775808:=DH λh=>hn ⟨rfl,rfl,h⟩
    subst ha;dsimp only at*;refine sZ 100 ?_
    repeat'(first|(refine BM (by exact CD) ?_;refine BO ?_)|((refine B1 (λhb=>?_) (λhb=>?_))<;>(try simp only[Bq,B0]at hb)<;>(try simp only[hb])<;>(refine BO ?_)))
    refine AO ?_;refine An ?_;exact BM (by trivial) (AK)
 ·refine fR 600 ?_
  refine dI cx ?_;refine fR 700 ?_;refine dI cy ?_;refine fR 800 ?_;refine dI cd ?_;refine fR 900 ?_;refine dI c1 ?_;refine dI c2 ?_;refine AC.seq ?_;refine fR 1000 ?_;refine dI cg ?_
  by_cases h:x.z.tmod y.z<0
  ·have e:decide (max (-1) (min 1 (x.z.tmod y.z))<0)=true:=BR
   rw[AI h,e];refine AO ?_;refine CN 1100 [0,1,2,3,4] [5,6,7] ?_;refine CH ?_;refine Bf.same _ (co) AJ ?_;refine CH ?_;refine Bf.same _ (cs) AJ ?_;refine CH ?_;refine dI ca ?_;refine AC.seq ?_;refine QR w1 1200 [0,1,2] [3] 2 [0] (2) (by kernel_rfl) (by kernel_rfl) ?_;refine CH ?_;refine CH ?_;refine Aj ?_;exact AM rfl AA.out
  ·have e:decide (max (-1) (min 1 (x.z.tmod y.z))<0)=false:=Bd
   rw[AH h,e];refine AO ?_;refine An ?_;refine AC.seq ?_;refine QR w1 1200 [0,1,2] [3] 2 [0] (2) (by kernel_rfl) (by kernel_rfl) ?_;refine CH ?_;refine CH ?_;refine Aj ?_;exact AM rfl AA.out
theorem ZM (x y:GI)(hx:x.wf)(hy:y.wf)(h0:0<y.z)(fx:x.few)(fy:y.few):AL C0 213 [x.D,y.D] (.tup [(ER x y).1.D,(ER x y).2.D]):=by
 by_cases h:x.sm=true/\y.sm=true/\x.z ≠ -9223372036854775808
 ·unfold ER
  rw[AI h];obtain⟨a,sa⟩:=x;obtain⟨b,sb⟩:=y;obtain⟨h1,h2,h3⟩:=h;dsimp only at h1 h2 h3 h0;subst h1;subst h2;have ra:=hx.1 rfl;have rb:=hy.1 rfl;dsimp only at ra rb;exact mG a b h0 ⟨by omega,by omega⟩ ⟨by omega,by omega⟩
 ·exact lI x y hx hy h0 fx fy h
theorem iY (x y:GI)(hx:x.wf)(hy:y.wf)(h0:0<y.z)(fx:x.few)(fy:y.few):AL C0 168 [x.D,y.D] (ER x y).1.D:=by
 refine Af.walk w1 ba rfl λF=>?_
 have cg:=N5 y hy;have cd:=ZM x y hx hy h0 fx fy;have e1:decide (max (-1) (min 1 y.z)<0)=false:=Bd;have hpx:AA x.w:=AJ;have hpy:AA y.w:=AJ;have hpq:AA (ER x y).1.w:=AJ;have hpr:AA (ER x y).2.w:=AJ;dsimp only[GI.D]at*;generalize(ER x y).1.s=qs at*;generalize(ER x y).1.w=qw at*;generalize(ER x y).2.s=rs at*;generalize(ER x y).2.w=rw at*;refine fR 0 ?_;refine AC.seq ?_;refine fR 100 ?_;refine dI cg ?_;rw[e1];refine AO ?_;refine An ?_;refine fR 300 ?_;refine dI cd ?_;refine fR 400 ?_;refine Aj ?_;exact AM rfl AA.out
theorem Zz (x:GI)(h:x.wf):M1 x=Ac (x.z.natAbs:Nat):=by
 have h1:=qT x h;have h2:=tX x;rw[Px h1 (by omega),h2]
theorem I4 {n:Nat}(h:(Ah n).length<1000000):(Ac (n:Int)).few:=by
 show(Ah (n:Int).natAbs).length<1000000;rw[E5];exact h
theorem ZL {a b:Nat}(hb:0<b):ER (Ac a) (Ac b)=(Ac ((a/b:Nat):Int),Ac ((a%b:Nat):Int)):=by
 have hb':(0:Int)<(Ac (b:Int)).z:=by show(0:Int)<(b:Int);omega
 obtain⟨h1,h2⟩:=aK (C4 a) (C4 b) hb';obtain⟨h3,h4⟩:=bR (x:=Ac a) hb';have e3:(ER (Ac a) (Ac b)).1.z=((a/b:Nat):Int):=by rw[h3];exact(Int.natCast_ediv a b).symm
 have e4:(ER (Ac a) (Ac b)).2.z=((a%b:Nat):Int):=by rw[h4];exact(Int.natCast_emod a b).symm
 have c3:=Px h1 (by rw[e3];generalize a/b=q;omega);have c4:=Px h2 (by rw[e4];generalize a%b=q;omega);rw[e3]at c3;rw[e4]at c4;generalize ER (Ac a) (Ac b)=p at*;obtain⟨p1,p2⟩:=p;dsimp only at c3 c4;rw[c3,c4]
theorem gT (x y:GI)(hx:x.wf)(hy:y.wf)(fx:x.few)(fy:y.few):AL C0 167 [x.D,y.D] (Ac (Nat.gcd x.z.natAbs y.z.natAbs:Nat)).D:=by
 refine Af.walk w1 b9 rfl λF=>?_
 have c1:=fj x hx fx;have c2:=fj y hy fy;rw[Zz x hx]at c1;rw[Zz y hy]at c2;have hpx:AA x.w:=AJ;have hpy:AA y.w:=AJ;have hpm:∀n:Nat,AA (Ac (n:Int)).w:=λn=>AJ
 unfold GI.few at fx fy;generalize x.z.natAbs=a at*;generalize y.z.natAbs=b at*;dsimp only[GI.D]at*;refine fR 0 ?_;refine AC.seq ?_;refine CN 100 [0,1,2] [3,4,5] ?_;refine CH ?_;refine Bf.same _ (c1) AJ ?_;refine CH ?_;refine dI c2 ?_;refine AC.seq ?_;refine AC.block ?_;refine AC.loop (α:=Nat×Nat×Nat) (λp=>⟨[(2,.optr 0 0 2 0 0),(3,.optr 1 1 2 0 0),(4,.optr 2 2 2 0 0)],[⟨2,2,132,2,[DL 0]⟩,⟨1,1,132,2,[.agg [i64 (Ac (p.2.1:Int)).s,(Ac (p.2.1:Int)).w]]⟩,⟨0,0,132,2,[.agg [i64 (Ac (p.1:Int)).s,(Ac (p.1:Int)).w]]⟩],p.2.2⟩) (λp=>p.2.1)
  (λp=>Nat.gcd p.1 p.2.1=Nat.gcd a b/\(Ah p.1).length<1000000/\(Ah p.2.1).length<1000000) (a,b,_) ⟨rfl,fx,fy⟩ AK ?_
 rintro⟨u,v,n⟩ F ⟨g1,g2,g3⟩;dsimp only at g1 g2 g3⊢;have cg:=N5 (Ac (v:Int)) (C4 _);rw[EE]at cg;dsimp only[GI.D]at cg;refine AC.seq ?_;refine fR 200 ?_;refine dI cg ?_;rcases D7 v with hv|hv
 ·subst hv
  have e2:(max (-1) (min 1 ((0:Nat):Int)) != 0)=false:=by decide
  rw[e2];refine AO ?_;refine CG ?_;refine fR 500 ?_;refine Aj ?_;refine AM ?_ AA.out;rw[<-g1,Nat.gcd_zero_right]
 ·have e2:(max (-1) (min 1 (v:Int)) != 0)=true:=by
   have:max (-1) (min 1 (v:Int))=1:=by omega
   rw[this];rfl
  have cd:=ZM (Ac (u:Int)) (Ac (v:Int)) (C4 _) (C4 _) (by show(0:Int)<(v:Int);omega) (I4 g2) (I4 g3);rw[ZL hv]at cd;dsimp only[GI.D]at cd;rw[e2];refine AO ?_;refine An ?_;refine AC.block ?_;refine fR 300 ?_;refine dI cd ?_;refine QR w1 400 [0,1,2] [3] 2 [0] (0) (by kernel_rfl) (by kernel_rfl) ?_;refine CH ?_;refine CH ?_;have hm:u%v<v:=B7 u hv;refine⟨(v,u%v,_),⟨?_,g3,Dy (IQ _ _ (Nat.mod_le _ _)) g2⟩,hm,AK⟩;rw[<-g1,Oi u v,Nat.gcd_rec v u,Oi]
structure GF where
 n:GI
 d:Nat
abbrev GF.D (x:GF):D:=.agg [i64 x.n.s,x.n.w,i64 (Ac (x.d:Int)).s,(Ac (x.d:Int)).w]
def Is (r:Rat)(x:GF):Prop:=x.n.wf/\x.n.z=r.num/\x.d=r.den
theorem qQ {a b:Nat}(hb:0<b)(h:(Ah b).length<1000000):(Ah (Nat.gcd a b)).length<1000000:=Dy (IQ _ _ (Nat.gcd_le_right _ hb)) h
def JD (x:GI)(d:Nat):GF:=if d=1 then⟨x,1⟩else⟨(ER x (Ac (Nat.gcd x.z.natAbs d:Nat))).1,d/Nat.gcd x.z.natAbs d⟩
theorem Ri (x:GI)(d:Nat)(hx:x.wf)(hd:0<d):Is (mkRat x.z d) (JD x d):=by
 have hg:0<Nat.gcd x.z.natAbs d:=QU _ hd;have e:mkRat x.z d=Rat.normalize x.z d (by omega):=(Rat.normalize_eq_mkRat _).symm;rw[e,Rat.normalize_eq];unfold JD;split
 ·rename_i h
  subst h;refine⟨hx,?_,?_⟩
  ·dsimp only;rw[Nat.gcd_one_right];simp
  ·dsimp only;rw[Nat.gcd_one_right]
 ·have hg':(0:Int)<(Ac (Nat.gcd x.z.natAbs d:Nat)).z:=by show(0:Int)<(Nat.gcd x.z.natAbs d:Nat);omega
  exact⟨(aK hx (C4 _) hg').1,(bR hg').1,rfl⟩
theorem Vr:Ac ((1:Nat):Int)=⟨1,true⟩:=KO ⟨by decide,by decide⟩
theorem S0 {d:Nat}(h:Sm (d:Int)):(Ac (d:Int)).s=(d:Int)/\(Ac (d:Int)).w=CK:=by rw[KO h];exact⟨rfl,rfl⟩
theorem Wv {d:Nat}(h:¬Sm (d:Int)):(Ac (d:Int)).s=1/\(Ac (d:Int)).w=.sl false 1 ((Ah d).map AT)/\(Ah d).map AT≠[]:=by
 rw[Vq h];refine⟨?_,rfl,IV ?_⟩
 ·show(if(d:Int)<0 then(-1:Int)else 1)=1
  rw[CP]
 ·intro h0
  subst h0;exact h ⟨by decide,by decide⟩
def Lj (x y:GI):GF:=JD (if y.z<0 then Ac (-x.z)else x) y.z.natAbs
theorem oT (x y:GI)(hx:x.wf)(h0:y.z≠0):Is (Rat.divInt x.z y.z) (Lj x y):=by
 unfold Lj
 by_cases h:y.z<0
 ·rw[AI h]
  have:=Ri (Ac (-x.z)) y.z.natAbs (C4 _) (by omega)
  rw[EE]at this;have e:mkRat (-x.z) y.z.natAbs=Rat.divInt x.z y.z:=by
   obtain⟨k,hk⟩:∃k,y.z=Int.negSucc k:=by
    cases hy:y.z with
    |ofNat n=>rw[hy]at h;simp at h;omega
    |negSucc k=>exact⟨k,rfl⟩
   rw[hk];show mkRat (-x.z) (k+1)=_;exact(Rat.normalize_eq_mkRat (by omega)).symm
  rw[e]at this;exact this
 ·rw[AH h]
  have:=Ri x y.z.natAbs hx (by omega)
  have e:mkRat x.z y.z.natAbs=Rat.divInt x.z y.z:=by
   rw[<-Rat.divInt_ofNat];congr 1;omega
  rw[e]at this;exact this
theorem fN (x y:GI)(hx:x.wf)(hy:y.wf)(h0:y.z≠0)(fx:x.few)(fy:y.few):AL C0 124 [x.D,y.D] (Lj x y).D:=by
 refine Af.walk w1 dF rfl λF=>?_
 have cg:=N5 y hy;have cn1:=Pz x hx fx;have cn2:=Pz y hy fy;obtain⟨x',hx'⟩:∃x',x'=if y.z<0 then Ac (-x.z)else x:=⟨_,rfl⟩
 have wx':x'.wf:=by rw[hx'];split;exact C4 _;exact hx
 have fx':x'.few:=by rw[hx'];split;exact Z8 fx;exact fx
 have hd:0<y.z.natAbs:=by omega
 have fd:(Ah y.z.natAbs).length<1000000:=fy;have fdg:=I4 fd;have ey:y.z<0->Ac (-y.z)=Ac (y.z.natAbs:Int):=λh=>by congr 1;omega
 have ey':¬y.z<0->y=Ac (y.z.natAbs:Int):=λh=>by
  rw[Px hy (by omega)];show Ac y.z=Ac (y.z.natAbs:Int)
  congr 1;omega
 unfold Lj;rw[<-hx'];generalize hdd:y.z.natAbs=d at*;have hpx:AA x.w:=AJ;have hpy:AA y.w:=AJ;have hpx':AA x'.w:=AJ;have hpd:AA (Ac (d:Int)).w:=AJ;have hg:0<Nat.gcd x'.z.natAbs d:=QU _ hd;have cc:=gT x' (Ac (d:Int)) wx' (C4 _) fx' fdg;rw[EE,E5]at cc;have fgg:(Ac (Nat.gcd x'.z.natAbs d:Nat)).few:=I4 (qQ hd fd);have cq1:=iY x' (Ac (Nat.gcd x'.z.natAbs d:Nat)) wx' (C4 _) (by show(0:Int)<(Nat.gcd x'.z.natAbs d:Nat);omega) fx' fgg;have cq2:=iY (Ac (d:Int)) (Ac (Nat.gcd x'.z.natAbs d:Nat)) (C4 _) (C4 _) (by show(0:Int)<(Nat.gcd x'.z.natAbs d:Nat);omega) fdg fgg;rw[ZL hg]at cq2;have hpg:AA (Ac ((Nat.gcd x'.z.natAbs d:Nat):Int)).w:=AJ;have hpq1:AA (ER x' (Ac (Nat.gcd x'.z.natAbs d:Nat))).1.w:=AJ;have hpq2:AA (Ac ((d/Nat.gcd x'.z.natAbs d:Nat):Int)).w:=AJ;unfold JD GF.D;dsimp only[GI.D]at*;refine fR 0 ?_;refine DA ⟨[(2,.optr 0 0 2 0 0),(3,.optr 1 1 2 0 0),(4,.optr 2 2 4 0 0)],[⟨2,2,134,4,[.agg [i64 0,CK,i64 0,CK]]⟩,⟨1,1,132,2,[.agg [i64 (Ac (d:Int)).s,(Ac (d:Int)).w]]⟩,⟨0,0,132,2,[.agg [i64 x'.s,x'.w]]⟩],90⟩ ?_ ?_
 ·by_cases h:y.z<0
  ·have e1:decide (max (-1) (min 1 y.z)<0)=true:=BR
   rw[AI h]at hx';subst hx';rw[<-ey h];refine fR 100 ?_;refine dI cg ?_;rw[e1];refine AO ?_;refine CN 200 [0,1,2] [3,4,5] ?_;refine CH ?_;refine Bf.same _ (cn1) AJ ?_;refine CH ?_;refine dI cn2 ?_;exact⟨rfl,AK⟩
  ·have e1:decide (max (-1) (min 1 y.z)<0)=false:=Bd
   rw[AH h]at hx';subst hx';have ey:=ey' h;refine fR 100 ?_;refine dI cg ?_;rw[e1];refine AO ?_;refine An ?_;rw[<-ey];exact⟨rfl,AK⟩
 by_cases h1:d=1
 ·subst h1
  rw[AI rfl,Vr];refine AC.seq ?_;refine sZ 300 ?_
  repeat'(first|(refine BM (by exact CD) ?_;refine BO ?_)|((refine B1 (λhb=>?_) (λhb=>?_))<;>(try simp only[Bq,B0]at hb)<;>(try simp only[hb])<;>(refine BO ?_)))
  refine AO ?_;refine fR 400 ?_;refine Aj ?_;exact AM rfl AA.out
 ·rw[AH h1]
  refine DA ⟨[(2,.optr 0 0 2 0 0),(3,.optr 1 1 2 0 0),(4,.optr 2 2 4 0 0)],[⟨2,2,134,4,[.agg [i64 0,CK,i64 0,CK]]⟩,⟨1,1,132,2,[.agg [i64 (Ac (d:Int)).s,(Ac (d:Int)).w]]⟩,⟨0,0,132,2,[.agg [i64 x'.s,x'.w]]⟩],98⟩ ?_ ?_
  ·by_cases hs:Sm (d:Int)
   ·obtain⟨a1,a2⟩:=S0 hs
    rw[a1,a2];have e2:((d:Int)==1)=false:=Bo.2 (by omega);refine sZ 300 ?_
    repeat'(first|(refine BM (by exact CD) ?_;refine BO ?_)|((refine B1 (λhb=>?_) (λhb=>?_))<;>(try simp only[Bq,B0]at hb)<;>(try simp only[hb])<;>(refine BO ?_)))
    try simp only[e2]
    refine AO ?_;refine An ?_;exact⟨rfl,⟨Hz _,⟨.refl _,.refl _,.refl _,trivial⟩,Ar _⟩⟩
   ·obtain⟨a1,a2,a3⟩:=Wv hs
    rw[a1,a2];generalize(Ah d).map AT=l at*;refine AC.seq ?_;refine As 300 ?_;refine AX (Ao (@ne_eq (List D)) a3 E6) ?_;refine AG kT ?_;refine AO ?_;refine An ?_;exact⟨rfl,⟨Hz _,⟨.refl _,.refl _,.refl _,trivial⟩,Ar _⟩⟩
  ·refine fR 500 ?_
   refine dI cc ?_;refine AC.seq ?_;refine CN 600 [0,1,2,3,4] [5,6,7] ?_;refine CH ?_;refine Bf.same _ (cq1) AJ ?_;refine CH ?_;refine dI cq2 ?_;refine Aj ?_;exact AM rfl AA.out
def rk (r:Rat)(k:Nat):Prop:=(Ah r.num.natAbs).length<=k/\(Ah r.den).length<=k
theorem rk.mono {r:Rat}{k l:Nat}(h:rk r k)(hl:k<=l):rk r l:=⟨BY h.1 hl,BY h.2 hl⟩
theorem R4 {n:Int}{d k:Nat}(hd:d≠0)(h1:(Ah n.natAbs).length<=k)(h2:(Ah d).length<=k):rk (Rat.normalize n d hd) k:=by
 rw[Rat.normalize_eq];exact⟨BY (IQ _ _ (Int.natAbs_ediv_le_natAbs _ _)) h1,BY (IQ _ _ (Gn _ _)) h2⟩
theorem LE (a b:Int):(Ah (a*b).natAbs).length<=(Ah a.natAbs).length+(Ah b.natAbs).length:=by
 rw[Og];exact MP _ _
theorem YD (a b:Int):(Ah (a+b).natAbs).length<=max (Ah a.natAbs).length (Ah b.natAbs).length+1:=
 BY (IQ _ _ (Int.natAbs_add_le a b)) (Yw _ _)
theorem dq {a b:Rat}{i j:Nat}(ha:rk a i)(hb:rk b j):rk (a+b) (i+j+1):=by
 rw[Rat.add_def];have h1:=LE a.num b.den;have h2:=LE b.num a.den;have h3:=YD (a.num*b.den) (b.num*a.den);have h4:=MP a.den b.den;rw[E5]at h1 h2;obtain⟨a1,a2⟩:=ha;obtain⟨b1,b2⟩:=hb;exact R4 _ (by omega) (by omega)
theorem x5 {a b:Rat}{i j:Nat}(ha:rk a i)(hb:rk b j):rk (a*b) (i+j):=by
 rw[Rat.mul_def];have h1:=LE a.num b.num;have h4:=MP a.den b.den;obtain⟨a1,a2⟩:=ha;obtain⟨b1,b2⟩:=hb;exact R4 _ (by omega) (by omega)
structure FR (r:Rat)(x:GF)(k:Nat):Prop where
 is:Is r x
 rk:rk r k
theorem FR.fn {r:Rat}{x:GF}{k:Nat}(h:FR r x k)(hk:k<1000000):x.n.few:=by
 show(Ah x.n.z.natAbs).length<1000000;rw[h.is.2.1];have:=h.rk.1;omega
theorem FR.ln {r:Rat}{x:GF}{k:Nat}(h:FR r x k):(Ah x.n.z.natAbs).length<=k:=by rw[h.is.2.1];exact h.rk.1
theorem FR.ld {r:Rat}{x:GF}{k:Nat}(h:FR r x k):(Ah x.d).length<=k:=by rw[h.is.2.2];exact h.rk.2
theorem FR.dpos {r:Rat}{x:GF}{k:Nat}(h:FR r x k):0<x.d:=by rw[h.is.2.2];exact r.den_pos
theorem QJ (x:GI)(d:Nat)(hx:x.wf)(fx:(Ah x.z.natAbs).length<400000)(fd:(Ah d).length<400000):AL C0 125 [x.D,(Ac (d:Int)).D] (Ac (x.z*d)).D:=by
 have:=gW x (Ac (d:Int)) hx (C4 _) fx (by rw[EE,E5];exact fd)
 rwa [EE]at this
theorem Ww (c d:Nat)(fc:(Ah c).length<400000)(fd:(Ah d).length<400000):AL C0 125 [(Ac (c:Int)).D,(Ac (d:Int)).D] (Ac ((c*d:Nat):Int)).D:=by
 have:=QJ (Ac (c:Int)) d (C4 _) (by rw[EE,E5];exact fc) fd
 rw[EE,<-Gm]at this;exact this
theorem ZP (x:GI)(d:Nat)(hx:x.wf)(hd:0<d)(fx:x.few)(fd:(Ah d).length<1000000):AL C0 124 [x.D,(Ac (d:Int)).D] (JD x d).D:=by
 have:=fN x (Ac (d:Int)) hx (C4 _) (by rw[EE];omega) fx (I4 fd)
 unfold Lj at this;rw[EE,CP,E5]at this;exact this
theorem UQ (x:GF)(hd:0<x.d):AL C0 116 [x.D] (Al (decide (x.d=1))):=by
 refine Af.walk w1 dA rfl λF=>?_
 obtain⟨y,d⟩:=x;dsimp only[GF.D]at hd⊢;have hpy:AA y.w:=AJ;generalize y.s=ys at*;generalize y.w=yw at*
 by_cases hs:Sm (d:Int)
 ·obtain⟨a1,a2⟩:=S0 hs
  rw[a1,a2];have e2:((d:Int)==1)=decide (d=1):=by
   rw[GU,ED,decide_eq_true_iff];omega
  refine fR 0 ?_;refine sZ 100 ?_
  repeat'(first|(refine BM (by exact CD) ?_;refine BO ?_)|((refine B1 (λhb=>?_) (λhb=>?_))<;>(try simp only[Bq,B0]at hb)<;>(try simp only[hb])<;>(refine BO ?_)))
  try simp only[e2]
  refine Aj ?_;exact AM rfl AA.out
 ·obtain⟨a1,a2,a3⟩:=Wv hs
  rw[a1,a2];have e2:decide (d=1)=false:=Az λh=>hs (by rw[h];exact⟨by decide,by decide⟩)
  rw[e2];generalize(Ah d).map AT=l at*;refine fR 0 ?_;refine AC.seq ?_;refine As 100 ?_;refine AX (Ao (@ne_eq (List D)) a3 E6) ?_;refine AG kT ?_;refine Aj ?_;exact AM rfl AA.out
def Kg (x y:GF):GF:=if x.d=1/\y.d=1 then⟨Eh x.n y.n,1⟩else JD (Eh (Ac (x.n.z*y.d)) (Ac (y.n.z*x.d))) (x.d*y.d)
theorem qU {a b:Rat}{x y:GF}(hx:Is a x)(hy:Is b y):Is (a+b) (Kg x y):=by
 obtain⟨x1,x2,x3⟩:=hx;obtain⟨y1,y2,y3⟩:=hy;rw[Rat.add_def,Rat.normalize_eq_mkRat,<-x2,<-x3,<-y2,<-y3];unfold Kg;split
 ·rename_i h
  rw[h.1,h.2];refine⟨Nj _ _,?_,?_⟩
  ·dsimp only
   rw[Nw];show _=(mkRat (x.n.z*1+y.n.z*1) 1).num;rw[Int.mul_one,Int.mul_one,Rat.mkRat_one,Rat.num_intCast]
  ·dsimp only
   show _=(mkRat (x.n.z*1+y.n.z*1) 1).den;rw[Rat.mkRat_one,Rat.den_intCast]
 ·have:=Ri (Eh (Ac (x.n.z*y.d)) (Ac (y.n.z*x.d))) (x.d*y.d) (Nj _ _) (IK (by rw[x3];exact a.den_pos) (by rw[y3];exact b.den_pos))
  rw[Nw,EE,EE]at this;exact this
theorem bD (x:GI):AL C0 122 [x.D] (⟨x,1⟩:GF).D:=by
 refine Af.walk w1 Vd rfl λF=>?_
 have hpx:AA x.w:=AJ;unfold GF.D;rw[Vr];dsimp only[GI.D]at*;refine fR 0 ?_;refine AC.seq ?_;refine CN 100 [0,1] [2,3] ?_;refine CH ?_;refine Bf.same _ (P0 1) AJ ?_;refine CH ?_;refine Aj ?_;exact AM rfl AA.out
theorem SM {a b:Rat}{x y:GF}{i j:Nat}(hx:FR a x i)(hy:FR b y j)(hk:i+j<300000):AL C0 94 [x.D,y.D] (Kg x y).D:=by
 refine Af.walk w1 iG rfl λF=>?_
 have v1:=UQ x hx.dpos;have v2:=UQ y hy.dpos;have l1:=hx.ln;have l2:=hy.ln;have l3:=hx.ld;have l4:=hy.ld;have dp:=IK hx.dpos hy.dpos;have m1:=QJ x.n y.d hx.is.1 (by omega) (by omega);have m2:=QJ y.n x.d hy.is.1 (by omega) (by omega);have m3:=Ww x.d y.d (by omega) (by omega);have z1:=LE x.n.z y.d;have z2:=LE y.n.z x.d;rw[E5]at z1 z2;have z3:=YD (x.n.z*y.d) (y.n.z*x.d);have z4:=MP x.d y.d;have s1:=Pw (Ac (x.n.z*y.d)) (Ac (y.n.z*x.d)) (C4 _) (C4 _) (by show(Ah (x.n.z*y.d).natAbs).length<1000000;omega) (by show(Ah (y.n.z*x.d).natAbs).length<1000000;omega);have s0:=Pw x.n y.n hx.is.1 hy.is.1 (hx.fn (by omega)) (hy.fn (by omega));have mk:=ZP (Eh (Ac (x.n.z*y.d)) (Ac (y.n.z*x.d))) (x.d*y.d) (Nj _ _) dp (by
  show(Ah (Eh (Ac (x.n.z*y.d)) (Ac (y.n.z*x.d))).z.natAbs).length<1000000;rw[Nw,EE,EE];omega) (by omega)
 have wg:=bD (Eh x.n y.n);have hp1:AA x.n.w:=AJ;have hp2:AA y.n.w:=AJ;have hp3:AA (Ac (x.d:Int)).w:=AJ;have hp4:AA (Ac (y.d:Int)).w:=AJ;have hp5:AA (Eh x.n y.n).w:=AJ;have hp6:AA (Eh (Ac (x.n.z*y.d)) (Ac (y.n.z*x.d))).w:=AJ;have hp7:AA (Ac (x.n.z*y.d)).w:=AJ;have hp8:AA (Ac (y.n.z*x.d)).w:=AJ;have hp9:AA (Ac ((x.d*y.d:Nat):Int)).w:=AJ;have hq1:AA (JD (Eh (Ac (x.n.z*y.d)) (Ac (y.n.z*x.d))) (x.d*y.d)).n.w:=AJ;have hq2:AA (Ac ((JD (Eh (Ac (x.n.z*y.d)) (Ac (y.n.z*x.d))) (x.d*y.d)).d:Int)).w:=AJ;have hq3:AA (Ac ((1:Nat):Int)).w:=AJ;unfold Kg;clear z1 z2 z3 z4 l1 l2 l3 l4 dp hk hx hy;dsimp only[GI.D,GF.D]at*
 by_cases e1:x.d=1
 ·have fb:decide (x.d=1)=true:=Aw e1
  rw[fb]at v1
  by_cases e2:y.d=1
  ·have fd:decide (y.d=1)=true:=Aw e2
   rw[fd]at v2;rw[AI ⟨e1,e2⟩];refine fR 0 ?_;refine AC.seq ?_;refine fR 100 ?_;refine dI v1 ?_;dsimp only[OJ];refine CH ?_;dsimp only[OJ];refine CH ?_;refine dI v2 ?_;refine AO ?_;refine fR 200 ?_;refine dI s0 ?_;refine dI wg ?_;refine Aj ?_;exact AM rfl AA.out
  ·have fd:decide (y.d=1)=false:=Az e2
   rw[fd]at v2;rw[AH λh=>e2 h.2];refine fR 0 ?_;refine AC.seq ?_;refine fR 100 ?_;refine dI v1 ?_;dsimp only[OJ];refine CH ?_;dsimp only[OJ];refine CH ?_;refine dI v2 ?_;refine AO ?_;refine An ?_;refine AC.seq ?_;refine CN 300 [0,1,2,3,4,5,6,7,8,9,10,11,12,13,14] [15,16,17] ?_;refine CH ?_;refine Bf.same _ (m1) AJ ?_;refine CH ?_;refine Bf.same _ (m2) AJ ?_;refine CH ?_;refine Bf.same _ (s1) AJ ?_;refine CH ?_;refine dI m3 ?_;refine dI mk ?_;refine Aj ?_;exact AM rfl AA.out
 ·have fb:decide (x.d=1)=false:=Az e1
  rw[fb]at v1;rw[AH λh=>e1 h.1];refine fR 0 ?_;refine AC.seq ?_;refine fR 100 ?_;refine dI v1 ?_;dsimp only[Sg];refine CH ?_;dsimp only[Sg];refine CH ?_;refine AO ?_;refine An ?_;refine AC.seq ?_;refine CN 300 [0,1,2,3,4,5,6,7,8,9,10,11,12,13,14] [15,16,17] ?_;refine CH ?_;refine Bf.same _ (m1) AJ ?_;refine CH ?_;refine Bf.same _ (m2) AJ ?_;refine CH ?_;refine Bf.same _ (s1) AJ ?_;refine CH ?_;refine dI m3 ?_;refine dI mk ?_;refine Aj ?_;exact AM rfl AA.out
theorem Ru {a b:Rat}{x y:GF}{i j:Nat}(hx:FR a x i)(hy:FR b y j):FR (a+b) (Kg x y) (i+j+1):=⟨qU hx.is hy.is,dq hx.rk hy.rk⟩
def JI (x y:GF):GF:=JD (Ac (x.n.z*y.n.z)) (x.d*y.d)
theorem rh {a b:Rat}{x y:GF}(hx:Is a x)(hy:Is b y):Is (a*b) (JI x y):=by
 obtain⟨x1,x2,x3⟩:=hx;obtain⟨y1,y2,y3⟩:=hy;rw[Rat.mul_def,Rat.normalize_eq_mkRat,<-x2,<-x3,<-y2,<-y3]
 have:=Ri (Ac (x.n.z*y.n.z)) (x.d*y.d) (C4 _) (IK (by rw[x3];exact a.den_pos) (by rw[y3];exact b.den_pos))
 rw[EE]at this;exact this
theorem VE {a b:Rat}{x y:GF}{i j:Nat}(hx:FR a x i)(hy:FR b y j):FR (a*b) (JI x y) (i+j):=⟨rh hx.is hy.is,x5 hx.rk hy.rk⟩
theorem Vc {a b:Rat}{x y:GF}{i j:Nat}(hx:FR a x i)(hy:FR b y j)(hk:i+j<300000):AL C0 92 [x.D,y.D] (JI x y).D:=by
 refine Af.walk w1 iE rfl λF=>?_
 have l1:=hx.ln;have l2:=hy.ln;have l3:=hx.ld;have l4:=hy.ld;have dp:=IK hx.dpos hy.dpos;have z1:=LE x.n.z y.n.z;have z4:=MP x.d y.d;have m1:=gW x.n y.n hx.is.1 hy.is.1 (by omega) (by omega);have m3:=Ww x.d y.d (by omega) (by omega);have mk:=ZP (Ac (x.n.z*y.n.z)) (x.d*y.d) (C4 _) dp (by show(Ah (x.n.z*y.n.z).natAbs).length<1000000;omega) (by omega);have p1:AA x.n.w:=AJ;have p2:AA y.n.w:=AJ;have p3:AA (Ac (x.d:Int)).w:=AJ;have p4:AA (Ac (y.d:Int)).w:=AJ;have p5:AA (Ac (x.n.z*y.n.z)).w:=AJ;have p6:AA (Ac ((x.d*y.d:Nat):Int)).w:=AJ;have p7:AA (JD (Ac (x.n.z*y.n.z)) (x.d*y.d)).n.w:=AJ;have p8:AA (Ac ((JD (Ac (x.n.z*y.n.z)) (x.d*y.d)).d:Int)).w:=AJ;unfold JI;clear l1 l2 l3 l4 dp z1 z4 hx hy;dsimp only[GI.D,GF.D]at*;refine fR 0 ?_;refine AC.seq ?_;refine CN 100 [0,1,2,3,4,5,6,7,8] [9,10,11] ?_;refine CH ?_;refine Bf.same _ (m1) AJ ?_;refine CH ?_;refine dI m3 ?_;refine dI mk ?_;refine Aj ?_;exact AM rfl AA.out
def Kk (x:GF):GF:=Lj (Ac (x.d:Int)) x.n
theorem rV {a:Rat}{x:GF}(hx:Is a x)(h0:a≠0):Is a⁻¹ (Kk x):=by
 obtain⟨x1,x2,x3⟩:=hx;have hn:x.n.z≠0:=by
  rw[x2];intro h;exact h0 (Rat.num_eq_zero.1 h)
 rw[Rat.inv_def,<-x2,<-x3];exact oT (Ac (x.d:Int)) x.n (C4 _) hn
theorem xZ {a:Rat}{k:Nat}(h:rk a k)(h0:a≠0):rk a⁻¹ k:=by
 rw[Rat.inv_def];obtain⟨h1,h2⟩:=h;have hn:a.num≠0:=λh=>h0 (Rat.num_eq_zero.1 h)
 rcases Int.lt_or_gt_of_ne hn with h|h
 ·obtain⟨m,hm⟩:∃m,a.num=Int.negSucc m:=by
   cases hy:a.num with
   |ofNat n=>rw[hy]at h;simp at h;omega
   |negSucc k=>exact⟨k,rfl⟩
  rw[hm]at h1⊢;exact R4 (n:=-(a.den:Int)) (d:=m+1) (by omega) (by rw[ND,E5];exact h2) h1
 ·obtain⟨m,hm⟩:∃m:Nat,a.num=(m:Int):=⟨a.num.natAbs,by omega⟩
  rw[hm]at h1 h⊢;rw[Rat.divInt_ofNat,<-Rat.normalize_eq_mkRat (by omega)];exact R4 _ (by rw[E5];exact h2) (by rw[E5]at h1;exact h1)
theorem aX {a:Rat}{x:GF}{k:Nat}(h:FR a x k)(h0:a≠0):FR a⁻¹ (Kk x) k:=⟨rV h.is h0,xZ h.rk h0⟩
theorem uQ {a:Rat}{x:GF}{k:Nat}(h:FR a x k)(h0:a≠0)(hk:k<1000000):AL C0 132 [x.D] (Kk x).D:=by
 refine Af.walk w1 dJ rfl λF=>?_
 have l3:=h.ld;have hn:x.n.z≠0:=by
  rw[h.is.2.1];intro h;exact h0 (Rat.num_eq_zero.1 h)
 have mk:=fN (Ac (x.d:Int)) x.n (C4 _) h.is.1 hn (I4 (by omega)) (h.fn hk);have p1:AA x.n.w:=AJ;have p3:AA (Ac (x.d:Int)).w:=AJ;have p7:AA (Lj (Ac (x.d:Int)) x.n).n.w:=AJ;have p8:AA (Ac ((Lj (Ac (x.d:Int)) x.n).d:Int)).w:=AJ;unfold Kk;dsimp only[GI.D,GF.D]at*;refine fR 0 ?_;refine fR 100 ?_;refine dI mk ?_;refine Aj ?_;exact AM rfl AA.out
def TE (x y:GF):GF:=JI x (Kk y)
theorem qJ {a b:Rat}{x y:GF}{i j:Nat}(hx:FR a x i)(hy:FR b y j)(h0:b≠0):FR (a/b) (TE x y) (i+j):=by
 rw[Rat.div_def];exact VE hx (aX hy h0)
theorem uO {a b:Rat}{x y:GF}{i j:Nat}(hx:FR a x i)(hy:FR b y j)(h0:b≠0)(hk:i+j<300000):AL C0 99 [x.D,y.D] (TE x y).D:=by
 refine Af.walk w1 iL rfl λF=>?_
 have c1:=uQ hy h0 (by omega);have c2:=Vc hx (aX hy h0) hk;have p1:AA x.n.w:=AJ;have p2:AA y.n.w:=AJ;have p3:AA (Ac (x.d:Int)).w:=AJ;have p4:AA (Ac (y.d:Int)).w:=AJ;have p5:AA (Kk y).n.w:=AJ;have p6:AA (Ac ((Kk y).d:Int)).w:=AJ;have p7:AA (JI x (Kk y)).n.w:=AJ;have p8:AA (Ac ((JI x (Kk y)).d:Int)).w:=AJ;unfold TE;dsimp only[GI.D,GF.D]at*;refine fR 0 ?_;refine AC.seq ?_;refine CN 100 [0,1,2] [3,4] ?_;refine CH ?_;refine Bf.same _ (c1) AJ ?_;refine CH ?_;refine dI c2 ?_;refine Aj ?_;exact AM rfl AA.out
def Mv (a b:Rat):Int:=if a<b then -1 else if b<a then 1 else 0
theorem tL (a b:Rat):EQ (a.num*b.den) (b.num*a.den)=Mv a b:=by
 unfold EQ Mv;simp only[Rat.lt_iff]
theorem uN {a b:Rat}{x y:GF}{i j:Nat}(hx:FR a x i)(hy:FR b y j)(hk:i+j<300000):AL C0 190 [x.D,y.D] (i64 (Mv a b)):=by
 refine Af.walk w1 bq rfl λF=>?_
 have l1:=hx.ln;have l2:=hy.ln;have l3:=hx.ld;have l4:=hy.ld;have m1:=QJ x.n y.d hx.is.1 (by omega) (by omega);have m2:=QJ y.n x.d hy.is.1 (by omega) (by omega);have z1:=LE x.n.z y.d;have z2:=LE y.n.z x.d;rw[E5]at z1 z2;have cm:=yN (Ac (x.n.z*y.d)) (Ac (y.n.z*x.d)) (C4 _) (C4 _) (by show(Ah (x.n.z*y.d).natAbs).length<1000000;omega) (by show(Ah (y.n.z*x.d).natAbs).length<1000000;omega);have e:EQ (Ac (x.n.z*y.d)).z (Ac (y.n.z*x.d)).z=Mv a b:=by
  rw[EE,EE,<-tL,hx.is.2.1,hx.is.2.2,hy.is.2.1,hy.is.2.2]
 rw[e]at cm;have p1:AA x.n.w:=AJ;have p2:AA y.n.w:=AJ;have p3:AA (Ac (x.d:Int)).w:=AJ;have p4:AA (Ac (y.d:Int)).w:=AJ;have p5:AA (Ac (x.n.z*y.d)).w:=AJ;have p6:AA (Ac (y.n.z*x.d)).w:=AJ;clear l1 l2 l3 l4 z1 z2 e hx hy;dsimp only[GI.D,GF.D]at*;refine fR 0 ?_;refine AC.seq ?_;refine CN 100 [0,1,2,3,4,5,6,7,8] [9,10,11] ?_;refine CH ?_;refine Bf.same _ (m1) AJ ?_;refine CH ?_;refine dI m2 ?_;refine dI cm ?_;refine Aj ?_;exact AM rfl AA.out
def Hh (a:Rat):Int:=max (-1) (min 1 a.num)
theorem aC {a:Rat}{x:GF}(hx:Is a x):AL C0 140 [x.D] (i64 (Hh a)):=by
 refine Af.walk w1 dR rfl λF=>?_
 have cg:=N5 x.n hx.1;rw[hx.2.1]at cg;have p1:AA x.n.w:=AJ;have p3:AA (Ac (x.d:Int)).w:=AJ;unfold Hh;dsimp only[GI.D,GF.D]at*;refine fR 0 ?_;refine fR 100 ?_;refine dI cg ?_;refine Aj ?_;exact AM rfl AA.out
abbrev sb (l:List UInt8):ByteArray:=⟨l.toArray⟩
theorem C3 (l:List UInt8):(sb l).size=l.length:=by simp[ByteArray.size]
theorem Fc (l:List UInt8)(i j:Nat):(sb l).extract i j=sb ((l.take j).drop i):=by
 apply ByteArray.ext;rw[ByteArray.data_extract];simp[List.drop_take]
theorem ai (l:List UInt8):(sb l).toList=l:=by
 rw[ByteArray.toList_eq]
theorem Ff (l m:List UInt8):BJ (sb l) (sb m)=decide (l=m):=by
 unfold BJ;rw[ai,ai,GU,ED,decide_eq_true_iff]
def Dk (l:List UInt8):Bool:=match l with
 | []=>false
 |c::_=>c==45
def Bv (l:List UInt8):List UInt8:=if Dk l then l.drop 1 else l
def BL (l:List UInt8):Nat:=(l.takeWhile (· != 47)).length
theorem MI (l:List UInt8):BL l<=l.length:=by
 unfold BL;exact(List.takeWhile_sublist _).length_le
theorem jv (l:List UInt8):Lib.indexByte l 47=if BL l<l.length then(BL l:Int)else -1:=by
 induction l with
 |nil=>rfl
 |cons c l ih=>
  unfold Lib.indexByte
  by_cases h:c=47
  ·subst h
   simp[BL]
  ·have e1:BL (c::l)=BL l+1:=by
    unfold BL;rw[Qd,AI (by simpa using h),Bu]
   have hb:(c==47)=false:=by simpa using h
   rw[hb,ih,e1,Bu]
   by_cases h2:BL l<l.length
   ·have h3:BL l+1<l.length+1:=by omega
    have h4:(((BL l:Nat):Int) == -1)=false:=Bo.2 (by omega);simp only[h2,h3,h4,if_true,Fs,if_false];omega
   ·have h3:¬BL l+1<l.length+1:=by omega
    simp only[h2,h3,Fs,if_false];rfl
theorem X9 (l:List UInt8)(hl:l.length<=1000000000):AL C0 209 [str (sb l),str (sb [45])] (Al (Dk l)):=by
 refine Af.walk w1 bx rfl λF=>?_
 have hsz:=C3 l;have hs1:=C3 [45];refine sR 0 ?_;refine AC.seq ?_;cases l with
 |nil=>
  have e1:decide (((sb []).size:Int)>=((sb [45]).size:Int))=false:=rfl;refine As 100 ?_;refine AX e1 ?_;refine AG e1 ?_;refine AG e1 ?_;refine Aj ?_;exact AM rfl AA.out
 |cons c l=>
  have e1:decide (((sb (c::l)).size:Int)>=((sb [45]).size:Int))=true:=Aw (by rw[hsz,hs1];simp only[Bu,Hm];omega);have e2:(sb (c::l)).extract 0 ((((sb [45]).size:Nat):Int)).toNat=sb [c]:=by rw[Fc];rfl
  have e3:BJ (sb [c]) (sb [45])=Dk (c::l):=by
   rw[Ff,Dk,GU,decide_eq_true_iff,ED];simp
  have h0:(0:Int)<=((sb [45]).size:Int):=by omega
  have h1:((sb [45]).size:Int)<=((sb (c::l)).size:Int):=by rw[hsz,hs1];simp only[Bu,Hm];omega
  refine As 100 ?_;refine AX e1 ?_;refine AG (Ao e1 e2 e3) ?_;refine AG (Ao e1 e2 e3) ?_;refine Aj ?_;exact AM rfl AA.out
theorem ju (l:List UInt8)(hl:l.length<=1000000000):AL C0 162 [str (sb l),str (sb [45])] (Al (Dk l)):=by
 refine Af.walk w1 dc rfl λF=>?_
 have c1:=X9 l hl;generalize sb l=s at*;generalize Dk l=b at*;refine fR 0 ?_;refine fR 100 ?_;refine dI c1 ?_;refine Aj ?_;exact AM rfl AA.out
theorem kU (l:List UInt8)(hl:l.length<=1000000000):AL C0 191 [str (sb l),str (sb [45])] (str (sb (Bv l))):=by
 refine Af.walk w1 br rfl λF=>?_
 have c1:=X9 l hl;have hsz:=C3 l;unfold Bv;refine sR 0 ?_;refine AC.seq ?_;refine sR 100 ?_;refine cI c1 ?_;rcases hb:Dk l with _|_
 ·rw[AH (by simp)]
  refine AO ?_;refine An ?_;refine sR 300 ?_;refine Aj ?_;exact AM rfl AA.out
 ·rw[AI rfl]
  have h1:(0:Int)<=((sb [45]).size:Int):=by omega
  have h2:((sb [45]).size:Int)<=((sb l).size:Int):=by
   rw[hsz];show(1:Int)<=_;cases l with
   |nil=>cases hb
   |cons c l=>simp only[Bu];omega
  have e2:(sb l).extract (((sb [45]).size:Nat):Int).toNat (sb l).size=sb (l.drop 1):=by
   rw[Fc,hsz,Cn (Ar _)];rfl
  refine AO ?_;refine sZ 200 ?_;refine AX e2 ?_;refine Aj ?_;exact AM rfl AA.out
theorem Tl (l:List UInt8)(hl:l.length<=1000000000):AL C0 143 [str (sb l),str (sb [45])] (str (sb (Bv l))):=by
 refine Af.walk w1 dU rfl λF=>?_
 have c1:=kU l hl;generalize sb l=s at*;generalize sb (Bv l)=t at*;refine fR 0 ?_;refine fR 100 ?_;refine dI c1 ?_;refine Aj ?_;exact AM rfl AA.out
theorem ke (l:List UInt8):AL C0 250 [str (sb l),.prim (.int .u8 47)] (i64 (if BL l<l.length then(BL l:Int)else -1)):=by
 refine Af.walk w1 cY rfl λF=>?_
 have e1:firstIdx (sb l) (((47:Int)).toNat.toUInt8)=(if BL l<l.length then(BL l:Int)else -1):=by
  rw[Lib.firstIdx_eq];exact jv l
 generalize(if BL l<l.length then(BL l:Int)else -1)=r at*;refine fR 0 ?_;refine AC.seq ?_;refine As 100 ?_;refine AX e1 ?_;refine Aj ?_;exact AM rfl AA.out
theorem pJ (l:List UInt8)(hl:l.length<=1000000000):AL C0 208 [str (sb l),str (sb [47])] (i64 (if BL l<l.length then(BL l:Int)else -1)):=by
 refine Af.walk w1 bw rfl λF=>?_
 have c1:=ke l;have eS:=Ff [47] l;have hr:[47]=l->(if BL l<l.length then(BL l:Int)else -1)=0:=λh=>by subst h;rfl
 generalize(if BL l<l.length then(BL l:Int)else -1)=r at*;have e0:(((sb [47]).size:Int)==0)=false:=rfl;have e1:(((sb [47]).size:Int)==1)=true:=rfl;have hx:(((sb [47]).data.toList.getD ((0:Int)).toNat 0).toNat:Int)=47:=rfl;refine sR 0 ?_;refine sR 100 ?_;refine AC.seq ?_;refine AC.block ?_
 by_cases h:[47]=l
 ·rw[Aw h]at eS
  have hr:=hr h;subst hr;refine sZ 200 ?_;refine AX e0 ?_;refine AG (Ao e0 kF eS) ?_;refine AG (Ao e0 kF eS) ?_;refine AO ?_;refine sR 300 ?_;refine Aj ?_;exact AM rfl AA.out
 ·rw[Az h]at eS
  refine sZ 200 ?_;refine AX e0 ?_;refine AG (Ao e0 kF eS) ?_;refine AG (Ao e0 kF eS) ?_;refine AO ?_;refine sZ 400 ?_;refine AX e1 ?_;refine AO ?_;refine sZ 500 ?_;refine AX hx ?_;refine cI c1 ?_;refine Aj ?_;exact AM rfl AA.out
theorem d9w (l:List UInt8)(hl:l.length<=1000000000):AL C0 161 [str (sb l),str (sb [47])] (.tup [str (sb (l.take (BL l))),str (sb (l.drop (BL l+1))),Al (decide (BL l<l.length))]):=by
 refine Af.walk w1 dZ rfl λF=>?_
 have c1:=pJ l hl;have hsz:=C3 l;have hle:=MI l;refine sR 0 ?_
 by_cases h:BL l<l.length
 ·rw[AI h]at c1
  have e1:decide (((BL l:Nat):Int)>=0)=true:=BR;have e2:(sb l).extract 0 (((BL l:Nat):Int)).toNat=sb (l.take (BL l)):=by rw[Fc];rfl
  have w3:IntKind.i64.wrap (((BL l:Nat):Int)+((sb [47]).size:Int))=((BL l+1:Nat):Int):=by
   show IntKind.i64.wrap (((BL l:Nat):Int)+1)=_;rw[wI];omega
  have e3:(sb l).extract (((BL l+1:Nat):Int)).toNat (sb l).size=sb (l.drop (BL l+1)):=by
   rw[Fc,hsz,Cn (Ar _)];rfl
  rw[Aw h];refine AC.seq ?_;refine sR 100 ?_;refine cI c1 ?_;refine sZ 200 ?_;refine AX e1 ?_;refine AO ?_;refine AC.seq ?_;refine CN 300 [0,1,2,3,4,5,6,7,8,9] [10,11] ?_;refine AG (Ao w3 e2 e3) ?_;refine Aj ?_;exact AM rfl AA.out
 ·rw[AH h]at c1
  have hk:BL l=l.length:=by omega
  have e1:decide (((-1:Int))>=0)=false:=rfl;rw[Az h,hk,Cn (Ar _),IJ (by omega)];refine AC.seq ?_;refine sR 100 ?_;refine cI c1 ?_;refine sZ 200 ?_;refine AX e1 ?_;refine AO ?_;refine An ?_;refine sR 400 ?_;refine Aj ?_;exact AM rfl AA.out
theorem bQ (l:List UInt8)(hl:l.length<=1000000000):AL C0 121 [str (sb l),str (sb [47])] (.tup [str (sb (l.take (BL l))),str (sb (l.drop (BL l+1))),Al (decide (BL l<l.length))]):=by
 refine Af.walk w1 dC rfl λF=>?_
 have c1:=d9w l hl;generalize sb l=s at*;generalize sb (l.take (BL l))=t at*;generalize sb (l.drop (BL l+1))=u at*;generalize decide (BL l<l.length)=b at*;refine fR 0 ?_;refine fR 100 ?_;refine dI c1 ?_;refine Aj ?_;exact AM rfl AA.out
theorem sP (a b:Nat)(ha:a<=9223372036854775807)(hb:b<=9223372036854775807):AL C0 230 [i64 a,i64 b] (i64 (Nat.gcd a b:Nat)):=by
 refine Af.walk w1 ul rfl λF=>?_
 refine fR 0 ?_;refine AC.seq ?_;refine AC.block ?_;refine AC.loop (α:=Nat×Nat×Nat) (λp=>⟨[(0,i64 p.1),(1,i64 p.2.1)],[],p.2.2⟩) (λp=>p.2.1) (λp=>Nat.gcd p.1 p.2.1=Nat.gcd a b/\p.1<=9223372036854775807/\p.2.1<=9223372036854775807) (a,b,_) ⟨rfl,ha,hb⟩ AK ?_;rintro⟨x,y,n⟩ F ⟨h1,h2,h3⟩;dsimp only at h1 h2 h3⊢;refine AC.seq ?_;refine fR 100 ?_;refine AO ?_
 (refine B1 (λhy=>?_) (λhy=>?_))<;>(try simp only[Bq,B0]at hy)<;>(try simp only[hy])
 ·have hy':(y:Int)>0:=by simpa using hy
  refine An ?_;refine AC.block ?_;refine CN 200 [0,1,2,3,4] [5] ?_;refine CH ?_
  have:(x:Int).tmod y=((x%y:Nat):Int):=rfl
  rw[this];refine⟨(y,x%y,_),⟨?_,h3,?_⟩,?_,AK⟩
  ·rw[<-h1,Oi x y,Nat.gcd_rec y x,Oi]
  ·have:=B7 x (show y>0 by omega);dsimp only;omega
  ·exact B7 x (show y>0 by omega)
 ·have hy':y=0:=by simp at hy;omega
  subst hy';refine CG ?_;refine fR 300 ?_;refine Aj ?_;refine AM ?_ AA.out;rw[<-h1,Nat.gcd_zero_right]
def M3 (least:Nat)(l:List UInt8):List UInt8:=List.replicate (least-l.length) 48++l
def FZ (least m:Nat)(s:List UInt8):List UInt8:=M3 least (if m=0 then s else Lib.decDigits m++s)
theorem Xc (least m:Nat)(s:List UInt8)(h:0<m\/s.length<least):FZ least (m/10) (UInt8.ofNat (48+m%10)::s)=FZ least m s:=by
 unfold FZ
 by_cases h0:m=0
 ·subst h0
  have hl:s.length<least:=h.resolve_left (by omega);rw[DQ,AI rfl];unfold M3;obtain⟨k,hk⟩:∃k,least-s.length=k+1:=⟨least-s.length-1,by omega⟩
  rw[hk,show least-(UInt8.ofNat (48+0%10)::s).length=k from by simp;omega,List.replicate_succ'];simp
 ·rw[AH h0]
  by_cases h1:m<10
  ·rw[DQ]
   have:Lib.decDigits m=[UInt8.ofNat (48+m)]:=by unfold Lib.decDigits;rw[dif_pos h1]
   rw[this,show m%10=m from by omega];rfl
  ·rw[CP]
   have:Lib.decDigits m=Lib.decDigits (m/10)++[UInt8.ofNat (48+m%10)]:=by rw[Lib.decDigits];rw[dif_neg h1]
   rw[this,Du];rfl
theorem oe (k:Nat)(hk:k<10):(⟨#[48,49,50,51,52,53,54,55,56,57]⟩:ByteArray).extract k (k+1)=⟨([UInt8.ofNat (48+k)]:List UInt8).toArray⟩:=by
 match k,hk with
 | 0,_=>rfl
 | 1,_=>rfl
 | 2,_=>rfl
 | 3,_=>rfl
 | 4,_=>rfl
 | 5,_=>rfl
 | 6,_=>rfl
 | 7,_=>rfl
 | 8,_=>rfl
 | 9,_=>rfl
theorem Q7 (a least:Nat)(ha:a+least<=9223372036854775807):AL C0 231 [i64 a,i64 least] (str ⟨(FZ least a []).toArray⟩):=by
 refine Af.walk w1 um rfl λF=>?_
 refine fR 0 ?_;refine fR 100 ?_;refine AC.seq ?_;refine AC.block ?_;refine AC.loop (α:=Nat×List UInt8×Nat) (λp=>⟨[(0,i64 p.1),(1,i64 least),(5,str ⟨p.2.1.toArray⟩)],[],p.2.2⟩) (λp=>p.1+(least-p.2.1.length))
  (λp=>FZ least p.1 p.2.1=FZ least a []/\p.1+p.2.1.length<=a+least) (a,[],_) ⟨rfl,by simp⟩ AK ?_
 rintro⟨m,s,n⟩ F ⟨h1,h2⟩;dsimp only at h1 h2⊢;have hsz:=PS s;refine AC.seq ?_;refine DA ⟨[(0,i64 m),(1,i64 least),(5,str ⟨s.toArray⟩),(13,Al (decide ((m:Int)>0)||decide ((s.length:Int)<least)))],[],n+30⟩ (As 200 ?_) ?_
 ·repeat'(first|(refine BM (by exact CD) ?_;refine BO ?_)|((refine B1 (λhb=>?_) (λhb=>?_))<;>(try simp only[Bq,B0]at hb)<;>(try simp only[hb])<;>(refine BO ?_)))
  all_goals exact AK
 refine AO ?_
 (refine B1 (λhc=>?_) (λhc=>?_))<;>(try simp only[Bq,B0]at hc)<;>(try simp only[hc])
 ·have hc:0<m\/s.length<least:=by
   simp at hc;omega
  refine An ?_;refine AC.block ?_;refine AC.seq ?_;have hm:(m:Int).tmod 10=((m%10:Nat):Int):=rfl;have e2:IntKind.i64.wrap (((m%10:Nat):Int)+1)=((m%10+1:Nat):Int):=wI;have hd:=oe (m%10) (by omega);have hs1:(⟨([UInt8.ofNat (48+m%10)]:List UInt8).toArray⟩:ByteArray).size=1:=rfl;have hlen:s.length+1<=9223372036854775807:=by omega
  have hs10:(⟨#[48,49,50,51,52,53,54,55,56,57]⟩:ByteArray).size=10:=rfl;refine As 300 ?_;refine K0 (Bb hm e2 kN hd) ?_;refine fI 400 ?_;have hm4:(m:Int).tdiv 10=((m/10:Nat):Int):=rfl;have hm5:m/10<=9223372036854775807:=by omega
  rw[hm4,wN hm5,Jm,EU,Ei];refine⟨(m/10,UInt8.ofNat (48+m%10)::s,_),⟨(Xc least m s hc).trans h1,?_⟩,?_,AK⟩
  ·simp only[Bu];omega
  ·simp only[Bu];omega
 ·have hc:m=0/\least<=s.length:=by
   simp at hc;omega
  obtain⟨rfl,hl⟩:=hc;refine CG ?_;refine fR 500 ?_;refine Aj ?_;refine AM ?_ AA.out;rw[<-h1];unfold FZ M3;rw[AI rfl,Nat.sub_eq_zero_of_le hl];rfl
theorem aJ (a:Nat):FZ 1 a []=Lib.decDigits a:=by
 unfold FZ M3
 by_cases h:a=0
 ·subst h
  have:Lib.decDigits 0=[48]:=by unfold Lib.decDigits;rw[dif_pos (by decide)];rfl
  rw[AI rfl,this];rfl
 ·rw[AH h,De]
  have:(Lib.decDigits a).length≠0:=by
   unfold Lib.decDigits;split<;>simp
  rw[show 1-(Lib.decDigits a).length=0 from by omega];rfl
def EP (K g sz:Nat):List D->D
 | []=>CK
 |_::l=>.osl K g sz 0 (l.length+1)
def EF (K g T sz:Nat):List D->Hp
 | []=>[]
 |x::l=>[⟨K,g,T,sz,x::l⟩]
theorem Je (K g sz:Nat):EP K g sz []=CK:=rfl
theorem IR (K g sz:Nat)(x:D)(l:List D):EP K g sz (x::l)=.osl K g sz 0 (l.length+1):=rfl
theorem Jf (K g T sz:Nat):EF K g T sz []=[]:=rfl
theorem IS (K g T sz:Nat)(x:D)(l:List D):EF K g T sz (x::l)=[⟨K,g,T,sz,x::l⟩]:=rfl
theorem O0 (K g sz:Nat)(x y:D)(l:List D):EP K g sz (x::l++[y])=.osl K g sz 0 (l.length+1+1):=by simp[EP]
theorem ST (K g T sz:Nat)(l:List D):Fz (EF K g T sz l) [] (EP K g sz l) (.sl false sz l):=by
 cases l with
 |nil=>exact .nil sz
 |cons x l=>
  refine .osl (e:=⟨K,g,T,sz,x::l⟩) (by simp[EF,Hp.get]) rfl rfl rfl (by simp) (by simp) (λj d d' h1 h2=>?_) λj d d' q c c' h1 h2 h3 h4=>?_
  ·rw[BV]at h1;rw[h1]at h2;cases h2;rfl
  ·rw[BV]at h1;rw[h1]at h2;cases h2;rw[h3]at h4;cases h4;exact Fz.refl _
def spot (a b c d:Nat):D:=.agg [i64 (a/Nat.gcd a b:Nat),CK,i64 (b/Nat.gcd a b:Nat),CK,i64 (c/Nat.gcd c d:Nat),CK,i64 (d/Nat.gcd c d:Nat),CK]
instance  (a b c d:Nat):AS (spot a b c d):=by unfold spot;exact AJ
instance  {α:Type}(f:α->List D)(l:List α)[h:∀x,Bi (f x)]:Bi (l.flatMap f):=⟨λe he=>by
 obtain⟨x,_,hx⟩:=List.mem_flatMap.1 he;exact(h x).out e hx⟩
theorem E9 {H Hf:Hp}{a a' b b':D}(h1:Fz H Hf a a')(h2:Fz H Hf b b'):Fz H Hf (.tup [a,b]) (.tup [a',b']):=.tup rfl λi d d' hd hd'=>by
 match i with
 | 0=>simp at hd hd';subst hd;subst hd';exact h1
 | 1=>simp at hd hd';subst hd;subst hd';exact h2
 |n+2=>simp at hd
set_option allowUnsafeReducibility true in
attribute [local irreducible] BJ
inductive Kd where
 |line|zig|grid|quin
def Kd.most:Kd->Int
 | .line | .zig=>64
 | .grid=>8
 | .quin=>5
def DD (b:Nat):Bool:=((decide (97<=b)&&decide (b<=122))||(decide (65<=b)&&decide (b<=90)))||(decide (48<=b)&&decide (b<=57))||b==45||b==95||b==46
def D3 (l:List UInt8):Bool:=l.all (λb=>DD b.toNat)&&(decide (1<=l.length)&&decide (l.length<=24))
theorem im (s:ByteArray)(p:Nat)(hp:p<s.size):s.data.toList[p]?=some (s.get! p):=by
 have hp':p<s.data.size:=hp;rw[Jv,B3 hp']
 congr 1
 show _=s.data[p]!;rw[getElem!_pos s.data p hp']
theorem aI (s:ByteArray)(p:Nat)(h:(s.get! p).toNat<128):Utf8.decode s p=((s.get! p).toNat,1):=by
 unfold Utf8.decode;exact AI h
theorem oA (s:ByteArray)(p:Nat)(h:¬(s.get! p).toNat<128):128<=(Utf8.decode s p).1:=by
 unfold Utf8.decode;dsimp only;simp only[Dv];rw[AH h];have hv:128<=Utf8.runeError:=by decide
 repeat' split
 all_goals first|exact hv|(rename_i h1;simp only[ge_iff_le,BZ,HJ]at h1;dsimp only;omega)
theorem mb (s:ByteArray):AL C0 57 [str s] (Al (D3 s.data.toList)):=by
 refine Af.walk w1 gY rfl λB=>?_
 have hsz:s.data.toList.length=s.size:=Ip;refine fR 0 ?_;refine AC.seq ?_;refine AC.seq ?_;refine e1f w1 100 [0] 1 rfl (by kernel_rfl) rfl ?_;refine CH ?_;intro F hF;refine BO ?_;refine AC.block ?_;refine HH (α:=Nat×Nat) (λp=>⟨[(0,str s),(7,.optr 101 2 0 0 0)],[],p.2⟩) (λp=>s.size-p.1) (λp F=>Ns C0 B F 101 2 s p.1/\p.1<=s.size/\(s.data.toList.take p.1).all (λb=>DD b.toNat)=true) (0,3) ⟨hF,BW _,rfl⟩ AK ?_;rintro⟨p,n⟩ F ⟨hIt,hp,hall⟩;dsimp only at hIt hp hall⊢;refine AC.seq ?_;refine e1d w1 200 0 [1] rfl (by kernel_rfl) s p ?_;refine BM hIt (BM (λhlt F hIt=>?_) (λhge=>?_))
 ·refine CH ?_
  generalize hc:(Utf8.decode s p).1=c;refine AC.seq ?_;refine AO ?_;refine An ?_;refine AC.block ?_;refine fR 300 ?_;refine DA ⟨[(0,str s),(7,.optr 101 2 0 0 0),(4,.prim (.int .i32 c)),(5,Al ((decide ((c:Int)>=97)&&decide ((c:Int)<=122))||(decide ((c:Int)>=65)&&decide ((c:Int)<=90))))],[],n+30⟩ (As 400 ?_) ?_
  ·repeat'(first|(refine BM (by exact CD) ?_;refine BO ?_)|((refine B1 (λhb=>?_) (λhb=>?_))<;>(try simp only[Bq,B0]at hb)<;>(try simp only[hb])<;>(refine BO ?_)))
   all_goals exact AK
  generalize hL:((decide ((c:Int)>=97)&&decide ((c:Int)<=122))||(decide ((c:Int)>=65)&&decide ((c:Int)<=90)))=L;refine DA ⟨[(0,str s),(7,.optr 101 2 0 0 0),(47,Al ((((!L && !(decide ((c:Int)>=48)&&decide ((c:Int)<=57)))&&((c:Int) != 45))&&((c:Int) != 95))&&((c:Int) != 46)))],[],n+60⟩ (As 500 ?_) ?_
  ·repeat'(first|(refine BM (by exact CD) ?_;refine BO ?_)|((refine B1 (λhb=>?_) (λhb=>?_))<;>(try simp only[Bq,B0]at hb)<;>(try simp only[hb])<;>(refine BO ?_)))
   all_goals exact AK
  have hbad:((((!L && !(decide ((c:Int)>=48)&&decide ((c:Int)<=57)))&&((c:Int) != 45))&&((c:Int) != 95))&&((c:Int) != 46)) = !(DD c):=by
   subst hL;rw[GU];simp only[DD,BZ,Bq,Jw,Bool.and_eq_false_iff,JN,bne_iff_ne,ne_eq,Bo];omega
  rw[hbad];refine AO ?_
  (refine B1 (λhb=>?_) (λhb=>?_))<;>(try simp only[Bq,B0]at hb)<;>(try simp only[hb])
  ·have hbf:DD c=false:=by simpa using hb
   refine fR 600 ?_;refine Aj ?_;refine AM ?_ AA.out;have hb8:DD (s.get! p).toNat=false:=by
    by_cases hlow:(s.get! p).toNat<128
    ·rw[aI s p hlow]at hc
     rw[show(s.get! p).toNat=c from hc];exact hbf
    ·unfold DD;simp;omega
   have:D3 s.data.toList=false:=by
    unfold D3
    have:s.data.toList.all (λb=>DD b.toNat)=false:=by
     rw[List.all_eq_false];exact⟨_,Ax (im s p hlt),by rw[hb8];simp⟩
    rw[this];rfl
   rw[this]
  ·have hbt:DD c=true:=by simpa using hb
   have hclt:c<128:=by
    unfold DD at hbt;simp only[Kr,BZ,HJ,ED]at hbt;omega
   have hlow:(s.get! p).toNat<128:=by
    apply DH;intro h
    have:=oA s p h
    omega
   rw[aI s p hlow]at hc hIt;refine An ?_;refine⟨(p+1,n+60),⟨hIt,hlt,?_⟩,by dsimp only;omega,AK⟩;rw[Dp,im s p hlt,Ks,hall];simp;rw[show(s.get! p).toNat=c from hc];exact hbt
 ·have hpe:p=s.size:=by omega
  refine CH ?_;refine AC.seq ?_;refine AO ?_;refine CG ?_;refine DA ⟨[(2,Al (decide (1<=(s.size:Int))&&decide ((s.size:Int)<=24)))],[],n+60⟩ (As 700 ?_) ?_
  ·repeat'(first|(refine BM (by exact CD) ?_;refine BO ?_)|((refine B1 (λhb=>?_) (λhb=>?_))<;>(try simp only[Bq,B0]at hb)<;>(try simp only[hb])<;>(refine BO ?_)))
   all_goals exact AK
  refine Aj ?_;refine AM ?_ AA.out;have hall':s.data.toList.all (λb=>DD b.toNat)=true:=by rw[<-hall,hpe,<-hsz,Cw]
  unfold D3;rw[hall',Gl,hsz];have e:(decide (1<=(s.size:Int))&&decide ((s.size:Int)<=24))=(decide (1<=s.size)&&decide (s.size<=24)):=by
   rw[GU];simp only[BZ,HJ];omega
  rw[<-e]
end Go.Ide
