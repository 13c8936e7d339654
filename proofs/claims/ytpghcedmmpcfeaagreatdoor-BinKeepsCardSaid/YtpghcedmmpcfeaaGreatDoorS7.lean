/- The layer of own lemmas and contracts, part 7. -/
import Derived.Test.YtpghcedmmpcfeaaGreatDoorS5
import Derived.Test.YtpghcedmmpcfeaaGreatDoorS3
import Derived.Test.YtpghcedmmpcfeaaGreatDoorS6
import Derived.Lib.AppendIntMem
import Derived.Lib.SmallJoins
import Derived.Shelf.Spec.BitsCarry
import Derived.Laws.StandIn
import Derived.Lib.Bytealg
set_option linter.unusedVariables false
set_option linter.unusedSimpArgs false
namespace Go.Ide
open Go Go.Ide Go.Proofs Go.RowKit
set_option maxRecDepth 100000
def G0 (w:World):Prop:=Lib.TabIs Tryz.prog w "internal/strconv.uint64pow10" .u64 Lib.pow10Tab
theorem qD:Tryz.prog.globalNamed "internal/strconv.uint64pow10" = some 3:=by kernel_rfl
theorem pV {w w':World}(h:G0 w)(b:Below (3+1) w w'):G0 w':=by
 unfold G0 Lib.TabIs World.var? at h⊢;rw[qD]at h⊢;simp only[Option.bind_some]at h⊢;rw[b.block _ (by decide)];exact h
noncomputable def C0:BA:={P:=Tryz.prog,G:=G0,nG:=3+1,hG:=λ_ _=>pV}
theorem j9 {ρ:Lk}{O:Nat->Prop}{w:World}{a b c:Value}{vs:Array Value}(hn:vs.size=3)(h:∀(i:Nat) (x:D),[D.prim a,.prim b,.prim c][i]?=some x->AU ρ O w x (vs.getD i undef)):vs = #[a,b,c]:=by
 match vs,hn with
 |⟨[u,v,x]⟩,_=>
  have h0:=h 0 _ rfl;have h1:=h 1 _ rfl;have h2:=h 2 _ rfl;simp at h0 h1 h2;cases h0;cases h1;cases h2;rfl
theorem nE (x y c:Nat)(hc:c<=1):LK C0 220 [.prim (.int .u64 x),.prim (.int .u64 y),.prim (.int .u64 c)]
  (.tup [.prim (.int .u64 (((x+y+c)%18446744073709551616:Nat):Int)),.prim (.int .u64 (((x+y+c)/18446744073709551616:Nat):Int))]):=λρ O w vs hn h=>by
 have:=j9 hn h
 subst this;refine⟨.tuple #[.int .u64 (((x+y+c)%18446744073709551616:Nat):Int),.int .u64 (((x+y+c)/18446744073709551616:Nat):Int)],?_,.tup rfl λi d hd=>?_⟩
 ·show(callFunc 220 _).run Tryz.prog w=_
  rw[run_callFunc_extern Tryz.func220 (by kernel_rfl) (by kernel_rfl) (by kernel_rfl) (e:=add64Entry) (by kernel_rfl),run_add64 x y c (by omega) (by omega) (by omega) (by omega)];simp only[Result.andThen]
  congr 5<;>omega
 ·match i with
  | 0=>simp at hd;subst hd;exact .prim _
  | 1=>simp at hd;subst hd;exact .prim _
  |n+2=>simp at hd
theorem d9k {ρ:Lk}{O:Nat->Prop}{w:World}{a b:Value}{vs:Array Value}(hn:vs.size=2)(h:∀(i:Nat) (x:D),[D.prim a,.prim b][i]?=some x->AU ρ O w x (vs.getD i undef)):vs = #[a,b]:=by
 match vs,hn with
 |⟨[u,v]⟩,_=>
  have h0:=h 0 _ rfl;have h1:=h 1 _ rfl;simp at h0 h1;cases h0;cases h1;rfl
theorem ke (s:ByteArray)(c:Int):LK C0 262 [.prim (.string s),.prim (.int .u8 c)] (.prim (.int .i64 (firstIdx s c.toNat.toUInt8))):=λρ O w vs hn h=>by
 have:=d9k hn h
 subst this;refine⟨_,?_,.prim _⟩;show(callFunc 262 _).run Tryz.prog w=_;rw[run_callFunc_indexByte Tryz.func262 (by kernel_rfl) (by kernel_rfl) (by kernel_rfl) (by kernel_rfl),run_indexByte_string];rfl
theorem oK (x y b:Nat)(hb:b<=1):LK C0 221 [.prim (.int .u64 x),.prim (.int .u64 y),.prim (.int .u64 b)]
  (.tup [.prim (.int .u64 (((x+18446744073709551616-y-b)%18446744073709551616:Nat):Int)),.prim (.int .u64 ((if x<y+b then 1 else 0:Nat):Int))]):=λρ O w vs hn h=>by
 have:=j9 hn h
 subst this;refine⟨.tuple #[.int .u64 (((x+18446744073709551616-y-b)%18446744073709551616:Nat):Int),.int .u64 ((if x<y+b then 1 else 0:Nat):Int)],?_,.tup rfl λi d hd=>?_⟩
 ·show(callFunc 221 _).run Tryz.prog w=_
  rw[run_callFunc_extern Tryz.func221 (by kernel_rfl) (by kernel_rfl) (by kernel_rfl) (e:=sub64Entry) (by kernel_rfl),run_sub64 x y b hb];rfl
 ·match i with
  | 0=>simp at hd;subst hd;exact .prim _
  | 1=>simp at hd;subst hd;exact .prim _
  |n+2=>simp at hd
theorem RP {O:Nat->Prop}{w:World}{v:Value}{vs:Array Value}(hn:vs.size=1)(h:∀(i:Nat) (x:D),[D.prim v][i]?=some x->AU nol O w x (vs.getD i undef)):vs = #[v]:=by
 match vs,hn with
 |⟨[u]⟩,_=>
  have h0:=h 0 _ rfl;simp at h0;cases h0;rfl
theorem sf (n:Int)(h0 : -9223372036854775808<=n)(h1:n<=9223372036854775807):AL C0 146 [i64 n] (str ⟨(Lib.itoa n).toArray⟩):=by
 refine⟨⟨_,_,Tryz.func146,rfl,by kernel_rfl⟩,λY w vs hG hnG hX hvs hr=>?_⟩
 have:=RP hvs hr
 subst this;refine(Tryz.strconv_Itoa n h0 h1 w hG).mono ?_;rintro e w' ⟨rfl,k,os,rfl⟩;exact⟨_,_,rfl,Lib.below_grow _ _ (An _) _ _,rfl,.prim _⟩
theorem r8 (s:ByteArray)(n:Int)(hl:s.size<=18)(h:Lib.atoi s.data.toList=some n):AL C0 165 [str s] (.tup [i64 n,.prim .nilIface]):=by
 refine⟨⟨_,_,Tryz.func165,rfl,by kernel_rfl⟩,λY w vs hG hnG hX hvs hr=>?_⟩
 have:=RP hvs hr
 subst this;refine(Tryz.strconv_Atoi s n hl h w).mono ?_;rintro e w' ⟨rfl,t,rfl⟩;exact⟨_,_,rfl,Joins.below_bytesWorld _ _ _ _ (An _),rfl,.tup rfl λi d hd=>by
  match i with
  | 0=>simp at hd;subst hd;exact .prim _
  | 1=>simp at hd;subst hd;exact .prim _
  |n+2=>simp at hd⟩
def Lv (f:Nat)(ds:List D):Option D:=match Nat.beq f 220 with
 |true=>match ds with
  | [.prim (.int .u64 (.ofNat a)),.prim (.int .u64 (.ofNat b)),.prim (.int .u64 (.ofNat c))]=>match Nat.ble c 1 with
   |true=>some (.tup [.prim (.int .u64 (((a+b+c)%18446744073709551616:Nat):Int)),.prim (.int .u64 (((a+b+c)/18446744073709551616:Nat):Int))])
   |false=>none
  |_=>none
 |false=>match Nat.beq f 221 with
  |true=>match ds with
   | [.prim (.int .u64 (.ofNat a)),.prim (.int .u64 (.ofNat b)),.prim (.int .u64 (.ofNat c))]=>match Nat.ble c 1 with
    |true=>some (.tup [.prim (.int .u64 (((a+18446744073709551616-b-c)%18446744073709551616:Nat):Int)),.prim (.int .u64 ((if a<b+c then 1 else 0:Nat):Int))])
    |false=>none
   |_=>none
  |false=>match Nat.beq f 262 with
   |true=>match ds with
    | [.prim (.string s),.prim (.int .u8 c)]=>some (.prim (.int .i64 (firstIdx s c.toNat.toUInt8)))
    |_=>none
   |false=>none
theorem Ry (f:Nat)(ds:List D)(d:D)(h:Lv f ds=some d):LK C0 f ds d:=by
 unfold Lv at h;split at h
 ·rename_i hf
  obtain rfl:=CH hf;split at h<;>try(cases h;done)
  split at h<;>try(cases h;done)
  rename_i hc;cases h;exact nE _ _ _ (Dw hc)
 ·split at h
  ·rename_i hf
   obtain rfl:=CH hf;split at h<;>try(cases h;done)
   split at h<;>try(cases h;done)
   rename_i hc;cases h;exact oK _ _ _ (Dw hc)
  ·split at h
   ·rename_i hf
    obtain rfl:=CH hf;split at h<;>try(cases h;done)
    cases h;exact ke _ _
   ·cases h
noncomputable def X1:EV:=⟨Qj.get,NI.get,Oi.get,λ_=>false,λ_ _=>none,λ_ _=>none,Lv⟩
theorem D5:Fj C0 X1:=⟨kQ,Sz,K0,λ_ _ _ h=>by simp[X1]at h,by kernel_rfl,λ_ _ _ h=>by simp[X1]at h,Ry⟩
theorem w1:Dj C0 X1:=D5.w
theorem Aq {B:AZ}{rd:Option Nat}{F:AZ}{ops:Array Oper}{s:St}{Q:Exit->AZ->St->Prop}{i:Nat}(kb:Nat)(h:C6 C0 X1 kb ops (List.range ops.size) s True λacc s=>acc/\Q .normal F s)(hnd:Er ops.toList=true:=by kernel_rfl):AC C0 B rd F (.region i ops false) s Q:=Kp w1 kb hnd h
theorem CR {B:AZ}{rd:Option Nat}{F:AZ}{ops:Array Oper}{s:St}{Q:Exit->AZ->St->Prop}{i:Nat}(kb:Nat)(pre suf:List Nat)(h:En C0 X1 kb ops s.H s.n pre s.env [] True λacc env N=>C6 C0 X1 kb ops suf ⟨env,N++s.H,s.n+Fi ops.toList⟩ acc λacc s=>acc/\Q .normal F s)(hc:(HY ops pre suf&&Er ops.toList)=true:=by kernel_rfl):AC C0 B rd F (.region i ops true) s Q:=jw w1 kb pre suf hc h
theorem Cb {C:BA}{X:EV}(hX:Fj C X)(n k:Nat){f:Nat}{ds:List D}{d:D}(h:(Gm X n k).1 f ds=some d:=by kernel_rfl):AL C f ds d:=QT hX n k h
theorem wI {z:Int}(h1 : -9223372036854775808<=z:=by omega)(h2:z<=9223372036854775807:=by omega):IntKind.i64.wrap z=z:=by
 have e1:(2:Int)^IntKind.i64.bits=18446744073709551616:=rfl;have e2:(2:Int)^(IntKind.i64.bits-1)=9223372036854775808:=rfl;unfold IntKind.wrap;simp only[e1,e2];have e3:IntKind.i64.signed=true:=rfl;rw[e3];simp only[HI,HH];split<;>omega
theorem wN {n:Nat}(h:n<=9223372036854775807):IntKind.i64.wrap (n:Int)=n:=wI
set_option maxRecDepth 20000
theorem P0 (n:Int):AL C0 122 [i64 n] (DM n):=by
 refine Ad.walk w1 eV rfl λF=>?_
 refine fR 0 ?_;refine fR 100 ?_;refine Ag ?_;exact AM rfl (AA.out (d:=DM n))
theorem MB:∀(k u:Nat),u<10^(k+1)->(Lib.decDigits u).length<=k+1
 | 0,u,h=>by
  unfold Lib.decDigits;rw[dif_pos (by simpa using h)];simp
 |k+1,u,h=>by
  unfold Lib.decDigits;split
  ·simp
  ·rw[Be]
   have:=MB k (u/10) (by
    rw[CW]at h;omega)
   simp only[Br,Hi];omega
theorem Jk (a b:List UInt8):(⟨a.toArray⟩:ByteArray)++⟨b.toArray⟩=⟨(a++b).toArray⟩:=by
 apply ByteArray.ext;simp[ByteArray.data_append]
theorem PT (l:List UInt8):(⟨l.toArray⟩:ByteArray).size=l.length:=by simp[ByteArray.size]
def Sm (z:Int):Prop:=-9223372036854775808<z/\z<9223372036854775808
theorem wS {z:Int}(h:Sm z):IntKind.i64.wrap z=z:=wI (by have:=h.1;omega) (by have:=h.2;omega)
theorem iu {z:Int}(h:Sm z):(z != -9223372036854775808)=true:=by
 have:=h.1
 simp only[bne_iff_ne,ne_eq];omega
theorem wU {z:Int}(h1:0<=z:=by omega)(h2:z<18446744073709551616:=by omega):IntKind.u64.wrap z=z:=by
 have e1:(2:Int)^IntKind.u64.bits=18446744073709551616:=rfl;unfold IntKind.wrap;simp only[e1];have e3:IntKind.u64.signed=false:=rfl;rw[e3];simp only[II,Ip,if_false];omega
theorem tY (z:Int)(h:Sm z):AL C0 172 [i64 z] (u64 (z.natAbs:Nat)):=by
 refine Ad.walk w1 fW rfl λF=>?_
 obtain⟨h1,h2⟩:=h;refine fR 0 ?_;refine AC.seq ?_;refine fR 100 ?_;refine AO ?_
 (refine B7 (λh4=>?_) (λh4=>?_))<;>(try simp only[Bs,B5]at h4)<;>(try simp only[h4])
 ·have hz:z<0:=by simpa using h4
  have e1:IntKind.i64.wrap (0-z)=(z.natAbs:Nat):=by rw[wI];omega
  have e2:IntKind.u64.wrap ((z.natAbs:Nat):Int)=(z.natAbs:Nat):=wU;refine sZ 200 ?_;refine K4 (Ab e1 e2) ?_;refine Ag ?_;exact AM rfl AA.out
 ·have hz:¬z<0:=by simpa using h4
  have e2:IntKind.u64.wrap z=(z.natAbs:Nat):=by rw[wU];omega
  refine Am ?_;refine sZ 300 ?_;refine K4 e2 ?_;refine Ag ?_;exact AM rfl AA.out
theorem xq (z:Int)(h:Sm z):AL C0 167 [DM z] (DM (-z)):=by
 refine Ad.walk w1 Vu rfl λF=>?_
 refine fR 0 ?_;refine AC.seq ?_;refine sZ 100 ?_
 repeat'(first|(refine BK (by exact CL) ?_;refine BM ?_)|((refine B7 (λhb=>?_) (λhb=>?_))<;>(try simp only[Bs,B5]at hb)<;>(try simp only[hb])<;>(refine BM ?_)))
 rw[iu h];refine AO ?_;have e1:IntKind.i64.wrap (0-z) = -z:=by
  have:=h.1;have:=h.2
  rw[wI];omega
 refine sZ 200 ?_;refine K4 e1 ?_;refine Ag ?_;exact AM rfl AA.out
theorem PK (x y:Nat)(hx:x<18446744073709551616)(hy:y<18446744073709551616):AL C0 171 [u64 x,u64 y] (.tup [u64 (x*y/18446744073709551616:Nat),u64 (x*y%18446744073709551616:Nat)]):=by
 refine⟨⟨_,_,Tryz.func171,rfl,by kernel_rfl⟩,λY w vs hG hnG hX hvs hr=>?_⟩;obtain⟨v1,v2,rfl⟩:∃a b,vs = #[a,b]:=by
  match vs,hvs with
  |⟨[a,b]⟩,_=>exact⟨a,b,rfl⟩
 have h0:=hr 0 _ rfl;have h1:=hr 1 _ rfl;simp at h0 h1;cases h0;cases h1;refine(Tryz.bits_Mul64 x y hx hy w).mono ?_;rintro e w' ⟨rfl,rfl⟩;exact⟨_,_,rfl,.refl _ _,rfl,.tup rfl λi d hd=>by
  match i with
  | 0=>simp at hd;subst hd;exact .prim _
  | 1=>simp at hd;subst hd;exact .prim _
  |n+2=>simp at hd⟩
theorem tf {a b:Int}(hb:0<b):(a.tmod b<0->a.tdiv b-1=a/b/\a.tmod b+b=a%b)/\(¬a.tmod b<0->a.tdiv b=a/b/\a.tmod b=a%b):=by
 have h1:=Int.mul_tdiv_add_tmod a b;have h2:=Int.tmod_lt_of_pos a hb;have h3:=Int.lt_tmod_of_pos a hb;constructor
 ·intro h
  have:=(Int.ediv_emod_unique (a:=a) (r:=a.tmod b+b) (q:=a.tdiv b-1) hb).2 ⟨by rw[Int.mul_sub,Int.mul_one];omega,by omega,by omega⟩
  exact⟨this.1.symm,this.2.symm⟩
 ·intro h
  have:=(Int.ediv_emod_unique (a:=a) (r:=a.tmod b) (q:=a.tdiv b) hb).2 ⟨by omega,by omega,by omega⟩
  exact⟨this.1.symm,this.2.symm⟩
theorem bl {a b:Int}(ha:Sm a):Sm (a.tdiv b):=by
 have h:(a.tdiv b).natAbs<=a.natAbs:=by rw[Int.natAbs_tdiv];exact GQ _ _
 have:=ha.1;have:=ha.2
 exact⟨by omega,by omega⟩
theorem ml (a b:Int)(hb0:0<b)(ha:Sm a)(hb:Sm b):AL C0 219 [DM a,DM b] (.tup [DM (a/b),DM (a%b)]):=by
 refine Ad.walk w1 Vv rfl λF=>?_
 obtain⟨t1,t2⟩:=tf (a:=a) hb0;have h2:=Int.tmod_lt_of_pos a hb0;have h3:=Int.lt_tmod_of_pos a hb0;have q1:=wS (bl (b:=b) ha);have q2:IntKind.i64.wrap (a.tmod b)=a.tmod b:=wI (by have:=hb.2;omega) (by have:=hb.2;omega);have q0:=bl (b:=b) ha;refine fR 0 ?_;refine AC.seq ?_;refine sZ 100 ?_
 repeat'(first|(refine BK (by exact CL) ?_;refine BM ?_)|((refine B7 (λhb=>?_) (λhb=>?_))<;>(try simp only[Bs,B5]at hb)<;>(try simp only[hb])<;>(refine BM ?_)))
 rw[iu ha];refine AO ?_;refine AC.seq ?_;refine CR 200 [0,1,2,3,4,5,6,7,8,9,10] [11] ?_;refine BK (by(refine BM ?_);(try simp only[q1,q2]);all_goals exact CL) ?_;refine BM ?_
 try simp only[q1,q2]
 refine AC.seq ?_;refine fR 300 ?_;refine AO ?_
 (refine B7 (λh40=>?_) (λh40=>?_))<;>(try simp only[Bs,B5]at h40)<;>(try simp only[h40])
 ·obtain⟨e1,e2⟩:=t1 (by simpa using h40)
  have q3:IntKind.i64.wrap (a.tdiv b-1)=a/b:=by rw[wI (by have:=q0.1;omega) (by have:=q0.2;omega)];exact e1
  have q4:IntKind.i64.wrap (a.tmod b+b)=a%b:=by rw[wI (by have:=hb.2;omega) (by have:=hb.2;omega)];exact e2
  refine CR 400 [0,1,2,3,4,5,6] [7] ?_;refine BK (by(refine BM ?_);(try simp only[q3,q4]);all_goals exact CL) ?_;refine BM ?_
  try simp only[q3,q4]
  refine fR 500 ?_;refine Ag ?_;exact AM rfl AA.out
 ·obtain⟨e1,e2⟩:=t2 (by simpa using h40)
  refine Am ?_;refine AC.seq ?_;rw[e1,e2];refine fI 500 ?_;refine Ag ?_;exact AM rfl AA.out
theorem rA (z:Int):AL C0 118 [DM z] (NH z 1):=by
 refine Ad.walk w1 Vq rfl λF=>?_
 refine fR 0 ?_;refine AC.seq ?_;refine CR 100 [0,1] [2,3] ?_;refine CQ ?_;refine Bf.same _ (P0 1) AJ ?_;refine CQ ?_;refine Ag ?_;exact AM rfl AA.out
theorem e0p (z:Int):AL C0 87 [i64 z] (NH z 1):=by
 refine Ad.walk w1 jK rfl λF=>?_
 refine fR 0 ?_;refine fR 100 ?_;refine dI (P0 z) ?_;refine dI (rA z) ?_;refine Ag ?_;exact AM rfl AA.out
def ES (a b:Int):Int:=if a<b then -1 else if b<a then 1 else 0
theorem s6 (a b:Int):AL C0 233 [DM a,DM b] (i64 (ES a b)):=by
 refine Ad.walk w1 Vw rfl λF=>?_
 unfold ES;refine fR 0 ?_;refine AC.seq ?_;refine sZ 100 ?_
 repeat'(first|(refine BK (by exact CL) ?_;refine BM ?_)|((refine B7 (λhb=>?_) (λhb=>?_))<;>(try simp only[Bs,B5]at hb)<;>(try simp only[hb])<;>(refine BM ?_)))
 refine AO ?_;refine AC.seq ?_;refine AC.block ?_;refine fR 200 ?_;refine AO ?_
 (refine B7 (λh13=>?_) (λh13=>?_))<;>(try simp only[Bs,B5]at h13)<;>(try simp only[h13])
 ·have h1:a<b:=by simpa using h13
  rw[AI h1];refine fR 300 ?_;refine Ag ?_;exact AM rfl AA.out
 ·have h1:¬a<b:=by simpa using h13
  rw[AG h1];refine fR 400 ?_;refine AO ?_
  (refine B7 (λh19=>?_) (λh19=>?_))<;>(try simp only[Bs,B5]at h19)<;>(try simp only[h19])
  ·have h2:b<a:=by simpa using h19
   rw[AI h2];refine fR 500 ?_;refine Ag ?_;exact AM rfl AA.out
  ·have h2:¬b<a:=by simpa using h19
   rw[AG h2];refine Am ?_;refine fR 600 ?_;refine Ag ?_;exact AM rfl AA.out
theorem dU {n k:Nat}(h:Nat.blt n k=true):n<k:=by rw[Nat.blt_eq]at h;exact h
def smB:Int->Bool
 | .ofNat n=>Nat.blt n 9223372036854775808
 | .negSucc n=>Nat.blt n 9223372036854775807
theorem yL {z:Int}(h:smB z=true):Sm z:=by
 cases z with
 |ofNat n=>have:=dU h;exact⟨by rw[Int.ofNat_eq_natCast];omega,by rw[Int.ofNat_eq_natCast];omega⟩
 |negSucc n=>have:=dU h;exact⟨by omega,by omega⟩
abbrev BB:Nat:=18446744073709551616
def Af (n:Nat):List Nat:=if _h:n=0 then[]else(n%BB)::Af (n/BB)
termination_by n
decreasing_by exact Ir (EX _h) (by decide)
def AT:List Nat->Nat
 | []=>0
 |a::l=>a+BB*AT l
def Wd (l:List Nat):Prop:=∀a∈l,a<BB
theorem GX:Af 0=[]:=by unfold Af;rfl
theorem Gw {n:Nat}(h:n≠0):Af n=(n%BB)::Af (n/BB):=by rw[Af,dif_neg h]
theorem F3 (n:Nat):Wd (Af n):=by
 induction n using Nat.strongRecOn with
 |ind n ih=>
  by_cases h:n=0
  ·subst h;rw[GX];intro a ha;cases ha
  ·rw[Gw h]
   intro a ha;rcases A9.1 ha with rfl|ha
   ·exact CI _ (by decide)
   ·exact ih _ (Ir (EX h) (by decide)) a ha
theorem Fc (n:Nat):AT (Af n)=n:=by
 induction n using Nat.strongRecOn with
 |ind n ih=>
  by_cases h:n=0
  ·subst h;rw[GX];rfl
  ·rw[Gw h,AT,ih _ (Ir (EX h) (by decide))]
   exact FX n BB
theorem LA (l m:List Nat):AT (l++m)=AT l+BB^l.length*AT m:=by
 induction l with
 |nil=>simp[AT]
 |cons a l ih=>
  simp only[E2,AT,ih,Br,CW,BO];rw[Ba (BB^l.length) BB,B6,FE]
theorem Wd.tail {a:Nat}{l:List Nat}(h:Wd (a::l)):Wd l:=λb hb=>h b (B9 _ hb)
theorem Wd.head {a:Nat}{l:List Nat}(h:Wd (a::l)):a<BB:=h a B1
theorem Wd.append {l m:List Nat}(h:Wd l)(k:Wd m):Wd (l++m):=λa ha=>(Bn.1 ha).elim (h a) (k a)
theorem Wd.take {l:List Nat}(h:Wd l)(n:Nat):Wd (l.take n):=λa ha=>h a (E3 ha)
theorem IV:∀ {l:List Nat},Wd l->AT l<BB^l.length
 | [],_=>by simp[AT]
 |a::l,h=>by
  have h1:=IV h.tail;have h2:=h.head;rw[AT,Br,CW]
  calc a+BB*AT l<BB+BB*AT l:=by omega
   _=BB*(AT l+1):=by rw[BO,EY,L2]
   _<=BB*BB^l.length:=Cs _ h1
   _=_:=Ba _ _
theorem ZH:∀ {l:List Nat},Wd l->(∀a∈l.getLast?,a≠0)->Af (AT l)=l
 | [],_,_=>GX
 | [a],h,hl=>by
  have ha:a≠0:=hl a (by simp);have hb:=h.head;rw[show AT [a]=a from by simp[AT],Gw ha,Fr hb,IJ hb,GX]
 |a::b::l,h,hl=>by
  have ih:=ZH h.tail (λx hx=>hl x (by simpa using hx));have hb:=h.head;have hv:AT (b::l)≠0:=by
   intro h0;rw[h0,GX]at ih;cases ih
  have e1:AT (a::b::l)%BB=a:=by rw[AT,TT,Fr hb]
  have e2:AT (a::b::l)/BB=AT (b::l):=by
   rw[AT,Tb _ _ (by decide),IJ hb,BW]
  have hne:AT (a::b::l)≠0:=by
   intro h0;rw[h0]at e2;exact hv (by rw[<-e2];rfl)
  rw[Gw hne,e1,e2,ih]
theorem Qz:∀(k:Nat),AT (List.replicate k 0)=0
 | 0=>rfl
 |k+1=>by rw[List.replicate_succ,AT,Qz k,FF]
theorem YQ {l:List Nat}(h:Wd l)(n:Nat)(hz:∀j,n<=j->∀a,l[j]?=some a->a=0)(hn:n<=l.length)(hl:∀m,n=m+1->∀a,l[m]?=some a->a≠0):l.take n=Af (AT l):=by
 have hd:l.drop n=List.replicate (l.length-n) 0:=by
  refine Qf λi=>?_
  rw[IH,List.getElem?_replicate];split
  ·rename_i hi
   rw[Cu]
   congr 1
   exact hz _ (Nat.le_add_right _ _) _ (Cu)
  ·exact EB (by omega)
 have hv:AT l=AT (l.take n):=by
  conv=>lhs;rw[<-FB n l]
  rw[LA,hd,Qz,FF,D6]
 rw[hv];refine(ZH (h.take n) λa ha=>?_).symm
 match n,hl,hn with
 | 0,_,_=>simp at ha
 |m+1,hl,hn=>
  refine hl m rfl a ?_;rw[List.getLast?_eq_getElem?,Bd,Ft hn,FU,DR]at ha;simpa using ha
abbrev AS (n:Nat):D:=u64 (n:Int)
def wL (l:List Nat):D:=.sl false 1 (l.map AS)
def wD (n:Nat):D:=wL (Af n)
theorem LT (l:List Nat):CK (wL l):=.sl λe he d hd=>by
 obtain⟨a,_,rfl⟩:=By.1 he;simp only[D.cells,A9,Dv,or_false]at hd;subst hd;exact .prim _
instance  (l:List Nat):AA (wL l):=⟨LT l⟩
instance  (n:Nat):AA (wD n):=⟨LT _⟩
theorem Dy {l:List Nat}{i a:Nat}(h:l[i]?=some a):(l.map AS)[i]?=some (AS a):=by rw[Az,h];rfl
theorem trim_ok (l:List Nat)(h:Wd l)(hlen:l.length<4000000000):AL C0 200 [wL l] (wD (AT l)):=by
 refine Ad.walk w1 dt rfl λF=>?_
 unfold wL;refine sR 0 ?_;refine sR 100 ?_;refine AC.seq ?_;refine AC.block ?_;have hml:((l.map AS).length:Int)=(l.length:Int):=by rw[Ae]
 rw[hml];refine AC.loop (α:=Nat×Nat) (λp=>⟨[(0,.sl false 1 (l.map AS)),(3,i64 p.1)],[],p.2⟩) (λp=>p.1)
  (λp=>p.1<=l.length/\∀j,p.1<=j->∀a,l[j]?=some a->a=0) (l.length,_) ⟨An _,λj hj a ha=>by rw[EB hj]at ha;cases ha⟩ AK ?_
 rintro⟨n,m⟩ F ⟨h1,h2⟩;dsimp only at h1 h2⊢;refine AC.seq ?_;refine AC.seq ?_;rcases n with _|n
 ·have z0:decide (((0:Nat):Int)>0)=false:=rfl
  refine Aq 200 ?_;refine AF z0 ?_;refine AO ?_;refine CO ?_;have ht:=YQ h 0 h2 (BT _) (by simp);refine sR 400 ?_;refine Ag ?_;refine AM (d0:=wL (l.take 0)) ?_ AA.out;rw[ht];rfl
 ·obtain⟨a,ha⟩:∃a,l[n]?=some a:=⟨l[n],Cu⟩
  have hx:=Dy ha;have z1:decide (((n+1:Nat):Int)>0)=true:=BX;have w2:IntKind.i64.wrap (((n+1:Nat):Int)-1)=(n:Int):=by rw[wI];omega
  refine Aq 200 ?_;refine AF (Ab z1 w2) ?_;refine B3 z1 hx ?_;refine AF (Ab z1 w2) ?_;refine AO ?_
  (refine B7 (λh15=>?_) (λh15=>?_))<;>(try simp only[Bs,B5]at h15)<;>(try simp only[h15])
  ·have ha0:a=0:=by
    have:(a:Int)=0:=by simpa using h15
    omega
   subst ha0;refine Am ?_;refine AC.block ?_;refine Aq 300 ?_;refine AV w2 ?_;refine⟨(n,_),⟨by dsimp only;omega,λj hj b hb=>?_⟩,by dsimp only;omega,AK⟩;rcases Nat.eq_or_lt_of_le hj with rfl|hlt
   ·exact FY (hb.symm.trans ha)
   ·exact h2 j hlt b hb
  ·have ha0:a≠0:=by
    intro h0;subst h0;simp at h15
   refine CO ?_;have ht:=YQ h (n+1) h2 h1 (λm hm b hb=>by
    obtain rfl:n=m:=by omega
    rw[ha]at hb;cases hb;exact ha0)
   refine sR 400 ?_;refine Ag ?_;have e4:List.take ((((n+1:Nat):Int)).toNat-0) (List.drop 0 (l.map AS))=(l.take (n+1)).map AS:=by
    rw[List.map_take];simp
   rw[e4];refine AM (d0:=wL (l.take (n+1))) ?_ AA.out;rw[ht];rfl
theorem IS (b:Nat):∀a,b<=a->(Af b).length<=(Af a).length:=by
 induction b using Nat.strongRecOn with
 |ind b ih=>
  intro a h
  by_cases hb:b=0
  ·subst hb;rw[GX];exact BT _
  ·rw[Gw hb,Gw (n:=a) (by omega),Br,Br]
   exact Nat.succ_le_succ (ih _ (Ir (EX hb) (by decide)) _ (Nat.div_le_div_right h))
theorem Xi {a b:Nat}(h:(Af a).length<(Af b).length):a<b:=by
 rcases BC a b with h1|h1
 ·exact h1
 ·have:=IS b a h1;omega
theorem LU {l:List Nat}{k a:Nat}(h:l[k]?=some a):AT l=AT (l.take k)+BB^k*(a+BB*AT (l.drop (k+1))):=by
 have hk:k<l.length:=(BS.1 h).1
 conv=>lhs;rw[<-FB k l]
 rw[LA,Bd,Ft (by omega)]
 have:l.drop k=a::l.drop (k+1):=by
  rw[Ey hk]
  congr 1
  exact(BS.1 h).2
 rw[this,AT]
theorem Yj {l m:List Nat}{k a b:Nat}(hl:Wd l)(ha:l[k]?=some a)(hb:m[k]?=some b)(hd:l.drop (k+1)=m.drop (k+1))(hab:a<b):AT l<AT m:=by
 have hk:k<l.length:=(BS.1 ha).1;rw[LU ha,LU hb,hd];have h1:=IV (hl.take k);rw[Bd,Ft (by omega)]at h1;generalize AT (m.drop (k+1))=r;have h2:BB^k*(a+BB*r)+BB^k<=BB^k*(b+BB*r):=by
  rw[<-Nat.mul_succ];exact Cs _ (by omega)
 omega
theorem Rj (a b:Nat)(ha:(Af a).length<4000000000)(hb:(Af b).length<4000000000):AL C0 176 [wD a,wD b] (i64 (ES a b)):=by
 refine Ad.walk w1 fg rfl λF=>?_
 have hwa:=F3 a;have hwb:=F3 b;have va:=Fc a;have vb:=Fc b;have hlt:=@Xi a b;have hgt:=@Xi b a;unfold wD wL ES;generalize Af a=la at*;generalize Af b=lb at*;have ea:(((la.map AS).length:Nat):Int)=(la.length:Int):=by rw[Ae]
 have eb:(((lb.map AS).length:Nat):Int)=(lb.length:Int):=by rw[Ae]
 refine sR 0 ?_;refine AC.seq ?_;refine sZ 100 ?_;refine AV (Ab ea eb) ?_;refine AO ?_
 (refine B7 (λh10=>?_) (λh10=>?_))<;>(try simp only[Bs,B5]at h10)<;>(try simp only[h10])
 ·have hne:la.length≠lb.length:=by
   have:(la.length:Int)≠lb.length:=by simpa using h10
   omega
  refine AC.seq ?_;refine sZ 200 ?_;refine AV (Ab ea eb) ?_;refine AO ?_
  (refine B7 (λh15=>?_) (λh15=>?_))<;>(try simp only[Bs,B5]at h15)<;>(try simp only[h15])
  ·have h1:la.length<lb.length:=by
    have:(la.length:Int)<lb.length:=by simpa using h15
    omega
   rw[AI (by have:=hlt h1;omega)];refine sR 300 ?_;refine Ag ?_;exact AM rfl AA.out
  ·have h1:lb.length<la.length:=by
    have:¬(la.length:Int)<lb.length:=by simpa using h15
    omega
   have h2:=hgt h1;rw[CM,DR];refine Am ?_;refine sR 400 ?_;refine Ag ?_;exact AM rfl AA.out
 ·have hl:la.length=lb.length:=by
   have:(la.length:Int)=lb.length:=by simpa using h10
   omega
  clear hlt hgt;refine Am ?_;refine AC.seq ?_;refine sZ 500 ?_;refine AV ea ?_;refine AC.block ?_;have w0:IntKind.i64.wrap ((la.length:Int)-1)=(la.length:Int)-1:=wI;rw[w0];refine AC.loop (α:=Nat×Nat) (λp=>⟨[(0,.sl false 1 (la.map AS)),(1,.sl false 1 (lb.map AS)),(5,i64 ((p.1:Int)-1))],[],p.2⟩) (λp=>p.1)
   (λp=>p.1<=la.length/\la.drop p.1=lb.drop p.1) (la.length,_) ⟨An _,by rw[J5,hl,J5]⟩ AK ?_
  rintro⟨k,m⟩ F ⟨h1,h2⟩;dsimp only at h1 h2⊢;refine AC.seq ?_;refine sR 600 ?_;refine AO ?_
  (refine B7 (λh20=>?_) (λh20=>?_))<;>(try simp only[Bs,B5]at h20)<;>(try simp only[h20])
  ·obtain⟨j,rfl⟩:∃j,k=j+1:=⟨k-1,by
    have:(k:Int)-1>=0:=by simpa using h20
    omega⟩
   have wj:((j+1:Nat):Int)-1=(j:Int):=by omega
   obtain⟨x,hx⟩:∃x,la[j]?=some x:=⟨la[j],Cu⟩
   obtain⟨y,hy⟩:∃y,lb[j]?=some y:=⟨lb[j],Cu⟩
   have hx':=Dy hx;have hy':=Dy hy;rw[wj];refine Am ?_;refine AC.seq ?_;refine AC.block ?_;refine AC.seq ?_;refine CR 800 [0,1,2,3,4,5,6,7] [8] ?_;refine AF kN ?_;refine B3 kT hx' ?_;refine AF kN ?_;refine B3 kT hy' ?_;refine AF kN ?_;refine AF kN ?_;refine AO ?_
   (refine B7 (λh31=>?_) (λh31=>?_))<;>(try simp only[Bs,B5]at h31)<;>(try simp only[h31])
   ·have hne:x≠y:=by
     intro h0;subst h0;simp at h31
    refine AC.seq ?_;refine AC.seq ?_;refine CR 900 [0,1,2,3,4,5,6,7] [8] ?_;refine AF kN ?_;refine B3 kT hx' ?_;refine AF kN ?_;refine B3 kT hy' ?_;refine AF kN ?_;refine AF kN ?_;refine AO ?_
    (refine B7 (λh40=>?_) (λh40=>?_))<;>(try simp only[Bs,B5]at h40)<;>(try simp only[h40])
    ·have hxy:x<y:=by
      have:(x:Int)<y:=by simpa using h40
      omega
     have:=Yj hwa hx hy h2 hxy
     rw[DR];refine sR 1000 ?_;refine Ag ?_;exact AM rfl AA.out
    ·have hxy:y<x:=by
      have:¬(x:Int)<y:=by simpa using h40
      omega
     have:=Yj hwb hy hx h2.symm hxy
     rw[CM,DR];refine Am ?_;refine sR 1100 ?_;refine Ag ?_;exact AM rfl AA.out
   ·have hxy:x=y:=by
     have:(x:Int)=y:=by simpa using h31
     omega
    subst hxy;have w5:IntKind.i64.wrap ((j:Int)-1)=(j:Int)-1:=wI;refine Am ?_;refine Aq 700 ?_;refine AV w5 ?_;have hj:=(BS.1 hx)
    have hj':=(BS.1 hy)
    refine⟨(j,_),⟨by dsimp only;omega,?_⟩,by dsimp only;omega,AK⟩;dsimp only;rw[Ey hj.1,Ey hj'.1,hj.2,hj'.2,h2]
  ·have hk:k=0:=by
    have:¬((k:Int)-1>=0):=by simpa using h20
    omega
   subst hk;have hab:a=b:=by
    rw[<-va,<-vb]
    have:la=lb:=by simpa using h2
    rw[this]
   subst hab;rw[CM,CM];refine CO ?_;refine sR 1200 ?_;refine Ag ?_;exact AM rfl AA.out
theorem ZR {a b c:Nat}(hc:c<=1):Lv 220 [AS a,AS b,AS c]=some (.tup [AS ((a+b+c)%BB),AS ((a+b+c)/BB)]):=by
 show(match Nat.ble c 1 with
  |true=>some (D.tup [.prim (.int .u64 (((a+b+c)%18446744073709551616:Nat):Int)),.prim (.int .u64 (((a+b+c)/18446744073709551616:Nat):Int))])
  |false=>none)=_
 have h1:Nat.ble c 1=true:=by rw[Nat.ble_eq];exact hc
 rw[h1]
theorem Fy {l:List Nat}{i a:Nat}(h:l[i]?=some a):l.take (i+1)=l.take i++[a]:=by rw[Du,h];rfl
theorem RR {l:List Nat}{i a:Nat}(h:i<l.length):(l.set i a).take (i+1)=l.take i++[a]:=by
 rw[Fy (l:=l.set i a) (i:=i) (a:=a) (by simp[h]),List.take_set_of_le (An _)]
theorem HT {l:List Nat}{i a:Nat}(hi:l.length=i):AT (l++[a])=AT l+BB^i*a:=by rw[LA,hi];simp[AT]
theorem map_set {l:List Nat}{i a:Nat}:(l.map AS).set i (AS a)=(l.set i a).map AS:=List.map_set.symm
theorem Wd.set {l:List Nat}(h:Wd l){i a:Nat}(ha:a<BB):Wd (l.set i a):=λb hb=>by
 rcases Qd hb with h1|rfl
 ·exact h b h1
 ·exact ha
theorem NP (n:Nat):Wd (List.replicate n 0):=λa ha=>by rw[QU ha];decide
theorem WJ {env:Ao}{t K g n N:Nat}{z:List Nat}{T:Nat}(hl:z.length=N)(he:env.get t=.osl K g 1 0 N:=by exact rfl):Wk ⟨env,[⟨K,g,T,1,z.map AS⟩],n⟩ ⟨[(t,.sl false 1 (z.map AS))],[],n⟩:=by
 subst hl;refine⟨.drop .nil,⟨?_,trivial⟩,An _⟩;dsimp only;rw[he]
 have:=SW K g T 1 (z.map AS)
 rwa [Ae]at this
theorem r7 (la lb:List Nat)(ha:Wd la)(hb:Wd lb)(hla:la.length<4000000)(hlb:lb.length<4000000):AL C0 175 [wL la,wL lb] (wD (AT la+AT lb)):=by
 refine Ad.walk w1 fe rfl λF=>?_
 unfold wL;have ea:(((la.map AS).length:Nat):Int)=(la.length:Int):=by rw[Ae]
 have eb:(((lb.map AS).length:Nat):Int)=(lb.length:Int):=by rw[Ae]
 obtain⟨x,y,hsw,hle,hx,hy,hlx,hv⟩:∃x y:List Nat,(la.length<lb.length/\x=lb/\y=la\/¬la.length<lb.length/\x=la/\y=lb)/\y.length<=x.length/\Wd x/\Wd y/\x.length<4000000/\AT la+AT lb=AT x+AT y:=by
  by_cases h:la.length<lb.length
  ·exact⟨lb,la,.inl ⟨h,rfl,rfl⟩,by omega,hb,ha,hlb,by omega⟩
  ·exact⟨la,lb,.inr ⟨h,rfl,rfl⟩,by omega,ha,hb,hla,rfl⟩
 rw[hv];refine sR 0 ?_;refine EI ⟨[(0,.sl false 1 (x.map AS)),(1,.sl false 1 (y.map AS)),(4,Cd)],[],20⟩ ?_ ?_
 ·refine sZ 100 ?_
  refine AV (Ab ea eb) ?_;refine AO ?_;rcases hsw with⟨h,rfl,rfl⟩|⟨h,rfl,rfl⟩
  ·have e1:decide ((y.length:Int)<(x.length:Int))=true:=BX
   rw[e1];refine rI 200 ?_;exact BK (by trivial) (AK)
  ·have e1:decide ((x.length:Int)<(y.length:Int))=false:=Bc
   rw[e1];refine Am ?_;exact BK (by trivial) (AK)
 clear hsw ea eb;have ex:(((x.map AS).length:Nat):Int)=(x.length:Int):=by rw[Ae]
 have ey:(((y.map AS).length:Nat):Int)=(y.length:Int):=by rw[Ae]
 have w3:IntKind.i64.wrap ((x.length:Int)+1)=((x.length+1:Nat):Int):=by rw[wI];omega
 have r3:List.replicate (x.length+1) (ofV (.int .u64 0))=(List.replicate (x.length+1) 0).map AS:=by rw[Kw];rfl
 refine sZ 300 ?_;refine AV (Ar ex w3 kN) ?_;refine sR 400 ?_;refine AC.seq ?_;refine sZ 500 ?_;refine AV ex ?_;refine AC.block ?_;refine AC.loop (α:=Nat×Nat×List Nat×Nat) (λp=>⟨[(0,.sl false 1 (x.map AS)),(1,.sl false 1 (y.map AS)),(4,Cd),(5,.osl 303 23 1 0 (x.length+1)),(6,AS p.2.1),(21,i64 x.length),(22,i64 p.1)],[⟨303,23,190,1,p.2.2.1.map AS⟩],p.2.2.2⟩) (λp=>x.length-p.1)
  (λp=>p.1<=x.length/\p.2.1<=1/\p.2.2.1.length=x.length+1/\Wd p.2.2.1/\AT (p.2.2.1.take p.1)+BB^p.1*p.2.1=AT (x.take p.1)+AT (y.take p.1)) (0,0,List.replicate (x.length+1) 0,_)
  ⟨BT _,BT _,by simp,NP _,by simp[AT]⟩ (by rw[<-r3];exact AK) ?_
 rintro⟨i,c,o,m⟩ F ⟨h1,h2,h3,h4,h5⟩;dsimp only at h1 h2 h3 h4 h5⊢;refine sR 600 ?_;refine AC.seq ?_;refine AO ?_
 (refine B7 (λh23=>?_) (λh23=>?_))<;>(try simp only[Bs,B5]at h23)<;>(try simp only[h23])
 ·have hi:i<x.length:=by simpa using h23
  obtain⟨a,hxa⟩:∃a,x[i]?=some a:=⟨x[i],Bx hi⟩
  have ha:=Dy hxa;obtain⟨v,hvl,hvv⟩:∃v,v<BB/\(i<y.length/\y[i]?=some v\/y.length<=i/\v=0):=by
   by_cases h:i<y.length
   ·exact⟨y[i],hy _ (List.getElem_mem h),.inl ⟨h,Bx h⟩⟩
   ·exact⟨0,by decide,.inr ⟨by omega,rfl⟩⟩
  have hal:a<BB:=hx a (Au hxa);have hyv:AT (y.take (i+1))=AT (y.take i)+BB^i*v:=by
   rcases hvv with⟨h,hh⟩|⟨h,rfl⟩
   ·rw[Fy hh,HT (i:=i) (by rw[Bd];omega)]
   ·rw[Gs,Cp h];simp
  have hoi:i<o.length:=by omega
  obtain⟨oi,hoa⟩:∃a,o[i]?=some a:=⟨o[i],Bx hoi⟩
  have hob:=Dy hoa;have hadd:=ZR (a:=a) (b:=v) h2;have wi:IntKind.i64.wrap ((i:Int)+1)=((i+1:Nat):Int):=wI;refine Am ?_;refine AC.seq ?_;refine AC.block ?_;refine sR 700 ?_;refine sR 800 ?_;refine EI ⟨[(0,.sl false 1 (x.map AS)),(1,.sl false 1 (y.map AS)),(4,Cd),(5,.osl 303 23 1 0 (x.length+1)),(6,AS c),(7,i64 i),(8,AS v),(21,i64 x.length),(22,i64 i)],[⟨303,23,190,1,o.map AS⟩],m+30⟩ ?_ ?_
  ·refine sZ 900 ?_
   refine AV ey ?_;refine AO ?_;rcases hvv with⟨h,hh⟩|⟨h,rfl⟩
   ·have hy':=Dy hh
    have e1:decide ((i:Int)<(y.length:Int))=true:=BX;rw[e1];refine rI 1000 ?_;refine AF kN ?_;refine B3 kT hy' ?_;refine BR ?_;exact BK (by trivial) (AK)
   ·have e1:decide ((i:Int)<(y.length:Int))=false:=Bc
    rw[e1];refine Am ?_;exact BK (by trivial) (AK)
  refine rI 1100 ?_;refine AF kN ?_;refine B3 kT ha ?_;refine AF kN ?_
  first|(refine Eb rfl rfl ?_;refine Rv rfl rfl (hadd) ?_)|(refine FM rfl rfl ?_;refine Pe rfl rfl (hadd) ?_)
  refine AF (Ar kN BW hob) ?_;have hs:(a+v+c)%BB<BB:=CI _ (by decide);have hc':(a+v+c)/BB<=1:=by
   have:a+v+c<2*BB:=by omega
   exact Of (Fq (by rw[Ba];exact this))
  rw[map_set];refine Aq 1200 ?_;refine AV wi ?_;refine⟨(i+1,(a+v+c)/BB,o.set i ((a+v+c)%BB),_),⟨hi,hc',by dsimp only;rw[Db];exact h3,h4.set hs,?_⟩,by dsimp only;omega,AK⟩;dsimp only;rw[RR hoi,HT (i:=i) (by rw[Bd];omega),Fy hxa,HT (i:=i) (by rw[Bd];omega),hyv];have hm:=FX (a+v+c) BB;rw[CW,B6,FE,<-BO,hm,BO,BO];omega
 ·have hi:i=x.length:=by
   have:¬i<x.length:=by simpa using h23
   omega
  subst hi;obtain⟨oi,hoa⟩:∃a,o[x.length]?=some a:=⟨o[x.length],Cu⟩
  have hob:=Dy hoa;refine CO ?_;refine sZ 1300 ?_;refine AF (Bb ex kN BW hob) ?_;rw[map_set];have ho:o.set x.length c=o.take x.length++[c]:=by
   have:=RR (l:=o) (i:=x.length) (a:=c) (by omega)
   rwa [Cp (by rw[Db];omega)]at this
  have hov:AT (o.set x.length c)=AT x+AT y:=by
   rw[ho,HT (i:=x.length) (by rw[Bd];omega),h5,Cp (An _),Cp hle]
  have how:Wd (o.set x.length c):=h4.set (Da h2 (by decide));have hol:(o.set x.length c).length=x.length+1:=by rw[Db];exact h3
  generalize o.set x.length c=z at*;refine AC.weak ⟨[(5,.sl false 1 (z.map AS))],[],_⟩ (WJ hol) ?_;refine sR 1400 ?_;refine BE.same _ (trim_ok z how (by omega)) AJ ?_;refine BR ?_;refine Ag ?_;exact AM (by rw[hov]) AA.out
theorem U2 {a b c:Nat}(hc:c<=1):Lv 221 [AS a,AS b,AS c]=some (.tup [AS ((a+BB-b-c)%BB),AS (if a<b+c then 1 else 0)]):=by
 show(match Nat.ble c 1 with
  |true=>some (D.tup [.prim (.int .u64 (((a+18446744073709551616-b-c)%18446744073709551616:Nat):Int)),.prim (.int .u64 ((if a<b+c then 1 else 0:Nat):Int))])
  |false=>none)=_
 have h1:Nat.ble c 1=true:=by rw[Nat.ble_eq];exact hc
 rw[h1]
theorem UR {a v c:Nat}(ha:a<BB)(hv:v<BB)(hc:c<=1):(a+BB-v-c)%BB+v+c=a+BB*(if a<v+c then 1 else 0):=by
 by_cases h:a<v+c
 ·rw[AI h,Ja];omega
 ·rw[AG h]
  have:a+BB-v-c=(a-v-c)+BB:=by omega
  rw[this,Nat.add_mod_right,Ja];omega
theorem tc (x y:List Nat)(hx:Wd x)(hy:Wd y)(hlx:x.length<4000000)(hle:y.length<=x.length)(hv:AT y<=AT x):AL C0 177 [wL x,wL y] (wD (AT x-AT y)):=by
 refine Ad.walk w1 fh rfl λF=>?_
 unfold wL;have ex:(((x.map AS).length:Nat):Int)=(x.length:Int):=by rw[Ae]
 have ey:(((y.map AS).length:Nat):Int)=(y.length:Int):=by rw[Ae]
 have r3:List.replicate x.length (ofV (.int .u64 0))=(List.replicate x.length 0).map AS:=by rw[Kw];rfl
 refine sR 0 ?_;refine sZ 100 ?_;refine AV (Ab ex kN) ?_;refine sR 200 ?_;refine AC.seq ?_;refine sZ 300 ?_;refine AV ex ?_;refine AC.block ?_;refine AC.loop (α:=Nat×Nat×List Nat×Nat) (λp=>⟨[(0,.sl false 1 (x.map AS)),(1,.sl false 1 (y.map AS)),(4,Cd),(5,.osl 102 3 1 0 x.length),(6,AS p.2.1),(13,i64 x.length),(14,i64 p.1)],[⟨102,3,190,1,p.2.2.1.map AS⟩],p.2.2.2⟩) (λp=>x.length-p.1)
  (λp=>p.1<=x.length/\p.2.1<=1/\p.2.2.1.length=x.length/\Wd p.2.2.1/\AT (p.2.2.1.take p.1)+AT (y.take p.1)=AT (x.take p.1)+BB^p.1*p.2.1) (0,0,List.replicate x.length 0,_)
  ⟨BT _,BT _,by simp,NP _,by simp[AT]⟩ (by rw[<-r3];exact AK) ?_
 rintro⟨i,c,o,m⟩ F ⟨h1,h2,h3,h4,h5⟩;dsimp only at h1 h2 h3 h4 h5⊢;refine sR 400 ?_;refine AC.seq ?_;refine AO ?_
 (refine B7 (λh23=>?_) (λh23=>?_))<;>(try simp only[Bs,B5]at h23)<;>(try simp only[h23])
 ·have hi:i<x.length:=by simpa using h23
  obtain⟨a,hxa⟩:∃a,x[i]?=some a:=⟨x[i],Bx hi⟩
  have ha:=Dy hxa;obtain⟨v,hvl,hvv⟩:∃v,v<BB/\(i<y.length/\y[i]?=some v\/y.length<=i/\v=0):=by
   by_cases h:i<y.length
   ·exact⟨y[i],hy _ (List.getElem_mem h),.inl ⟨h,Bx h⟩⟩
   ·exact⟨0,by decide,.inr ⟨by omega,rfl⟩⟩
  have hal:a<BB:=hx a (Au hxa);have hyv:AT (y.take (i+1))=AT (y.take i)+BB^i*v:=by
   rcases hvv with⟨h,hh⟩|⟨h,rfl⟩
   ·rw[Fy hh,HT (i:=i) (by rw[Bd];omega)]
   ·rw[Gs,Cp h];simp
  have hoi:i<o.length:=by omega
  obtain⟨oi,hoa⟩:∃a,o[i]?=some a:=⟨o[i],Bx hoi⟩
  have hob:=Dy hoa;have hsub:=U2 (a:=a) (b:=v) h2;have hdig:=UR hal hvl h2;have hc':(if a<v+c then 1 else 0)<=1:=by split<;>decide
  have hs:(a+BB-v-c)%BB<BB:=CI _ (by decide);generalize(if a<v+c then 1 else 0)=c' at*;generalize(a+BB-v-c)%BB=d at*;have wi:IntKind.i64.wrap ((i:Int)+1)=((i+1:Nat):Int):=wI;refine Am ?_;refine AC.seq ?_;refine AC.block ?_;refine sR 500 ?_;refine sR 600 ?_;refine EI ⟨[(0,.sl false 1 (x.map AS)),(1,.sl false 1 (y.map AS)),(4,Cd),(5,.osl 102 3 1 0 x.length),(6,AS c),(7,i64 i),(8,AS v),(13,i64 x.length),(14,i64 i)],[⟨102,3,190,1,o.map AS⟩],m+30⟩ ?_ ?_
  ·refine sZ 700 ?_
   refine AV ey ?_;refine AO ?_;rcases hvv with⟨h,hh⟩|⟨h,rfl⟩
   ·have hy':=Dy hh
    have e1:decide ((i:Int)<(y.length:Int))=true:=BX;rw[e1];refine rI 800 ?_;refine AF kN ?_;refine B3 kT hy' ?_;refine BR ?_;exact BK (by trivial) (AK)
   ·have e1:decide ((i:Int)<(y.length:Int))=false:=Bc
    rw[e1];refine Am ?_;exact BK (by trivial) (AK)
  refine rI 900 ?_;refine AF kN ?_;refine B3 kT ha ?_;refine AF kN ?_
  first|(refine Eb rfl rfl ?_;refine Rv rfl rfl (hsub) ?_)|(refine FM rfl rfl ?_;refine Pe rfl rfl (hsub) ?_)
  refine AF (Ar kN BW hob) ?_;rw[map_set];refine Aq 1000 ?_;refine AV wi ?_;refine⟨(i+1,c',o.set i d,_),⟨hi,hc',by dsimp only;rw[Db];exact h3,h4.set hs,?_⟩,by dsimp only;omega,AK⟩;dsimp only;rw[RR hoi,HT (i:=i) (by rw[Bd];omega),Fy hxa,HT (i:=i) (by rw[Bd];omega),hyv];have h6:BB^i*d+BB^i*v+BB^i*c=BB^i*a+BB^(i+1)*c':=by
   rw[CW,B6,<-BO,<-BO,<-BO,hdig]
  omega
 ·have hi:i=x.length:=by
   have:¬i<x.length:=by simpa using h23
   omega
  subst hi;rw[Cp (Nat.le_of_eq h3),Cp (An _),Cp hle]at h5;have hlt:=IV h4;rw[h3]at hlt;have hc0:c=0:=by
   rcases EC c with h|h
   ·exact h
   ·have:c=1:=by omega
    subst this;rw[EY]at h5;omega
  subst hc0;have hov:AT o=AT x-AT y:=by
   rw[FF]at h5;omega
  refine CO ?_;refine AC.weak ⟨[(5,.sl false 1 (o.map AS))],[],_⟩ (WJ h3) ?_;refine sR 1100 ?_;refine BE.same _ (trim_ok o h4 (by omega)) AJ ?_;refine BR ?_;refine Ag ?_;exact AM (by rw[hov]) AA.out
theorem KL:∀ {l:List Nat} {k o d:Nat},l[k]?=some o->AT (l.set k d)+BB^k*o=AT l+BB^k*d
 |a::l,0,o,d,h=>by
  simp only[TV,BN]at h;subst h;simp only[List.set_cons_zero,AT,ND,JS];omega
 |a::l,k+1,o,d,h=>by
  simp only[Ks]at h;have ih:=KL (d:=d) h;simp only[List.set_cons_succ,AT];have h1:BB^(k+1)*o=BB*(BB^k*o):=by rw[CW,Ba (BB^k) BB,B6]
  have h2:BB^(k+1)*d=BB*(BB^k*d):=by rw[CW,Ba (BB^k) BB,B6]
  have h3:BB*AT (l.set k d)+BB*(BB^k*o)=BB*AT l+BB*(BB^k*d):=by rw[<-BO,<-BO,ih]
  omega
theorem oF {x y o c:Nat}(hx:x<BB)(hy:y<BB)(ho:o<BB)(hc:c<BB):
  ∃hi lo c1 lo1 hi1 c2 lo2 c',hi=x*y/BB/\lo=x*y%BB/\lo1=(lo+o+0)%BB/\c1=(lo+o+0)/BB/\hi1=hi+c1/\hi1<BB/\lo2=(lo1+c+0)%BB/\c2=(lo1+c+0)/BB/\c'=hi1+c2/\c'<BB/\lo2<BB /\
   lo2+BB*c'=x*y+o+c:=by
 refine⟨_,_,_,_,_,_,_,_,rfl,rfl,rfl,rfl,rfl,?_,rfl,rfl,rfl,?_,CI _ (by decide),?_⟩
 all_goals
  unfold BB at*;have e1:=FX (x*y) 18446744073709551616;have e2:=FX (x*y%18446744073709551616+o+0) 18446744073709551616;have e3:=FX ((x*y%18446744073709551616+o+0)%18446744073709551616+c+0) 18446744073709551616;have hxy:x*y<=(18446744073709551616-1)*(18446744073709551616-1):=GH (by omega) (by omega);have hk:(18446744073709551616-1)*(18446744073709551616-1)=340282366920938463426481119284349108225:=by decide
  rw[hk]at hxy;have l1:=CI (x*y) (show 18446744073709551616>0 by decide);have l2:=CI (x*y%18446744073709551616+o+0) (show 18446744073709551616>0 by decide);have l3:=CI ((x*y%18446744073709551616+o+0)%18446744073709551616+c+0) (show 18446744073709551616>0 by decide);generalize x*y=p at*;generalize hA:p/18446744073709551616=A at*;generalize hB:p%18446744073709551616=B at*;generalize hC:(B+o+0)/18446744073709551616=C at*;generalize hD:(B+o+0)%18446744073709551616=D at*;generalize hE:(D+c+0)/18446744073709551616=E at*;generalize hF:(D+c+0)%18446744073709551616=F at*;omega
theorem XV {n:Nat}(h:n<BB):IntKind.u64.wrap (n:Int)=(n:Int):=wU (by omega) (by unfold BB at h;omega)
theorem tD (a b:List Nat)(ha:Wd a)(hb:Wd b)(hla:a.length<1000000)(hlb:b.length<1000000):AL C0 174 [wL a,wL b] (wD (AT a*AT b)):=by
 refine Ad.walk w1 fY rfl λF=>?_
 unfold wL;have ea:(((a.map AS).length:Nat):Int)=(a.length:Int):=by rw[Ae]
 have eb:(((b.map AS).length:Nat):Int)=(b.length:Int):=by rw[Ae]
 have wl:IntKind.i64.wrap ((a.length:Int)+(b.length:Int))=((a.length+b.length:Nat):Int):=by rw[wI];omega
 have r3:List.replicate (a.length+b.length) (ofV (.int .u64 0))=(List.replicate (a.length+b.length) 0).map AS:=by rw[Kw];rfl
 refine sR 0 ?_;refine sZ 100 ?_;refine AV (Bb ea eb wl kN) ?_;refine AC.seq ?_;refine sZ 200 ?_;refine AV ea ?_;refine AC.block ?_;refine AC.loop (α:=Nat×List Nat×Nat) (λp=>⟨[(0,.sl false 1 (a.map AS)),(1,.sl false 1 (b.map AS)),(4,Cd),(5,.osl 105 6 1 0 (a.length+b.length)),(20,.sl false 1 (a.map AS)),(21,i64 a.length),(22,i64 p.1)],[⟨105,6,190,1,p.2.1.map AS⟩],p.2.2⟩) (λp=>a.length-p.1)
  (λp=>p.1<=a.length/\p.2.1.length=a.length+b.length/\Wd p.2.1/\AT p.2.1=AT (a.take p.1)*AT b/\∀k,p.1+b.length<=k->∀d,p.2.1[k]?=some d->d=0) (0,List.replicate (a.length+b.length) 0,_)
  ⟨BT _,by simp,NP _,by simp[AT,Qz],λk _ d hd=>QU (Au hd)⟩ (by rw[<-r3];exact AK) ?_
 rintro⟨i,o,m⟩ F ⟨h1,h2,h3,h4,h5⟩;dsimp only at h1 h2 h3 h4 h5⊢;refine sR 300 ?_;refine AC.seq ?_;refine AO ?_
 (refine B7 (λh23=>?_) (λh23=>?_))<;>(try simp only[Bs,B5]at h23)<;>(try simp only[h23])
 ·have hi:i<a.length:=by simpa using h23
  obtain⟨x,hx⟩:∃x,a[i]?=some x:=⟨a[i],Bx hi⟩
  have hx':=Dy hx;have hxl:x<BB:=ha x (Au hx);have wi:IntKind.i64.wrap ((i:Int)+1)=((i+1:Nat):Int):=wI;have hax:AT (a.take (i+1))=AT (a.take i)+BB^i*x:=by rw[Fy hx,HT (i:=i) (by rw[Bd];omega)]
  refine Am ?_;refine AC.seq ?_;refine AC.block ?_;refine sR 400 ?_;refine B3 kT hx' ?_;refine BR ?_;refine sR 500 ?_;refine AC.seq ?_;refine sZ 600 ?_;refine AV eb ?_;refine AC.block ?_;refine AC.loop (α:=Nat×Nat×List Nat×Nat) (λp=>⟨[(0,.sl false 1 (a.map AS)),(1,.sl false 1 (b.map AS)),(4,Cd),(5,.osl 105 6 1 0 (a.length+b.length)),(6,i64 i),(7,AS x),(8,AS p.2.1),(20,.sl false 1 (a.map AS)),(21,i64 a.length),(22,i64 i),(27,.sl false 1 (b.map AS)),(28,i64 b.length),(29,i64 p.1)],[⟨105,6,190,1,p.2.2.1.map AS⟩],p.2.2.2⟩) (λp=>b.length-p.1)
   (λp=>p.1<=b.length/\p.2.1<BB/\p.2.2.1.length=a.length+b.length/\Wd p.2.2.1/\AT p.2.2.1+BB^(i+p.1)*p.2.1=AT (a.take i)*AT b+BB^i*x*AT (b.take p.1)/\∀k,i+b.length<=k->∀d,p.2.2.1[k]?=some d->d=0) (0,0,o,_)
   ⟨BT _,show 0<BB by decide,h2,h3,by simp[AT,h4],h5⟩ AK ?_
  rintro⟨j,c,q,m2⟩ F ⟨g1,g2,g3,g4,g5,g6⟩;dsimp only at g1 g2 g3 g4 g5 g6⊢;clear h2 h3 h4 h5 r3 wl;refine sR 700 ?_;refine AC.seq ?_;refine AO ?_
  (refine B7 (λh30=>?_) (λh30=>?_))<;>(try simp only[Bs,B5]at h30)<;>(try simp only[h30])
  ·have hj:j<b.length:=by simpa using h30
   obtain⟨y,hy⟩:∃y,b[j]?=some y:=⟨b[j],Bx hj⟩
   have hy':=Dy hy;have hyl:y<BB:=hb y (Au hy);obtain⟨z,hz⟩:∃z,q[i+j]?=some z:=⟨q[i+j],Cu⟩
   have hz':=Dy hz;have hzl:z<BB:=g4 z (Au hz);have wj:IntKind.i64.wrap ((j:Int)+1)=((j+1:Nat):Int):=wI;have wij:IntKind.i64.wrap ((i:Int)+(j:Int))=((i+j:Nat):Int):=by rw[wI];omega
   have hbx:AT (b.take (j+1))=AT (b.take j)+BB^j*y:=by rw[Fy hy,HT (i:=j) (by rw[Bd];omega)]
   have cm:=PK x y hxl hyl;obtain⟨hi',lo,c1,lo1,hi1,c2,lo2,c',e1,e2,e3,e4,e5,e6,e7,e8,e9,e10,e11,e12⟩:=oF hxl hyl hzl g2;rw[show x*y/18446744073709551616=hi' from e1.symm,show x*y%18446744073709551616=lo from e2.symm]at cm;have e3':(lo+z+0)%18446744073709551616=lo1:=e3.symm;have e4':(lo+z+0)/18446744073709551616=c1:=e4.symm;have e7':(lo1+c+0)%18446744073709551616=lo2:=e7.symm;have e8':(lo1+c+0)/18446744073709551616=c2:=e8.symm;have w6:IntKind.u64.wrap ((hi':Int)+(c1:Int))=(hi1:Int):=by rw[<-Int.natCast_add,<-e5];exact XV e6
   have w7:IntKind.u64.wrap ((hi1:Int)+(c2:Int))=(c':Int):=by rw[<-Int.natCast_add,<-e9];exact XV e10
   refine Am ?_;refine AC.seq ?_;refine AC.block ?_;refine sR 800 ?_;refine B3 kT hy' ?_;refine BR ?_;refine sR 900 ?_;refine BE.same _ cm AJ ?_;refine BR ?_;refine sR 1000 ?_;refine sZ 1100 ?_;refine AF (EP wij kN BW hz' e3' e4') ?_;refine sZ 1200 ?_;refine AV w6 ?_;refine sZ 1300 ?_;refine AV (Ab e7' e8') ?_;refine Aq 1400 ?_;refine AF (CN wij w7 kN BW hz') ?_;rw[show(D.prim (Value.int IntKind.u64 (lo2:Int)))=AS lo2 from rfl,map_set];refine Aq 1500 ?_;refine AV wj ?_;refine⟨(j+1,c',q.set (i+j) lo2,_),⟨hj,e10,by dsimp only;rw[Db];exact g3,g4.set e11,?_,λk hk d hd=>?_⟩,by dsimp only;omega,AK⟩
   ·dsimp only
    have hs:=KL (d:=lo2) hz;rw[hbx,BO,<-FE (AT (a.take i)*AT b),<-g5];have h6:BB^(i+j)*lo2+BB^(i+(j+1))*c'=BB^i*x*(BB^j*y)+BB^(i+j)*z+BB^(i+j)*c:=by
     have:BB^i*x*(BB^j*y)=BB^(i+j)*(x*y):=by
      rw[Gl,B6,B6,JU x]
     rw[this,<-FE i j 1,CW,B6,<-BO,<-BO,<-BO,e12]
    omega
   ·dsimp only at hk hd
    rw[In (by omega)]at hd;exact g6 k hk d hd
  ·have hj:j=b.length:=by
    have:¬j<b.length:=by simpa using h30
    omega
   subst hj;obtain⟨z,hz⟩:∃z,q[i+b.length]?=some z:=⟨q[i+b.length],Cu⟩
   have hz0:z=0:=g6 _ (An _) _ hz;subst hz0;have hz':=Dy hz;have wij:IntKind.i64.wrap ((i:Int)+(b.length:Int))=((i+b.length:Nat):Int):=by rw[wI];omega
   have wij0:IntKind.i64.wrap ((i:Int)+(((b.map AS).length:Nat):Int))=((i+b.length:Nat):Int):=by rw[eb];exact wij
   refine CO ?_;refine Aq 1600 ?_;refine AF (CN eb wij kN BW hz') ?_;rw[map_set];refine Aq 1700 ?_;refine AV wi ?_;refine⟨(i+1,q.set (i+b.length) c,_),⟨hi,by dsimp only;rw[Db];exact g3,g4.set g2,?_,λk hk d hd=>?_⟩,by dsimp only;omega,AK⟩
   ·dsimp only
    have hs:=KL (d:=c) hz;rw[Cp (An _)]at g5;rw[hax,B0];omega
   ·dsimp only at hk hd
    rw[In (by omega)]at hd;exact g6 k (by omega) d hd
 ·have hi:i=a.length:=by
   have:¬i<a.length:=by simpa using h23
   omega
  subst hi;rw[Cp (An _)]at h4;refine CO ?_;refine AC.weak ⟨[(5,.sl false 1 (o.map AS))],[],_⟩ (WJ h2) ?_;refine sR 1800 ?_;refine BE.same _ (trim_ok o h3 (by omega)) AJ ?_;refine BR ?_;refine Ag ?_;exact AM (by rw[h4]) AA.out
structure GI where
 z:Int
 sm:Bool
def GI.wf (x:GI):Prop:=(x.sm=true→-9223372036854775808<=x.z/\x.z<9223372036854775808)/\(x.sm=false->¬Sm x.z)
def GI.s (x:GI):Int:=match x.sm with
 |true=>x.z
 |false=>if x.z<0 then -1 else 1
def GI.w (x:GI):D:=match x.sm with
 |true=>Cd
 |false=>wD x.z.natAbs
abbrev GI.D (x:GI):D:=.agg [i64 x.s,x.w]
theorem ye (x:GI):CK x.w:=by
 unfold GI.w;split
 ·exact .prim _
 ·exact LT _
instance  (x:GI):AA x.w:=⟨ye x⟩
instance  (z:Int):Decidable (Sm z):=inferInstanceAs (Decidable (_/\_))
def AY (z:Int):GI:=⟨z,decide (Sm z)⟩
theorem Cy (z:Int):(AY z).wf:=by
 refine⟨λh=>?_,λh=>?_⟩
 ·have h:Sm z:=DN h
  exact⟨Int.le_of_lt h.1,h.2⟩
 ·exact Ds h
theorem KQ {z:Int}(h:Sm z):AY z=⟨z,true⟩:=by unfold AY;rw[Ax h]
theorem V5 {z:Int}(h:¬Sm z):AY z=⟨z,false⟩:=by unfold AY;rw[A8 h]
theorem NM {n:Nat}(h0:n≠0)(h:n<BB):Af n=[n]:=by
 rw[Gw h0,Fr h,IJ h,GX]
theorem IY {n:Nat}(h:n≠0):(Af n).map AS≠[]:=by rw[Gw h];simp
theorem gi (x:GI)(h:x.wf):(x.s<0)=(x.z<0):=by
 obtain⟨z,sm⟩:=x;cases sm with
 |true=>rfl
 |false=>
  unfold GI.s;dsimp only;split<;>simp<;>omega
theorem zc {H Hf:Hp}(n:Nat)(h0:n≠0)(h:n<BB):Fz H Hf (.sl true 1 [AS n]) (wD n):=by
 unfold wD wL;rw[NM h0 h];exact .nn true 1 _
theorem gE {H Hf:Hp}{a b c d:D}(h:Fz H Hf a c)(k:Fz H Hf b d):Fz H Hf (.tup [a,b]) (.tup [c,d]):=.tup rfl λi x y hx hy=>by
 match i with
 | 0=>simp at hx hy;subst hx;subst hy;exact h
 | 1=>simp at hx hy;subst hx;subst hy;exact k
 |i+2=>simp at hx
instance  (a b:Nat):AA (.tup [wD a,wD b]):=AJ
theorem qo:AL C0 172 [i64 (-9223372036854775808)] (AS 9223372036854775808):=Cb D5 1000 40
theorem Pl {z:Int}(h1 : -9223372036854775808<=z)(h2:z<9223372036854775808):AL C0 172 [i64 z] (AS z.natAbs):=by
 by_cases h:z = -9223372036854775808
 ·subst h;exact qo
 ·exact tY z ⟨by omega,h2⟩
theorem KJ (x:GI)(h:x.wf):AL C0 147 [x.D] (.tup [Ap (decide (x.z<0)),wD x.z.natAbs]):=by
 refine Ad.walk w1 fL rfl λF=>?_
 obtain⟨z,sm⟩:=x;obtain⟨h1,h2⟩:=h;unfold GI.D GI.s GI.w;cases sm with
 |true=>
  obtain⟨h3,h4⟩:=h1 rfl;dsimp only at h3 h4⊢;have cs:=Pl h3 h4;refine sR 0 ?_;refine AC.seq ?_;refine AC.block ?_;refine sR 100 ?_;refine AO ?_;refine sR 300 ?_;refine AO ?_
  (refine B7 (λh13=>?_) (λh13=>?_))<;>(try simp only[Bs,B5]at h13)<;>(try simp only[h13])
  ·have hz:z=0:=by simpa using h13
   subst hz;refine sR 400 ?_;refine Ag ?_;refine⟨_,gE (.refl _) (c:=Ap (decide ((0:Int)<0))) (d:=wD (Int.natAbs 0)) ?_,AA.out,rfl⟩;show Fz _ _ Cd (wD 0);unfold wD wL;rw[GX];exact .nil 1
  ·have hz:z≠0:=by simpa using h13
   refine Am ?_;refine AC.seq ?_;refine CR 500 [0,1,2,3,4,5,6,7] [8] ?_;refine AF kN ?_;refine Bf.same _ cs AJ ?_;refine BR ?_;refine Ag ?_;refine⟨_,gE (.refl _) (c:=Ap (decide (z<0))) (zc z.natAbs (by omega) (by unfold BB;omega)),AA.out,rfl⟩
 |false=>
  have hb:=h2 rfl;have hs:=gi ⟨z,false⟩ ⟨h1,h2⟩;unfold GI.s at hs;dsimp only at hb hs⊢;have hne:=IY (n:=z.natAbs) (by intro h0;apply hb;exact⟨by omega,by omega⟩);have hp:CK (.sl false 1 ((Af z.natAbs).map AS)):=LT _;unfold wD wL;generalize(Af z.natAbs).map AS=l at*;generalize(if z<0 then(-1:Int)else 1)=sg at*;refine sR 0 ?_;refine AC.seq ?_;refine AC.block ?_;refine sZ 100 ?_;refine AV (Ar (@ne_eq (List D)) hne E5) ?_;refine AO ?_;refine AC.seq ?_;refine CR 200 [0,1,2,3,4,5] [6] ?_;refine BR ?_;refine Ag ?_;refine AM ?_ (.tup λd hd=>?_)
  ·simp only[hs]
  ·simp only[A9,Dv,or_false]at hd
   rcases hd with rfl|rfl
   ·exact .prim _
   ·exact hp
def EU (neg:Bool)(n:Nat):Int:=match neg with
 |true=>-(n:Int)
 |false=>n
theorem Mb (neg:Bool)(n:Nat)(hlen:(Af n).length<4000000):AL C0 173 [Ap neg,wD n] (AY (EU neg n)).D:=by
 refine Ad.walk w1 fX rfl λF=>?_
 by_cases h0:n=0
 ·subst h0
  have e:AY (EU neg 0)=⟨0,true⟩:=by cases neg<;>exact KQ ⟨by decide,by decide⟩
  rw[e];unfold wD wL GI.D GI.s GI.w;rw[GX];dsimp only[List.map];refine sR 0 ?_;refine AC.seq ?_;refine AC.block ?_;refine sR 100 ?_;refine AO ?_;refine sR 200 ?_;refine Ag ?_;exact AM rfl AA.out
 ·by_cases h1:n<BB
  ·have hl:=NM h0 h1
   have b1:(((1:Nat):Int)==0)=false:=rfl;have b2:(((1:Nat):Int)==1)=true:=rfl;have hx:[AS n][(0:Int).toNat]?=some (AS n):=rfl
   by_cases h2:n<=9223372036854775807
   ·have b3:decide ((n:Int)<=9223372036854775807)=true:=BX
    have hsm:Sm (EU neg n):=by unfold EU;split<;>exact⟨by omega,by omega⟩
    rw[KQ hsm];unfold wD wL GI.D GI.s GI.w;rw[hl];dsimp only[List.map];have w1':IntKind.i64.wrap (n:Int)=(n:Int):=wN h2;have w2':IntKind.i64.wrap (0-(n:Int)) = -(n:Int):=by rw[wI];omega
    cases neg with
    |true=>
     unfold EU;dsimp only;refine sR 0 ?_;refine AC.seq ?_;refine AC.block ?_;refine sZ 100 ?_;refine AV b1 ?_;refine AO ?_;refine sZ 300 ?_;refine AF (Ab b2 b3) ?_;refine AF (Ab b2 b3) ?_;refine B3 b2 hx ?_;refine AF (Ab b2 b3) ?_;refine AF (Ab b2 b3) ?_;refine AO ?_;refine sZ 400 ?_;refine AF b2 ?_;refine B3 b2 hx ?_;refine AF (Ab w1' w2') ?_;refine Ag ?_;exact AM rfl AA.out
    |false=>
     unfold EU;dsimp only;refine sR 0 ?_;refine AC.seq ?_;refine AC.block ?_;refine sZ 100 ?_;refine AV b1 ?_;refine AO ?_;refine sZ 300 ?_;refine AF (Ab b2 b3) ?_;refine AF (Ab b2 b3) ?_;refine B3 b2 hx ?_;refine AF (Ab b2 b3) ?_;refine AF (Ab b2 b3) ?_;refine AO ?_;refine sZ 500 ?_;refine AF (Ab b2 b3) ?_;refine AF (Ab b2 b3) ?_;refine B3 b2 hx ?_;refine AF (Ab b2 b3) ?_;refine AF (Ab b2 b3) ?_;refine AO ?_;refine sZ 600 ?_;refine AF b2 ?_;refine B3 b2 hx ?_;refine AF (Ab w1' w2') ?_;refine Ag ?_;exact AM rfl AA.out
   ·have b3:decide ((n:Int)<=9223372036854775807)=false:=Bc
    have hsm:¬Sm (EU neg n):=by
     intro hs;have h3:=hs.1;have h4:=hs.2
     revert h3 h4
     unfold EU;split<;>intro h3 h4<;>omega
    rw[V5 hsm];have ha:(EU neg n).natAbs=n:=by unfold EU;split<;>omega
    unfold GI.D GI.s GI.w;dsimp only;rw[ha];unfold wD wL;rw[hl];dsimp only[List.map];cases neg with
    |true=>
     have hs:(if EU true n<0 then(-1:Int)else 1) = -1:=AI (by show -(n:Int)<0;omega);rw[hs];refine sR 0 ?_;refine AC.seq ?_;refine AC.block ?_;refine sZ 100 ?_;refine AV b1 ?_;refine AO ?_;refine sZ 300 ?_;refine AF (Ab b2 b3) ?_;refine AF (Ab b2 b3) ?_;refine B3 b2 hx ?_;refine AF (Ab b2 b3) ?_;refine AF (Ab b2 b3) ?_;refine AO ?_;refine sZ 500 ?_;refine AF (Ab b2 b3) ?_;refine AF (Ab b2 b3) ?_;refine B3 b2 hx ?_;refine AF (Ab b2 b3) ?_;refine AF (Ab b2 b3) ?_;refine AO ?_;refine sR 700 ?_;refine AO ?_;refine sR 800 ?_;refine Ag ?_;exact AM rfl AA.out
    |false=>
     have hs:(if EU false n<0 then(-1:Int)else 1)=1:=AG (by show ¬(n:Int)<0;omega);rw[hs];refine sR 0 ?_;refine AC.seq ?_;refine AC.block ?_;refine sZ 100 ?_;refine AV b1 ?_;refine AO ?_;refine sZ 300 ?_;refine AF (Ab b2 b3) ?_;refine AF (Ab b2 b3) ?_;refine B3 b2 hx ?_;refine AF (Ab b2 b3) ?_;refine AF (Ab b2 b3) ?_;refine AO ?_;refine sZ 500 ?_;refine AF (Ab b2 b3) ?_;refine AF (Ab b2 b3) ?_;refine B3 b2 hx ?_;refine AF (Ab b2 b3) ?_;refine AF (Ab b2 b3) ?_;refine AO ?_;refine sR 700 ?_;refine AO ?_;refine Am ?_;refine sR 900 ?_;refine Ag ?_;exact AM rfl AA.out
  ·have hl2:2<=(Af n).length:=by
    rw[Gw h0,Gw (n:=n/BB) (by
     intro h
     have:=FG n BB
     have:=CI n (show BB>0 by decide)
     rw[h]at*;omega)]
    simp
   have hsm:¬Sm (EU neg n):=by
    intro hs;have h3:=hs.1;have h4:=hs.2;have h5:BB<=n:=by omega
    unfold BB at h5
    revert h3 h4
    unfold EU;split<;>intro h3 h4<;>omega
   rw[V5 hsm];have ha:(EU neg n).natAbs=n:=by unfold EU;split<;>omega
   have hp:AA (.sl false 1 ((Af n).map AS)):=⟨LT _⟩
   unfold GI.D GI.s GI.w;dsimp only;rw[ha];unfold wD wL;have hel:((((Af n).map AS).length:Nat):Int)=((Af n).length:Int):=by rw[Ae]
   generalize(Af n).map AS=l at*;generalize hL:(Af n).length=L at*;have b1:((L:Int)==0)=false:=B4.2 (by omega);have b2:((L:Int)==1)=false:=B4.2 (by omega);cases neg with
   |true=>
    have hs:(if EU true n<0 then(-1:Int)else 1) = -1:=AI (by show -(n:Int)<0;omega);rw[hs];refine sR 0 ?_;refine AC.seq ?_;refine AC.block ?_;refine sZ 100 ?_;refine AV (Ab hel b1) ?_;refine AO ?_;refine sZ 300 ?_;refine AV (Ab hel b2) ?_;refine AF (Ab hel b2) ?_;refine AF (Ab hel b2) ?_;refine AO ?_;refine sZ 500 ?_;refine AV (Ab hel b2) ?_;refine AF (Ab hel b2) ?_;refine AO ?_;refine sR 700 ?_;refine AO ?_;refine sR 800 ?_;refine Ag ?_;exact AM rfl AA.out
   |false=>
    have hs:(if EU false n<0 then(-1:Int)else 1)=1:=AG (by show ¬(n:Int)<0;omega);rw[hs];refine sR 0 ?_;refine AC.seq ?_;refine AC.block ?_;refine sZ 100 ?_;refine AV (Ab hel b1) ?_;refine AO ?_;refine sZ 300 ?_;refine AV (Ab hel b2) ?_;refine AF (Ab hel b2) ?_;refine AF (Ab hel b2) ?_;refine AO ?_;refine sZ 500 ?_;refine AV (Ab hel b2) ?_;refine AF (Ab hel b2) ?_;refine AO ?_;refine sR 700 ?_;refine AO ?_;refine Am ?_;refine sR 900 ?_;refine Ag ?_;exact AM rfl AA.out
theorem N4 (x:GI)(h:x.wf):AL C0 168 [x.D] (i64 (max (-1) (min 1 x.z))):=by
 refine Ad.walk w1 fT rfl λF=>?_
 have e:max (-1) (min 1 x.s)=max (-1) (min 1 x.z):=by
  obtain⟨z,sm⟩:=x;cases sm with
  |true=>rfl
  |false=>
   have hb:=h.2 rfl;unfold GI.s;dsimp only at hb⊢;unfold Sm at hb;split<;>omega
 refine fR 0 ?_;refine fR 100 ?_;rw[e];refine Ag ?_;exact AM rfl AA.out
theorem qm (z:Int):EU (!decide (z<0)) z.natAbs = -z:=by
 by_cases h:z<0
 ·rw[Ax h];show((z.natAbs:Nat):Int) = -z;omega
 ·rw[A8 h];show -((z.natAbs:Nat):Int) = -z;omega
def GI.few (x:GI):Prop:=(Af x.z.natAbs).length<1000000
theorem Pz (x:GI)(h:x.wf)(hf:x.few):AL C0 167 [x.D] (AY (-x.z)).D:=by
 by_cases hs:x.sm=true/\x.z ≠ -9223372036854775808
 ·obtain⟨z,sm⟩:=x
  obtain⟨rfl,hz⟩:=hs;have h1:=h.1 rfl;dsimp only at h1 hz⊢;have hsm:Sm z:=⟨by omega,h1.2⟩
  have:=xq z hsm
  rw[KQ ⟨by have:=hsm.2;omega,by have:=hsm.1;omega⟩];exact this
 ·refine Ad.walk w1 Vu rfl λF=>?_
  have cp:=KJ x h;have cm:=Mb (!decide (x.z<0)) x.z.natAbs (Gk hf (by decide));rw[qm]at cm;have hpr:AA (AY (-x.z)).w:=AJ;dsimp only[GI.D]at cp cm⊢;generalize(AY (-x.z)).s=rs at*;generalize(AY (-x.z)).w=rw at*;obtain⟨z,sm⟩:=x;unfold GI.s GI.w at*;cases sm with
  |true=>
   have hz:z = -9223372036854775808:=DG λh0=>hs ⟨rfl,h0⟩
   subst hz;dsimp only at cp cm⊢;refine fR 0 ?_;refine AC.seq ?_;refine sZ 100 ?_
   repeat'(first|(refine BK (by exact CL) ?_;refine BM ?_)|((refine B7 (λhb=>?_) (λhb=>?_))<;>(try simp only[Bs,B5]at hb)<;>(try simp only[hb])<;>(refine BM ?_)))
   refine AO ?_;refine Am ?_;refine fR 300 ?_;refine dI cp ?_;refine fR 400 ?_;refine dI cm ?_;refine Ag ?_;exact AM rfl AA.out
  |false=>
   have hne:=IY (n:=z.natAbs) (by
    intro h0
    have:=h.2 rfl
    apply this;exact⟨by dsimp only;omega,by dsimp only;omega⟩)
   dsimp only at cp cm⊢;unfold wD wL at*;have hp:AA (.sl false 1 ((Af z.natAbs).map AS)):=⟨LT _⟩
   generalize(Af z.natAbs).map AS=l at*;generalize(if z<0 then(-1:Int)else 1)=sg at*;generalize decide (z<0)=nb at*;refine fR 0 ?_;refine AC.seq ?_;refine AC.seq ?_;refine Aq 100 ?_;refine AV (Ar (@ne_eq (List D)) hne E5) ?_;refine AF kT ?_;refine AF kT ?_;refine AO ?_;refine Am ?_;refine fR 300 ?_;refine dI cp ?_;refine fR 400 ?_;refine dI cm ?_;refine Ag ?_;exact AM rfl AA.out
theorem e0g (a b:Nat)(ha:(Af a).length<1000000)(hb:(Af b).length<1000000):AL C0 175 [wD a,wD b] (wD (a+b)):=by
 have:=r7 (Af a) (Af b) (F3 a) (F3 b) (Gk ha (by decide)) (Gk hb (by decide))
 rwa [Fc,Fc]at this
theorem jo (a b:Nat)(h:b<=a)(ha:(Af a).length<1000000):AL C0 177 [wD a,wD b] (wD (a-b)):=by
 have:=tc (Af a) (Af b) (F3 a) (F3 b) (Gk ha (by decide)) (IS b a h) (by rw[Fc,Fc];exact h)
 rwa [Fc,Fc]at this
theorem e0I (a b:Nat)(ha:(Af a).length<1000000)(hb:(Af b).length<1000000):AL C0 174 [wD a,wD b] (wD (a*b)):=by
 have:=tD (Af a) (Af b) (F3 a) (F3 b) ha hb
 rwa [Fc,Fc]at this
theorem Hn {n k:Nat}(h:n<BB^k):(Af n).length<=k:=by
 induction k generalizing n with
 |zero=>
  have:n=0:=by simpa using h
  subst this;rw[GX];exact An _
 |succ k ih=>
  by_cases h0:n=0
  ·subst h0;rw[GX];exact BT _
  ·rw[Gw h0,Br]
   exact Nat.succ_le_succ (ih (Fq (by rw[Ba,<-CW];exact h)))
theorem KI (n:Nat):n<BB^(Af n).length:=by
 have:=IV (F3 n)
 rwa [Fc]at this
theorem ZF (a b:Nat):(Af (a+b)).length<=max (Af a).length (Af b).length+1:=by
 refine Hn ?_;have h1:=KI a;have h2:=KI b;have m1:BB^(Af a).length<=BB^max (Af a).length (Af b).length:=FT (by decide) (Nat.le_max_left _ _);have m2:BB^(Af b).length<=BB^max (Af a).length (Af b).length:=FT (by decide) (Nat.le_max_right _ _);rw[CW];generalize BB^max (Af a).length (Af b).length=q at*;unfold BB;omega
theorem ZG (a b:Nat):(Af (a-b)).length<=(Af a).length:=IS _ _ (Nat.sub_le _ _)
def Ei (x y:GI):GI:=if x.sm=true/\y.sm=true/\x.z+y.z = -9223372036854775808 then⟨x.z+y.z,true⟩else AY (x.z+y.z)
theorem Nu (x y:GI):(Ei x y).z=x.z+y.z:=by unfold Ei;split<;>rfl
theorem Nd (x y:GI):(Ei x y).wf:=by
 unfold Ei;split
 ·rename_i h
  refine⟨λ_=>?_,λh=>by cases h⟩;dsimp only;rw[h.2.2];decide
 ·exact Cy _
theorem nF (x y:GI)(hx:x.sm=true)(hy:y.sm=true)(h1 : -9223372036854775808<=x.z+y.z)(h2:x.z+y.z<9223372036854775808):AL C0 123 [x.D,y.D] (Ei x y).D:=by
 obtain⟨a,sa⟩:=x;obtain⟨b,sb⟩:=y;dsimp only at hx hy h1 h2;subst hx;subst hy;have e:(Ei ⟨a,true⟩ ⟨b,true⟩).D=DM (a+b):=by
  unfold Ei;dsimp only;split
  ·rfl
  ·rename_i h
   have h3:¬a+b = -9223372036854775808:=λh0=>h ⟨rfl,rfl,h0⟩
   rw[KQ ⟨by omega,h2⟩];rfl
 rw[e];show AL C0 _ [DM a,DM b] _;refine Ad.walk w1 Vs rfl λF=>?_
 refine fR 0 ?_;refine AC.seq ?_;refine sZ 100 ?_
 repeat'(first|(refine BK (by exact CL) ?_;refine BM ?_)|((refine B7 (λhb=>?_) (λhb=>?_))<;>(try simp only[Bs,B5]at hb)<;>(try simp only[hb])<;>(refine BM ?_)))
 refine AO ?_;have e1:IntKind.i64.wrap (a+b)=a+b:=wI;have e2:(decide (a+b>a)==decide (b>0))=true:=by
  rw[Ek,DO];omega
 refine sZ 200 ?_;refine K4 e1 ?_;refine fR 300 ?_;rw[e2];refine AO ?_;refine fR 400 ?_;refine Ag ?_;exact AM rfl AA.out
theorem r6 (x y:GI)(hx:x.wf)(hy:y.wf)(fx:x.few)(fy:y.few)(hn:¬(x.sm=true/\y.sm=true∧-9223372036854775808<=x.z+y.z/\x.z+y.z<9223372036854775808)):AL C0 123 [x.D,y.D] (AY (x.z+y.z)).D:=by
 refine Ad.walk w1 Vs rfl λF=>?_
 have cx:=KJ x hx;have cy:=KJ y hy;have hpr:AA (AY (x.z+y.z)).w:=AJ;have hpx:AA x.w:=AJ;have hpy:AA y.w:=AJ;have la:=ZF x.z.natAbs y.z.natAbs;have ls:=ZG x.z.natAbs y.z.natAbs;have ls':=ZG y.z.natAbs x.z.natAbs;unfold GI.few at fx fy;dsimp only[GI.D]at*;refine fR 0 ?_;refine EI ⟨[(2,.optr 0 0 2 0 0),(3,.optr 1 1 2 0 0),(4,.optr 2 2 2 0 0)],[⟨2,2,122,2,[DM 0]⟩,⟨1,1,122,2,[.agg [i64 y.s,y.w]]⟩,⟨0,0,122,2,[.agg [i64 x.s,x.w]]⟩],60⟩ ?_ ?_
 ·obtain⟨a,sa⟩:=x
  obtain⟨b,sb⟩:=y;clear cx cy la ls ls' hpr;have nx:sa=false->(Af a.natAbs).map AS≠[]:=λh=>IY (by
   intro h0;subst h;exact hx.2 rfl ⟨by dsimp only;omega,by dsimp only;omega⟩)
  have ny:sb=false->(Af b.natAbs).map AS≠[]:=λh=>IY (by
   intro h0;subst h;exact hy.2 rfl ⟨by dsimp only;omega,by dsimp only;omega⟩)
  unfold GI.s GI.w wD wL at*;dsimp only at*;generalize(Af a.natAbs).map AS=ka at*;generalize(Af b.natAbs).map AS=kb at*;cases sa with
  |false=>
   have nx:=nx rfl;dsimp only at*;generalize(if a<0 then(-1:Int)else 1)=sg at*;generalize(match sb with|true=>b|false=>if b<0 then(-1:Int)else 1)=sh at*;generalize(match sb with|true=>Cd|false=>D.sl false 1 kb)=wy at*;refine AC.seq ?_;refine Aq 100 ?_;refine AV (Ar (@ne_eq (List D)) nx E5) ?_;refine AF kT ?_;refine AF kT ?_;refine AO ?_;refine Am ?_;exact BK (by trivial) (AK)
  |true=>
   dsimp only at*;cases sb with
   |false=>
    have ny:=ny rfl;dsimp only at*;generalize(if b<0 then(-1:Int)else 1)=sh at*;refine AC.seq ?_;refine Aq 100 ?_;refine AV (Ar (@ne_eq (List D)) ny E5) ?_;refine AF (Bb kT (@ne_eq (List D)) ny E5) ?_;refine AF (Bb kT (@ne_eq (List D)) ny E5) ?_;refine AO ?_;refine Am ?_;exact BK (by trivial) (AK)
   |true=>
    have ra:=hx.1 rfl;have rb:=hy.1 rfl;dsimp only at*;have e2:(decide (IntKind.i64.wrap (a+b)>a)==decide (b>0))=false:=by
     have hov:¬(-9223372036854775808<=a+b/\a+b<9223372036854775808):=λh=>hn ⟨rfl,rfl,h.1,h.2⟩
     have ew:IntKind.i64.wrap (a+b)=a+b-18446744073709551616/\9223372036854775808<=a+b\/IntKind.i64.wrap (a+b)=a+b+18446744073709551616/\a+b < -9223372036854775808:=by
      have e1:(2:Int)^IntKind.i64.bits=18446744073709551616:=rfl;have e2:(2:Int)^(IntKind.i64.bits-1)=9223372036854775808:=rfl;have e3:IntKind.i64.signed=true:=rfl;unfold IntKind.wrap;simp only[e1,e2,e3,HI,HH];split<;>omega
     rw[B4,ne_eq,DO];omega
    refine sZ 100 ?_
    repeat'(first|(refine BK (by exact CL) ?_;refine BM ?_)|((refine B7 (λhb=>?_) (λhb=>?_))<;>(try simp only[Bs,B5]at hb)<;>(try simp only[hb])<;>(refine BM ?_)))
    refine AO ?_;refine fR 200 ?_;refine fR 300 ?_;rw[e2];refine AO ?_;refine Am ?_;exact BK (by trivial) (AK)
 ·refine fR 500 ?_
  refine dI cx ?_;refine fR 600 ?_;refine dI cy ?_;refine AC.seq ?_;refine AC.block ?_;refine fR 700 ?_
  by_cases hs:(decide (x.z<0))=(decide (y.z<0))
  ·have e1:(decide (x.z<0)==decide (y.z<0))=true:=Ek.2 hs
   rw[e1];have ca:=e0g x.z.natAbs y.z.natAbs fx fy;have cm:=Mb (decide (x.z<0)) (x.z.natAbs+y.z.natAbs) (by omega);have ez:EU (decide (x.z<0)) (x.z.natAbs+y.z.natAbs)=x.z+y.z:=by
    rw[DO]at hs
    by_cases h:x.z<0
    ·rw[Ax h];have:=hs.1 h;show -(((x.z.natAbs+y.z.natAbs:Nat)):Int)=_;omega
    ·rw[A8 h];have:¬y.z<0:=λh0=>h (hs.2 h0);show(((x.z.natAbs+y.z.natAbs:Nat)):Int)=_;omega
   rw[ez]at cm;dsimp only[GI.D]at cm;refine AO ?_;refine fR 800 ?_;refine dI ca ?_;refine dI cm ?_;refine Ag ?_;exact AM rfl AA.out
  ·have e1:(decide (x.z<0)==decide (y.z<0))=false:=B4.2 hs
   rw[e1];have cc:=Rj x.z.natAbs y.z.natAbs (by omega) (by omega);refine AO ?_;refine fR 900 ?_;refine dI cc ?_
   by_cases hc:y.z.natAbs<=x.z.natAbs
   ·have e2:decide (ES (x.z.natAbs:Nat) (y.z.natAbs:Nat)>=0)=true:=Ax (by unfold ES;split<;>(try split)<;>omega)
    rw[e2];have ca:=jo x.z.natAbs y.z.natAbs hc fx;have cm:=Mb (decide (x.z<0)) (x.z.natAbs-y.z.natAbs) (by omega);have ez:EU (decide (x.z<0)) (x.z.natAbs-y.z.natAbs)=x.z+y.z:=by
     rw[DO]at hs
     by_cases h:x.z<0
     ·rw[Ax h];have:¬y.z<0:=λh0=>hs ⟨λ_=>h0,λ_=>h⟩;show -(((x.z.natAbs-y.z.natAbs:Nat)):Int)=_;omega
     ·rw[A8 h];have:y.z<0:=DG λh0=>hs ⟨λh1=>Ak h1 h,λh1=>Ak h1 h0⟩;show(((x.z.natAbs-y.z.natAbs:Nat)):Int)=_;omega
    rw[ez]at cm;dsimp only[GI.D]at cm;refine AO ?_;refine fR 1000 ?_;refine dI ca ?_;refine dI cm ?_;refine Ag ?_;exact AM rfl AA.out
   ·have e2:decide (ES (x.z.natAbs:Nat) (y.z.natAbs:Nat)>=0)=false:=A8 (by unfold ES;split<;>(try split)<;>omega)
    rw[e2];have ca:=jo y.z.natAbs x.z.natAbs (by omega) fy;have cm:=Mb (decide (y.z<0)) (y.z.natAbs-x.z.natAbs) (by omega);have ez:EU (decide (y.z<0)) (y.z.natAbs-x.z.natAbs)=x.z+y.z:=by
     rw[DO]at hs
     by_cases h:y.z<0
     ·rw[Ax h];have:¬x.z<0:=λh0=>hs ⟨λ_=>h,λ_=>h0⟩;show -(((y.z.natAbs-x.z.natAbs:Nat)):Int)=_;omega
     ·rw[A8 h];have:x.z<0:=DG λh0=>hs ⟨λh1=>Ak h1 h0,λh1=>Ak h1 h⟩;show(((y.z.natAbs-x.z.natAbs:Nat)):Int)=_;omega
    rw[ez]at cm;dsimp only[GI.D]at cm;refine AO ?_;refine Am ?_;refine fR 1100 ?_;refine dI ca ?_;refine dI cm ?_;refine Ag ?_;exact AM rfl AA.out
theorem Pt (x y:GI)(hx:x.wf)(hy:y.wf)(fx:x.few)(fy:y.few):AL C0 123 [x.D,y.D] (Ei x y).D:=by
 by_cases h:x.sm=true/\y.sm=true∧-9223372036854775808<=x.z+y.z/\x.z+y.z<9223372036854775808
 ·exact nF x y h.1 h.2.1 h.2.2.1 h.2.2.2
 ·have:=r6 x y hx hy fx fy h
  have e:Ei x y=AY (x.z+y.z):=by
   unfold Ei;rw[AG];rintro⟨h1,h2,h3⟩;exact h ⟨h1,h2,by omega,by omega⟩
  rw[e];exact this
theorem bE {z:Int}(h:(Af z.natAbs).length<1000000):(AY (-z)).few:=by
 show(Af (-z).natAbs).length<1000000;rw[M8];exact h
def JP (x y:GI):GI:=Ei x (AY (-y.z))
theorem fv (x y:GI):(JP x y).z=x.z-y.z:=by unfold JP;rw[Nu];show x.z + -y.z=_;omega
theorem be (x y:GI):(JP x y).wf:=Nd _ _
theorem jU (x y:GI)(hx:x.wf)(hy:y.wf)(fx:x.few)(fy:y.few):AL C0 252 [x.D,y.D] (JP x y).D:=by
 refine Ad.walk w1 eG rfl λF=>?_
 have c1:=Pz y hy fy;have c2:=Pt x (AY (-y.z)) hx (Cy _) fx (bE fy);unfold JP;refine fR 0 ?_;refine AC.seq ?_;refine CR 100 [0,1,2] [3,4] ?_;refine CQ ?_;refine Bf.same _ (c1) AJ ?_;refine CQ ?_;refine dI c2 ?_;refine Ag ?_;exact AM rfl AA.out
theorem zF (x y:GI)(hx:x.wf)(hy:y.wf)(fx:x.few)(fy:y.few):AL C0 233 [x.D,y.D] (i64 (ES x.z y.z)):=by
 by_cases h:x.sm=true/\y.sm=true
 ·obtain⟨a,sa⟩:=x
  obtain⟨b,sb⟩:=y;obtain⟨h1,h2⟩:=h;dsimp only at h1 h2;subst h1;subst h2;exact s6 a b
 ·have cs:=jU x y hx hy fx fy
  have cg:=N4 (JP x y) (be x y);rw[fv]at cg;have e:max (-1) (min 1 (x.z-y.z))=ES x.z y.z:=by unfold ES;split<;>(try split)<;>omega
  rw[e]at cg;have hpr:AA (JP x y).w:=AJ;have hpx:AA x.w:=AJ;have hpy:AA y.w:=AJ;dsimp only[GI.D]at*;generalize(JP x y).s=rs at*;generalize(JP x y).w=rw at*;generalize ES x.z y.z=r at*;refine Ad.walk w1 Vw rfl λF=>?_
  obtain⟨a,sa⟩:=x;obtain⟨b,sb⟩:=y;have nx:sa=false->(Af a.natAbs).map AS≠[]:=λh=>IY (by
   intro h0;subst h;exact hx.2 rfl ⟨by dsimp only;omega,by dsimp only;omega⟩)
  have ny:sb=false->(Af b.natAbs).map AS≠[]:=λh=>IY (by
   intro h0;subst h;exact hy.2 rfl ⟨by dsimp only;omega,by dsimp only;omega⟩)
  unfold GI.s GI.w wD wL at*;dsimp only at*;generalize(Af a.natAbs).map AS=ka at*;generalize(Af b.natAbs).map AS=kb at*;cases sa with
  |false=>
   have nx:=nx rfl;dsimp only at*;generalize(if a<0 then(-1:Int)else 1)=sg at*;generalize(match sb with|true=>b|false=>if b<0 then(-1:Int)else 1)=sh at*;generalize(match sb with|true=>Cd|false=>D.sl false 1 kb)=wy at*;refine fR 0 ?_;refine AC.seq ?_;refine AC.seq ?_;refine Aq 100 ?_;refine AV (Ar (@ne_eq (List D)) nx E5) ?_;refine AF kT ?_;refine AF kT ?_;refine AO ?_;refine Am ?_;refine fR 700 ?_;refine dI cs ?_;refine dI cg ?_;refine Ag ?_;exact AM rfl AA.out
  |true=>
   dsimp only at*;cases sb with
   |false=>
    have ny:=ny rfl;dsimp only at*;generalize(if b<0 then(-1:Int)else 1)=sh at*;refine fR 0 ?_;refine AC.seq ?_;refine AC.seq ?_;refine Aq 100 ?_;refine AV (Ar (@ne_eq (List D)) ny E5) ?_;refine AF (Bb kT (@ne_eq (List D)) ny E5) ?_;refine AF (Bb kT (@ne_eq (List D)) ny E5) ?_;refine AO ?_;refine Am ?_;refine fR 700 ?_;refine dI cs ?_;refine dI cg ?_;refine Ag ?_;exact AM rfl AA.out
   |true=>exact Ak ⟨rfl,rfl⟩ h
theorem MM (a b:Nat):(Af (a*b)).length<=(Af a).length+(Af b).length:=by
 refine Hn ?_;rw[Gl];exact Nat.mul_lt_mul'' (KI a) (KI b)
theorem ql (a b:Int):EU (decide (a<0) != decide (b<0)) (a.natAbs*b.natAbs)=a*b:=by
 rw[<-Kt]
 by_cases h1:a<0<;>by_cases h2:b<0
 ·rw[Ax h1,Ax h2]
  have:0<=a*b:=Int.mul_nonneg_of_nonpos_of_nonpos (by omega) (by omega)
  show(((a*b).natAbs:Nat):Int)=a*b;omega
 ·rw[Ax h1,A8 h2]
  have:a*b<=0:=Int.mul_nonpos_of_nonpos_of_nonneg (by omega) (by omega)
  show -(((a*b).natAbs:Nat):Int)=a*b;omega
 ·rw[A8 h1,Ax h2]
  have:a*b<=0:=Int.mul_nonpos_of_nonneg_of_nonpos (by omega) (by omega)
  show -(((a*b).natAbs:Nat):Int)=a*b;omega
 ·rw[A8 h1,A8 h2]
  have:0<=a*b:=Int.mul_nonneg (by omega) (by omega)
  show(((a*b).natAbs:Nat):Int)=a*b;omega
theorem tC (x y:GI)(hx:x.wf)(hy:y.wf)(fx:(Af x.z.natAbs).length<400000)(fy:(Af y.z.natAbs).length<400000)(hn:¬(x.sm=true/\y.sm=true/\(x.z*y.z).natAbs<=9223372036854775807)):AL C0 121 [x.D,y.D] (AY (x.z*y.z)).D:=by
 refine Ad.walk w1 Vr rfl λF=>?_
 have cx:=KJ x hx;have cy:=KJ y hy;have hpr:AA (AY (x.z*y.z)).w:=AJ;have hpx:AA x.w:=AJ;have hpy:AA y.w:=AJ;have lm:=MM x.z.natAbs y.z.natAbs;have ca:=e0I x.z.natAbs y.z.natAbs (by omega) (by omega);have cm:=Mb (decide (x.z<0) != decide (y.z<0)) (x.z.natAbs*y.z.natAbs) (by omega);rw[ql]at cm;dsimp only[GI.D]at*;refine fR 0 ?_;refine EI ⟨[(2,.optr 0 0 2 0 0),(3,.optr 1 1 2 0 0),(4,.optr 2 2 2 0 0)],[⟨2,2,122,2,[DM 0]⟩,⟨1,1,122,2,[.agg [i64 y.s,y.w]]⟩,⟨0,0,122,2,[.agg [i64 x.s,x.w]]⟩],90⟩ ?_ ?_
 ·obtain⟨a,sa⟩:=x
  obtain⟨b,sb⟩:=y;clear cx cy lm ca cm hpr;have nx:sa=false->(Af a.natAbs).map AS≠[]:=λh=>IY (by
   intro h0;subst h;exact hx.2 rfl ⟨by dsimp only;omega,by dsimp only;omega⟩)
  have ny:sb=false->(Af b.natAbs).map AS≠[]:=λh=>IY (by
   intro h0;subst h;exact hy.2 rfl ⟨by dsimp only;omega,by dsimp only;omega⟩)
  unfold GI.s GI.w wD wL at*;dsimp only at*;generalize(Af a.natAbs).map AS=ka at*;generalize(Af b.natAbs).map AS=kb at*;cases sa with
  |false=>
   have nx:=nx rfl;dsimp only at*;generalize(if a<0 then(-1:Int)else 1)=sg at*;generalize(match sb with|true=>b|false=>if b<0 then(-1:Int)else 1)=sh at*;generalize(match sb with|true=>Cd|false=>D.sl false 1 kb)=wy at*;refine AC.seq ?_;refine Aq 100 ?_;refine AV (Ar (@ne_eq (List D)) nx E5) ?_;refine AF kT ?_;refine AF kT ?_;refine AO ?_;refine Am ?_;exact BK (by trivial) (AK)
  |true=>
   dsimp only at*;cases sb with
   |false=>
    have ny:=ny rfl;dsimp only at*;generalize(if b<0 then(-1:Int)else 1)=sh at*;refine AC.seq ?_;refine Aq 100 ?_;refine AV (Ar (@ne_eq (List D)) ny E5) ?_;refine AF (Bb kT (@ne_eq (List D)) ny E5) ?_;refine AF (Bb kT (@ne_eq (List D)) ny E5) ?_;refine AO ?_;refine Am ?_;exact BK (by trivial) (AK)
   |true=>
    have ra:=hx.1 rfl;have rb:=hy.1 rfl;dsimp only at*;have sa:=Pl ra.1 ra.2;have sb:=Pl rb.1 rb.2;have la:a.natAbs<BB:=by unfold BB;omega
    have lb:b.natAbs<BB:=by unfold BB;omega
    have c0:=PK a.natAbs b.natAbs la lb;have hab:a.natAbs*b.natAbs=(a*b).natAbs:=(Kt a b).symm;have hbig:9223372036854775807<(a*b).natAbs:=DG λh=>hn ⟨rfl,rfl,by omega⟩
    rw[hab]at c0;generalize(a*b).natAbs=p at*;refine sZ 100 ?_
    repeat'(first|(refine BK (by exact CL) ?_;refine BM ?_)|((refine B7 (λhb=>?_) (λhb=>?_))<;>(try simp only[Bs,B5]at hb)<;>(try simp only[hb])<;>(refine BM ?_)))
    refine AO ?_;refine AC.seq ?_;refine CR 200 [0,1,2,3,4,5,6,7,8,9,10] [11] ?_;refine CQ ?_;refine Bf.same _ (sa) AJ ?_;refine CQ ?_;refine Bf.same _ (sb) AJ ?_;refine CQ ?_;refine Bf.same _ (c0) AJ ?_;refine CQ ?_;refine AC.seq ?_
    by_cases h0:p/18446744073709551616=0
    ·rw[h0]
     have h1:p%18446744073709551616=p:=by omega
     rw[h1];have e3:decide ((p:Int)<=9223372036854775807)=false:=Bc;refine Aq 300 ?_
     repeat'(first|(refine BK (by exact CL) ?_;refine BM ?_)|((refine B7 (λhb=>?_) (λhb=>?_))<;>(try simp only[Bs,B5]at hb)<;>(try simp only[hb])<;>(refine BM ?_)))
     rw[e3];refine AO ?_;refine Am ?_;exact BK (by trivial) (AK)
    ·have e3:(((p/18446744073709551616:Nat):Int)==0)=false:=B4.2 (by omega)
     refine Aq 300 ?_;refine AV e3 ?_;refine AF e3 ?_;refine AF e3 ?_;refine AO ?_;refine Am ?_;exact BK (by trivial) (AK)
 ·refine fR 700 ?_
  refine dI cx ?_;refine fR 800 ?_;refine dI cy ?_;refine fR 900 ?_;refine dI ca ?_;refine dI cm ?_;refine Ag ?_;exact AM rfl AA.out
theorem oG (a b:Int)(hc:Sm (a*b))(ha : -9223372036854775808<=a/\a<9223372036854775808)(hb : -9223372036854775808<=b/\b<9223372036854775808):AL C0 121 [DM a,DM b] (DM (a*b)):=by
 refine Ad.walk w1 Vr rfl λF=>?_
 have hab:a.natAbs*b.natAbs=(a*b).natAbs:=(Kt a b).symm;have h1:a.natAbs*b.natAbs/18446744073709551616=0:=by rw[hab];have:=hc.1;have:=hc.2;omega
 have h2:a.natAbs*b.natAbs%18446744073709551616=(a*b).natAbs:=by rw[hab];have:=hc.1;have:=hc.2;omega
 have c0:=PK a.natAbs b.natAbs (by omega) (by omega);rw[h1,h2]at c0;refine fR 0 ?_;refine AC.seq ?_;refine sZ 100 ?_
 repeat'(first|(refine BK (by exact CL) ?_;refine BM ?_)|((refine B7 (λhb=>?_) (λhb=>?_))<;>(try simp only[Bs,B5]at hb)<;>(try simp only[hb])<;>(refine BM ?_)))
 refine AO ?_;refine AC.seq ?_;refine CR 200 [0,1,2,3,4,5,6,7,8,9,10] [11] ?_;refine CQ ?_;refine Bf.same _ (Pl ha.1 ha.2) AJ ?_;refine CQ ?_;refine Bf.same _ (Pl hb.1 hb.2) AJ ?_;refine CQ ?_;refine Bf.same _ (c0) AJ ?_;refine CQ ?_;refine sZ 300 ?_
 repeat'(first|(refine BK (by exact CL) ?_;refine BM ?_)|((refine B7 (λhb=>?_) (λhb=>?_))<;>(try simp only[Bs,B5]at hb)<;>(try simp only[hb])<;>(refine BM ?_)))
 have e3:decide ((((a*b).natAbs:Nat):Int)<=9223372036854775807)=true:=Ax (by have:=hc.1;have:=hc.2;omega);rw[e3];refine AO ?_;refine AC.seq ?_;refine fR 400 ?_;refine AO ?_;have e4:IntKind.i64.wrap (((a*b).natAbs:Nat):Int)=((a*b).natAbs:Nat):=wN (by have:=hc.1;have:=hc.2;omega)
 (refine B7 (λh41=>?_) (λh41=>?_))<;>(try simp only[Bs,B5]at h41)<;>(try simp only[h41])
 ·have e5:IntKind.i64.wrap (0-(((a*b).natAbs:Nat):Int)) = -((a*b).natAbs:Nat):=by
   rw[wI (by have:=hc.1;have:=hc.2;omega) (by have:=hc.1;have:=hc.2;omega)];omega
  have e6 : -(((a*b).natAbs:Nat):Int)=a*b:=by
   have hs:(a<0)≠(b<0):=by simpa using h41
   have:a*b<=0:=by
    by_cases h1:a<0
    ·have h2:¬b<0:=λh2=>hs (by simp[h1,h2])
     exact Int.mul_nonpos_of_nonpos_of_nonneg (by omega) (by omega)
    ·have h2:b<0:=DG λh2=>hs (by simp[h1,h2])
     exact Int.mul_nonpos_of_nonneg_of_nonpos (by omega) (by omega)
   omega
  refine sZ 500 ?_;refine K4 (Ar e4 e5 e6) ?_;refine Ag ?_;exact AM rfl AA.out
 ·have e6:(((a*b).natAbs:Nat):Int)=a*b:=by
   have hs:¬((a<0)≠(b<0)):=by simpa using h41
   have:0<=a*b:=by
    by_cases h1:a<0
    ·have h2:b<0:=DG λh2=>hs (by simp[h1,h2])
     exact Int.mul_nonneg_of_nonpos_of_nonpos (by omega) (by omega)
    ·have h2:¬b<0:=λh2=>hs (by simp[h1,h2])
     exact Int.mul_nonneg (by omega) (by omega)
   omega
  rw[e6]at e4;refine Am ?_;refine sZ 600 ?_;refine K4 (Ab e6 e4) ?_;refine Ag ?_;exact AM rfl AA.out
theorem iv (x y:GI)(hx:x.wf)(hy:y.wf)(fx:(Af x.z.natAbs).length<400000)(fy:(Af y.z.natAbs).length<400000):AL C0 121 [x.D,y.D] (AY (x.z*y.z)).D:=by
 by_cases h:x.sm=true/\y.sm=true/\(x.z*y.z).natAbs<=9223372036854775807
 ·obtain⟨a,sa⟩:=x
  obtain⟨b,sb⟩:=y;obtain⟨h1,h2,h3⟩:=h;dsimp only at h1 h2 h3;subst h1;subst h2;have hs:Sm (a*b):=⟨by omega,by omega⟩
  dsimp only;rw[KQ hs];exact oG a b hs (hx.1 rfl) (hy.1 rfl)
 ·exact tC x y hx hy fx fy h
def Mz (x:GI):GI:=if x.z<0 then AY (-x.z)else x
theorem uV (x:GI):(Mz x).z=(x.z.natAbs:Nat):=by
 unfold Mz;split
 ·show -x.z=_;omega
 ·omega
theorem rG (x:GI)(h:x.wf):(Mz x).wf:=by
 unfold Mz;split
 ·exact Cy _
 ·exact h
theorem gz (x:GI)(h:x.wf)(hf:x.few):AL C0 218 [x.D] (Mz x).D:=by
 refine Ad.walk w1 eB rfl λF=>?_
 have hs:=gi x h;have cn:=Pz x h hf;have hpx:AA x.w:=AJ;have hpr:AA (AY (-x.z)).w:=AJ;unfold Mz
 by_cases hz:x.z<0
 ·have e:decide (x.s<0)=true:=Ax (by rw[hs];exact hz)
  rw[AI hz];dsimp only[GI.D]at*;refine fR 0 ?_;refine AC.seq ?_;refine fR 100 ?_;rw[e];refine AO ?_;refine fR 200 ?_;refine dI cn ?_;refine Ag ?_;exact AM rfl AA.out
 ·have e:decide (x.s<0)=false:=A8 (by rw[hs];exact hz)
  rw[AG hz];dsimp only[GI.D]at*;refine fR 0 ?_;refine AC.seq ?_;refine fR 100 ?_;rw[e];refine AO ?_;refine Am ?_;refine fR 300 ?_;refine Ag ?_;exact AM rfl AA.out
structure MP (B Y u1 u0:Nat)(q r:Nat):Prop where
 eq:q*(Y/B)+r=u1
 up:u1*B+u0<(q+1)*Y
 q2:q<=B+1
theorem Xx {B Y u1 u0:Nat}(hB:0<B)(hY:B*B<=2*Y)(hY2:Y<B*B)(hev:B%2=0)(hu:u1<Y)(h0:u0<B):
  MP B Y u1 u0 (u1/(Y/B)) (u1-u1/(Y/B)*(Y/B))/\u1-u1/(Y/B)*(Y/B)<B:=by
 have e:=FG Y B;have m:=CI Y hB;generalize hg:Y/B=y1 at*;generalize Y%B=y0 at*;have hy1:y1<B:=by
  rcases BC y1 B with h|h
  ·exact h
  ·have:=Cs B h
   omega
 have hy2:B<=2*y1:=by
  rcases BC (2*y1) B with h|h
  ·exfalso
   have h1:2*y1+2<=B:=by omega
   have h2:=Cs B h1;have h3:B*(2*y1+2)=2*(B*y1)+2*B:=by
    rw[BO,JU,Ba B 2]
   omega
  ·exact h
 have e1:=FG u1 y1;have m1:=CI u1 (show 0<y1 by omega);have c1:y1*(u1/y1)=u1/y1*y1:=Ba _ _;refine⟨⟨by rw[hg];omega,?_,?_⟩,by omega⟩
 ·generalize hq:u1/y1=q at*
  have h1:u1+1<=(q+1)*y1:=by rw[B0];omega
  have h2:=CV B h1;have h3:(q+1)*Y=(q+1)*y1*B+(q+1)*y0:=by
   rw[<-e,BO,Ba B y1,B6]
  rw[B0]at h2;omega
 ·rcases BC (B+1) (u1/y1)with h|h
  ·exfalso
   have h1:=Cs y1 (show B+2<=u1/y1 by omega);have h2:y1*(B+2)=B*y1+2*y1:=by rw[BO,Ba y1 B,Ba y1 2]
   omega
  ·exact h
theorem Yf {B Y u1 u0 q r:Nat}(hB:0<B)(hu:u1<Y)(h0:u0<B)(I:MP B Y u1 u0 q r)
  (c:B<=q\/B*r+u0<q*(Y%B)):0<q/\MP B Y u1 u0 (q-1) (r+Y/B):=by
 have e:=FG Y B;obtain⟨i1,i2,i3⟩:=I;generalize hg:Y/B=y1 at*;generalize Y%B=y0 at*;have hq:0<q:=by
  rcases c with c|c
  ·omega
  ·rcases EC q with h|h
   ·subst h;omega
   ·exact h
 obtain⟨p,rfl⟩:∃p,q=p+1:=⟨q-1,by omega⟩
 refine⟨hq,⟨?_,?_,?_⟩⟩
 ·rw[JT,hg,Ba p];rw[B0,Ba p]at i1;omega
 ·rw[JT]
  rcases c with c|c
  ·have h1:=CV Y c
   have h2:(u1+1)*B<=Y*B:=CV B hu;rw[B0]at h2;rw[Ba Y B]at h2;omega
  ·have h3:(p+1)*Y=(p+1)*y1*B+(p+1)*y0:=by
    rw[<-e,BO,Ba B y1,B6]
   have h4:u1*B=(p+1)*y1*B+r*B:=by rw[<-i1,B0]
   rw[Ba r B]at h4;omega
 ·omega
theorem UK {B Y u1 u0 q r:Nat}(I:MP B Y u1 u0 q r)
  (c:q*(Y%B)<=B*r+u0):q=(u1*B+u0)/Y:=by
 have e:=FG Y B;obtain⟨i1,i2,i3⟩:=I;have h3:q*Y=q*(Y/B)*B+q*(Y%B):=by
  conv=>lhs;rw[<-e]
  rw[BO,Ba B (Y/B),B6]
 have h4:u1*B=q*(Y/B)*B+r*B:=by rw[<-i1,B0]
 rw[Ba r B]at h4;have h5:0<Y:=by
  rcases EC Y with h|h
  ·subst h;omega
  ·exact h
 symm
 apply Nat.div_eq_of_lt_le
 ·omega
 ·exact i2
theorem Xw {B Y u1 u0 q r:Nat}(hB:0<B)(I:MP B Y u1 u0 q r)(hq:q<=B)(hr:B<=r):
  q=(u1*B+u0)/Y:=by
 refine UK I ?_;have m:=CI Y hB;have h1:q*(Y%B)<=B*B:=GH hq (by omega);have h2:=Cs B hr;omega
theorem mI {B N S y u32 u1 u0 v:Nat}(hS:0<S)(hy:0<y)(hN:N*S=u32*(B*B)+(u1*B+u0))(hv:v=(u32*B+u1)%(y*S)):
  (u32*B+u1)/(y*S)*B+(v*B+u0)/(y*S)=N/y/\(v*B+u0)%(y*S)/S=N%y:=by
 have hY0:0<y*S:=IM hy hS;have e1:=FG (u32*B+u1) (y*S);have e2:=FG (v*B+u0) (y*S);have m2:=CI (v*B+u0) hY0;rw[<-hv]at e1;have dY:N*S/(y*S)=N/y:=QZ _ _ hS;have mY:N*S%(y*S)=N%y*S:=Qa _ _ _;generalize(u32*B+u1)/(y*S)=q1 at*;generalize(v*B+u0)/(y*S)=q0 at*;generalize(v*B+u0)%(y*S)=r at*;generalize y*S=Y at*;have hT:N*S=r+Y*(q1*B+q0):=by
  have c1:u32*(B*B)+u1*B=Y*q1*B+v*B:=by
   rw[<-B6,<-B0,<-e1,B0]
  rw[hN,BO,<-B6 Y q1 B];omega
 refine⟨?_,?_⟩
 ·rw[<-dY,hT,Tb _ _ hY0,IJ m2,BW]
 ·rw[hT,TT,Fr m2]at mY
  rw[mY,Nat.mul_div_cancel _ hS]
theorem qi {hi lo y s:Nat}(hs:s<=63)(h1:hi<y)(hlo:lo<18446744073709551616):
  lo/2^(64-s)<2^s/\hi*2^s+lo/2^(64-s)<y*2^s /\
   (hi*18446744073709551616+lo)*2^s=(hi*2^s+lo/2^(64-s))*18446744073709551616+lo*2^s%18446744073709551616:=by
 have hp:0<2^s:=Hk s;have hpp:2^(64-s)*2^s=18446744073709551616:=by
  rw[<-Gl,show 64-s+s=64 by omega]
 have hl:lo*2^s/18446744073709551616=lo/2^(64-s):=by
  rw[<-hpp,QZ _ _ hp]
 have hl2:lo/2^(64-s)<2^s:=Fq (by rw[hpp];exact hlo);refine⟨hl2,?_,?_⟩
 ·have:(hi+1)*2^s<=y*2^s:=CV _ h1
  rw[B0]at this;omega
 ·have e:=FG (lo*2^s) 18446744073709551616
  rw[hl]at e;rw[B0,B0,Nat.mul_right_comm];omega
theorem WB {a b s:Nat}(h:b<2^s):(a*2^s) ||| b=a*2^s+b:=by
 rw[Ba,Nat.two_pow_add_eq_or_of_lt h]
theorem iq (x:Nat)(hx:x<BB):AL C0 201 [AS x] (i64 (64-(Lib.bitLen x:Int))):=by
 refine⟨⟨_,_,Tryz.func201,rfl,by kernel_rfl⟩,λY w vs hG hnG hX hvs hr=>?_⟩
 have:=RP hvs hr
 subst this;refine(Tryz.bits_LeadingZeros64 x w (by omega) (by unfold BB at hx;omega)).mono ?_;rintro e w' ⟨rfl,rfl⟩;exact⟨_,_,rfl,.refl _ _,rfl,.prim _⟩
theorem Ya {x:Nat}(h0:x≠0)(hx:x<BB):∃s,s<=63/\(64-(Lib.bitLen x:Int))=(s:Nat)/\9223372036854775808<=x*2^s/\x*2^s<18446744073709551616:=by
 obtain⟨h1,h2,h3⟩:=Lib.bitLenAux_bounds 64 x hx h0;have h4:=Lib.bitLen_le x 64 (An _) hx;have h5:Lib.bitLenAux 64 x=Lib.bitLen x:=rfl;rw[h5]at h1 h2 h3;refine⟨64-Lib.bitLen x,by omega,by omega,?_,?_⟩
 ·have:=CV (2^(64-Lib.bitLen x)) h2
  rw[<-Gl,show Lib.bitLen x-1+(64-Lib.bitLen x)=63 by omega]at this;exact this
 ·have:=(Nat.mul_lt_mul_right (Hk (64-Lib.bitLen x))).2 h3
  rw[<-Gl,show Lib.bitLen x+(64-Lib.bitLen x)=64 by omega]at this;exact this
theorem Jf (n:Nat):IntKind.u64.wrap (n:Int)=((n%18446744073709551616:Nat):Int):=by
 have e1:(2:Int)^IntKind.u64.bits=18446744073709551616:=rfl;unfold IntKind.wrap;simp only[e1];have e3:IntKind.u64.signed=false:=rfl;rw[e3];simp only[II,Ip,if_false];omega
theorem P6 (x s:Nat)(hs:s<=63):Lx .u64 (x:Int) (s:Int)=((x*2^s%18446744073709551616:Nat):Int):=by
 have hm:min ((s:Int)).toNat (IntKind.bits .u64)=s:=by
  have:IntKind.bits .u64=64:=rfl
  rw[this];omega
 unfold Lx;rw[hm]
 have:(x:Int)*2^s=((x*2^s:Nat):Int):=by simp
 rw[this];exact Jf _
theorem OF (x s:Nat)(hs:s<=64):M4 .u64 (x:Int) (s:Int)=((x/2^s:Nat):Int):=by
 have hm:min ((s:Int)).toNat (IntKind.bits .u64)=s:=by
  have:IntKind.bits .u64=64:=rfl
  rw[this];omega
 unfold M4;rw[hm]
 have:(2:Int)^s=((2^s:Nat):Int):=by simp
 rw[this,Int.fdiv_eq_ediv_of_nonneg _ (Int.natCast_nonneg _)];exact(Int.natCast_ediv _ _).symm
theorem S6 (a:Nat)(ha:a<18446744073709551616):(BitVec.ofInt (IntKind.bits .u64) (a:Int)).toNat=a:=by
 rw[show IntKind.bits .u64=64 from rfl,BitVec.ofInt_natCast,BitVec.toNat_ofNat];exact Fr ha
theorem W8 (a b:Nat)(ha:a<18446744073709551616)(hb:b<18446744073709551616):Hv .or .u64 (a:Int) (b:Int)=((a ||| b:Nat):Int):=by
 have h:a ||| b<2^64:=Nat.or_lt_two_pow ha hb;show IntKind.u64.wrap ((BitVec.ofInt (IntKind.bits .u64) (a:Int) ||| BitVec.ofInt (IntKind.bits .u64) (b:Int)).toNat:Int)=_;rw[BitVec.toNat_or,S6 a ha,S6 b hb,Jf];exact congrArg Nat.cast (Fr h)
theorem iA (a:Nat)(ha:a<18446744073709551616):Hv .and .u64 (a:Int) 4294967295=((a%4294967296:Nat):Int):=by
 show IntKind.u64.wrap ((BitVec.ofInt (IntKind.bits .u64) (a:Int) &&& BitVec.ofInt (IntKind.bits .u64) ((4294967295:Nat):Int)).toNat:Int)=_;rw[BitVec.toNat_and,S6 a ha,S6 _ (by decide),Jf,show(4294967295:Nat)=2^32-1 from rfl,Nat.and_two_pow_sub_one_eq_mod];exact congrArg Nat.cast (Ja)
theorem WC (a b:Nat):IntKind.u64.wrap ((a:Int).tdiv (b:Int))=((a/b%18446744073709551616:Nat):Int):=by
 rw[<-Int.ofNat_tdiv];exact Jf _
theorem gA {a b:Nat}(h:b<=a)(ha:a<18446744073709551616):IntKind.u64.wrap ((a:Int)-(b:Int))=((a-b:Nat):Int):=by
 rw[<-Int.natCast_sub h,Jf];exact congrArg Nat.cast (Ja)
section
variable {C:BA} {B F:AZ} {s:St} {rd:Option Nat} {Q:Exit->AZ->St->Prop}
theorem TP {a b:Code}(S:Nat->St)(h1:AC C B rd F a s (λe F1 s1=>Jr (F1=F/\∃n,Wk s1 (S n)) (λe=>Q e F1 s1) e))(h2:∀n,AC C B rd F b (S n) Q):AC C B rd F (.seq a b) s Q:=
 AC.seq (h1.mono λe F1 s1 h=>by
  cases e with
  |normal=>
   obtain⟨h0,n,h3⟩:=(show F1=F/\∃n,Wk s1 (S n)from h)
   rw[h0];exact AC.weak (S n) h3 (h2 n)
  |ret=>exact h
  |exit j=>exact h
  |goto l=>exact h
  |panic c=>exact h
  |outgrown=>exact h)
end
theorem Na (z:Int):IntKind.u64.wrap z=z%18446744073709551616:=by
 have e1:(2:Int)^IntKind.u64.bits=18446744073709551616:=rfl;unfold IntKind.wrap;simp only[e1];have e3:IntKind.u64.signed=false:=rfl;rw[e3];simp only[II,Ip,if_false]
theorem lJ (a b:Nat)(ha:a<4294967296)(hb:b<4294967296):IntKind.u64.wrap (IntKind.u64.wrap ((a:Int)*4294967296)+(b:Int))=((a*4294967296+b:Nat):Int):=by
 rw[Na,Na];omega
theorem ZE (a c q Y:Nat)(hY:0<Y)(hY2:Y<18446744073709551616)(hq:q=(a*4294967296+c)/Y):
  IntKind.u64.wrap (IntKind.u64.wrap (IntKind.u64.wrap ((a:Int)*4294967296)+(c:Int))-IntKind.u64.wrap ((q:Int)*(Y:Int)))=(((a*4294967296+c)%Y:Nat):Int):=by
 have e:=FG (a*4294967296+c) Y;have m:=CI (a*4294967296+c) hY;rw[<-hq,Ba Y q]at e;generalize(a*4294967296+c)%Y=v at*;rw[<-Gj q Y];generalize q*Y=Q at*;rw[Na,Na,Na,Na];omega
structure uQ (hi lo y s Y u u10:Nat):Prop where
 s63:s<=63
 eY:Y=y*2^s
 big:9223372036854775808<=Y
 Yl:Y<18446744073709551616
 uY:u<Y
 u10l:u10<18446744073709551616
 N:(hi*BB+lo)*2^s=u*18446744073709551616+u10
 e8:Lx .u64 (y:Int) (s:Int)=(Y:Int)
 e9:M4 .u64 (Y:Int) 32=((Y/4294967296:Nat):Int)
 e10:Hv .and .u64 (Y:Int) 4294967295=((Y%4294967296:Nat):Int)
 ew:IntKind.u64.wrap (64-(s:Int))=((64-s:Nat):Int)
 e11:Hv .or .u64 (Lx .u64 (hi:Int) (s:Int)) (M4 .u64 (lo:Int) ((64-s:Nat):Int))=(u:Int)
 e12:Lx .u64 (lo:Int) (s:Int)=(u10:Int)
 e13:M4 .u64 (u10:Int) 32=((u10/4294967296:Nat):Int)
 e14:Hv .and .u64 (u10:Int) 4294967295=((u10%4294967296:Nat):Int)
theorem qY {hi lo y s:Nat}(h1:hi<y)(hlo:lo<BB)(hs:s<=63)(t1:9223372036854775808<=y*2^s)(t2:y*2^s<18446744073709551616):
  ∃Y u u10,uQ hi lo y s Y u u10:=by
 obtain⟨m1,m2,m3⟩:=qi hs h1 hlo;have hpos:0<2^s:=Hk s;have hh:hi*2^s<18446744073709551616:=Da (Nat.le_add_right _ _) (Gk m2 t2);have hl:lo/2^(64-s)<18446744073709551616:=Da (GQ _ _) hlo;refine⟨_,_,_,hs,rfl,t1,t2,m2,CI _ (by decide),m3,?_,OF _ 32 (by decide),iA _ t2,?_,?_,P6 lo s hs,OF _ 32 (by decide),iA _ (CI _ (by decide))⟩
 ·rw[P6 y s hs,Fr t2]
 ·rw[wU];omega
 ·rw[P6 hi s hs,Fr hh,OF lo (64-s) (by omega),W8 _ _ hh hl,WB m1]
theorem Zv (hi lo y:Nat)(h1:hi<y)(hlo:lo<BB)(hy:y<BB):AL C0 199 [AS hi,AS lo,AS y] (.tup [AS ((hi*BB+lo)/y),AS ((hi*BB+lo)%y)]):=by
 refine Ad.walk w1 dq rfl λF=>?_
 have y0:¬(y:Int)=0:=by omega
 have c1:((y:Int)==0)=false:=by simp;omega
 have c2:decide ((y:Int)<=(hi:Int))=false:=Bc;refine sR 0 ?_;refine AC.seq ?_;refine sZ 100 ?_;refine AV c1 ?_;refine AO ?_;refine Am ?_;refine AC.seq ?_;refine sZ 300 ?_;refine AV c2 ?_;refine AO ?_;refine Am ?_;refine AC.seq ?_;refine sR 500 ?_;refine AO ?_
 (refine B7 (λh27=>?_) (λh27=>?_))<;>(try simp only[Bs,B5]at h27)<;>(try simp only[h27])
 ·have hi0:hi=0:=by simpa using h27
  subst hi0;refine AC.seq ?_;refine CR 600 [0,1,2,3,4,5,6] [7] ?_;refine BR ?_;refine Ag ?_;refine AM ?_ AA.out;have l1:lo/y<18446744073709551616:=Da (GQ _ _) hlo;rw[WC,Fr l1,Hl,BW];rfl
 ·obtain⟨s,hs,es,t1,t2⟩:=Ya (x:=y) (by omega) hy
  have cl:=iq y hy;rw[es]at cl;have ws:IntKind.u64.wrap (s:Int)=(s:Int):=wU;obtain⟨Y,u,u10,L⟩:=qY h1 hlo hs t1 t2;have ew0:(0:Int)<=IntKind.u64.wrap (64-(s:Int)):=by rw[L.ew];omega
  refine Am ?_;refine sR 700 ?_;refine cI cl ?_;rw[ws];refine sZ 800 ?_;refine AV L.e8 ?_;refine sZ 900 ?_;refine AV L.e9 ?_;refine sZ 1000 ?_;refine AV L.e10 ?_;refine sZ 1100 ?_;refine AF (Ab L.ew L.e11) ?_;refine sZ 1200 ?_;refine AV L.e12 ?_;refine sZ 1300 ?_;refine AV L.e13 ?_;refine sZ 1400 ?_;refine AV L.e14 ?_;have hB:2147483648<=Y/4294967296:=by have:=L.big;omega
  have hB2:Y/4294967296<4294967296:=by have:=L.Yl;omega
  have n0:¬((Y/4294967296:Nat):Int)=0:=by omega
  obtain⟨I0,r0⟩:=Xx (B:=4294967296) (u0:=u10/4294967296) (by decide) (by have:=L.big;omega) L.Yl (by decide) L.uY (by have:=L.u10l;omega);have q0l:=I0.q2;have hu64:u<18446744073709551616:=Gk L.uY L.Yl;have hqy:=Nat.div_mul_le_self u (Y/4294967296);have e15:IntKind.u64.wrap ((u:Int).tdiv ((Y/4294967296:Nat):Int))=((u/(Y/4294967296):Nat):Int):=by
   rw[WC,Ja]
  have e16:IntKind.u64.wrap ((u:Int)-IntKind.u64.wrap (((u/(Y/4294967296):Nat):Int)*((Y/4294967296:Nat):Int)))=((u-u/(Y/4294967296)*(Y/4294967296):Nat):Int):=by
   rw[<-Gj,Jf,Ja,gA hqy hu64]
  refine sZ 1500 ?_;refine AV e15 ?_;refine sZ 1600 ?_;refine AV e16 ?_;have hu1:u10/4294967296<4294967296:=by have:=L.u10l;omega
  have hy0:Y%4294967296<4294967296:=CI _ (by decide);generalize hu1e:u10/4294967296=u1 at*;generalize hu0e:u10%4294967296=u0 at*;refine TP (λn=>⟨[(2,AS Y),(6,u64 0),(7,u64 0),(8,AS s),(9,AS (Y/4294967296)),(10,AS (Y%4294967296)),(11,AS u),(13,AS u1),(14,AS u0),(15,AS ((u*4294967296+u1)/Y))],[],n⟩) ?_ λn=>?_
  ·refine AC.block ?_
   refine Gi (α:=Nat×Nat×Nat) (λp=>⟨[(2,AS Y),(6,u64 0),(7,u64 0),(8,AS s),(9,AS (Y/4294967296)),(10,AS (Y%4294967296)),(11,AS u),(13,AS u1),(14,AS u0),(15,AS p.1),(16,AS p.2.1)],[],p.2.2⟩) (λp=>p.1)
    (λp F'=>F'=F/\MP 4294967296 Y u u1 p.1 p.2.1/\p.2.1<4294967296) (_,_,_)
    ⟨rfl,I0,r0⟩ AK ?_
   rintro⟨q,r,m⟩ F' ⟨rfl,I,hr⟩;dsimp only at I hr⊢;have hq2:=I.q2;refine AC.seq ?_;obtain⟨b,hbt⟩:∃b:Bool,b=decide (4294967296<=q\/4294967296*r+u1<q*(Y%4294967296)):=⟨_,rfl⟩
   refine EI ⟨[(2,AS Y),(6,u64 0),(7,u64 0),(8,AS s),(9,AS (Y/4294967296)),(10,AS (Y%4294967296)),(11,AS u),(13,AS u1),(14,AS u0),(15,AS q),(16,AS r),(78,Ap b)],[],m+30⟩ ?_ ?_
   ·rcases BC q 4294967296 with hq|hq
    ·have e1:decide ((q:Int)>=4294967296)=false:=Bc
     have hqy:q*(Y%4294967296)<=4294967295*4294967295:=GH (by omega) (by omega);have k1:IntKind.u64.wrap ((q:Int)*((Y%4294967296:Nat):Int))=((q*(Y%4294967296):Nat):Int):=by
      rw[<-Gj,Jf,Ja]
     have k2:IntKind.u64.wrap (4294967296*(r:Int))=((4294967296*r:Nat):Int):=by rw[wU];omega
     have k3:IntKind.u64.wrap (((4294967296*r:Nat):Int)+(u1:Int))=((4294967296*r+u1:Nat):Int):=by rw[wU];omega
     have k4:decide (((q*(Y%4294967296):Nat):Int)>((4294967296*r+u1:Nat):Int))=b:=by
      rw[hbt];exact DO.2 ⟨λh=>Or.inr (by omega),λh=>by rcases h with h|h<;>omega⟩
     refine Aq 1700 ?_;refine AF e1 ?_;refine AF (CN kF k1 k2 k3 k4) ?_;exact BK (by trivial) (AK)
    ·have e1:decide ((q:Int)>=4294967296)=true:=BX
     have hb:b=true:=by rw[hbt];exact Ax (Or.inl hq)
     subst hb;refine Aq 1700 ?_;refine AF e1 ?_;refine AF kT ?_;exact BK (by trivial) (AK)
   ·cases b
    ·have hc:=Ds hbt.symm
     have hq:=UK I (by omega);subst hq;refine AO ?_;refine CO ?_;exact⟨rfl,_,AK⟩
    ·have hc:=DN hbt.symm
     obtain⟨hq0,I2⟩:=Yf (by decide) L.uY hu1 I hc;have hq3:=I2.q2;have k1:IntKind.u64.wrap ((q:Int)-1)=((q-1:Nat):Int):=by rw[wU];omega
     have k2:IntKind.u64.wrap ((r:Int)+((Y/4294967296:Nat):Int))=((r+Y/4294967296:Nat):Int):=by rw[wU];omega
     refine AO ?_;refine Am ?_;refine AC.block ?_;refine sZ 1800 ?_;refine AV k1 ?_;refine sZ 1900 ?_;refine AV k2 ?_;refine sR 2000 ?_;refine AO ?_
     (refine B7 (λh85=>?_) (λh85=>?_))<;>(try simp only[Bs,B5]at h85)<;>(try simp only[h85])
     ·have hq:=Xw (by decide) I2 (by omega) (by have:=DN h85;omega)
      rw[hq];refine CO ?_;exact⟨rfl,_,AK⟩
     ·refine Am ?_
      refine⟨(q-1,r+Y/4294967296,_),⟨rfl,I2,by have:=Ds h85;dsimp only;omega⟩,by dsimp only;omega,AK⟩
  ·have hY0:0<Y:=by have:=L.big;omega
   have e21:=ZE u u1 _ Y hY0 L.Yl rfl;have q1l:(u*4294967296+u1)/Y<4294967296:=by
    refine Fq ?_
    have:(u+1)*4294967296<=Y*4294967296:=CV _ L.uY
    rw[B0]at this;omega
   have hvY:(u*4294967296+u1)%Y<Y:=CI _ hY0;have tr:=mI (B:=4294967296) (N:=hi*BB+lo) (S:=2^s) (y:=y) (u32:=u) (u1:=u1) (u0:=u0) (v:=(u*4294967296+u1)%Y) (Hk s) (by omega) (by rw[L.N];omega) (by rw[L.eY]);rw[<-L.eY]at tr;clear e15 e16 I0 r0 q0l hqy;obtain⟨q1,hq1e⟩:∃x,x=(u*4294967296+u1)/Y:=⟨_,rfl⟩
   rw[<-hq1e]at e21 q1l tr⊢;obtain⟨v,hve⟩:∃x,x=(u*4294967296+u1)%Y:=⟨_,rfl⟩
   rw[<-hve]at e21 hvY tr;have hu0:u0<4294967296:=by rw[<-hu0e];exact CI _ (by decide)
   obtain⟨J0,s0⟩:=Xx (B:=4294967296) (u0:=u0) (by decide) (by have:=L.big;omega) L.Yl (by decide) hvY hu0;have q0l:=J0.q2;have hv64:v<18446744073709551616:=Gk hvY L.Yl;have hqy:=Nat.div_mul_le_self v (Y/4294967296);have e22:IntKind.u64.wrap ((v:Int).tdiv ((Y/4294967296:Nat):Int))=((v/(Y/4294967296):Nat):Int):=by
    rw[WC,Ja]
   have e23:IntKind.u64.wrap ((v:Int)-IntKind.u64.wrap (((v/(Y/4294967296):Nat):Int)*((Y/4294967296:Nat):Int)))=((v-v/(Y/4294967296)*(Y/4294967296):Nat):Int):=by
    rw[<-Gj,Jf,Ja,gA hqy hv64]
   refine sZ 2100 ?_;refine AV e21 ?_;refine sZ 2200 ?_;refine AV e22 ?_;refine sZ 2300 ?_;refine AV e23 ?_;refine TP (λn=>⟨[(2,AS Y),(6,u64 0),(7,u64 0),(8,AS s),(9,AS (Y/4294967296)),(10,AS (Y%4294967296)),(11,AS u),(13,AS u1),(14,AS u0),(15,AS q1),(17,AS v),(18,AS ((v*4294967296+u0)/Y))],[],n⟩) ?_ λn=>?_
   ·refine AC.block ?_
    refine Gi (α:=Nat×Nat×Nat) (λp=>⟨[(2,AS Y),(6,u64 0),(7,u64 0),(8,AS s),(9,AS (Y/4294967296)),(10,AS (Y%4294967296)),(11,AS u),(13,AS u1),(14,AS u0),(15,AS q1),(17,AS v),(18,AS p.1),(16,AS p.2.1)],[],p.2.2⟩) (λp=>p.1)
     (λp F'=>F'=F/\MP 4294967296 Y v u0 p.1 p.2.1/\p.2.1<4294967296) (_,_,_)
     ⟨rfl,J0,s0⟩ AK ?_
    rintro⟨q,r,m⟩ F' ⟨rfl,I,hr⟩;dsimp only at I hr⊢;have hq2:=I.q2;refine AC.seq ?_;obtain⟨b,hbt⟩:∃b:Bool,b=decide (4294967296<=q\/4294967296*r+u0<q*(Y%4294967296)):=⟨_,rfl⟩
    refine EI ⟨[(2,AS Y),(6,u64 0),(7,u64 0),(8,AS s),(9,AS (Y/4294967296)),(10,AS (Y%4294967296)),(11,AS u),(13,AS u1),(14,AS u0),(15,AS q1),(17,AS v),(18,AS q),(16,AS r),(113,Ap b)],[],m+30⟩ ?_ ?_
    ·rcases BC q 4294967296 with hq|hq
     ·have e1:decide ((q:Int)>=4294967296)=false:=Bc
      have hqy:q*(Y%4294967296)<=4294967295*4294967295:=GH (by omega) (by omega);have k1:IntKind.u64.wrap ((q:Int)*((Y%4294967296:Nat):Int))=((q*(Y%4294967296):Nat):Int):=by
       rw[<-Gj,Jf,Ja]
      have k2:IntKind.u64.wrap (4294967296*(r:Int))=((4294967296*r:Nat):Int):=by rw[wU];omega
      have k3:IntKind.u64.wrap (((4294967296*r:Nat):Int)+(u0:Int))=((4294967296*r+u0:Nat):Int):=by rw[wU];omega
      have k4:decide (((q*(Y%4294967296):Nat):Int)>((4294967296*r+u0:Nat):Int))=b:=by
       rw[hbt];exact DO.2 ⟨λh=>Or.inr (by omega),λh=>by rcases h with h|h<;>omega⟩
      refine Aq 2400 ?_;refine AF e1 ?_;refine AF (CN kF k1 k2 k3 k4) ?_;exact BK (by trivial) (AK)
     ·have e1:decide ((q:Int)>=4294967296)=true:=BX
      have hb:b=true:=by rw[hbt];exact Ax (Or.inl hq)
      subst hb;refine Aq 2400 ?_;refine AF e1 ?_;refine AF kT ?_;exact BK (by trivial) (AK)
    ·cases b
     ·have hc:=Ds hbt.symm
      have hq:=UK I (by omega);subst hq;refine AO ?_;refine CO ?_;exact⟨rfl,_,AK⟩
     ·have hc:=DN hbt.symm
      obtain⟨hq0,I2⟩:=Yf (by decide) hvY hu0 I hc;have hq3:=I2.q2;have k1:IntKind.u64.wrap ((q:Int)-1)=((q-1:Nat):Int):=by rw[wU];omega
      have k2:IntKind.u64.wrap ((r:Int)+((Y/4294967296:Nat):Int))=((r+Y/4294967296:Nat):Int):=by rw[wU];omega
      refine AO ?_;refine Am ?_;refine AC.block ?_;refine sZ 2500 ?_;refine AV k1 ?_;refine sZ 2600 ?_;refine AV k2 ?_;refine sR 2700 ?_;refine AO ?_
      (refine B7 (λh120=>?_) (λh120=>?_))<;>(try simp only[Bs,B5]at h120)<;>(try simp only[h120])
      ·have hq:=Xw (by decide) I2 (by omega) (by have:=DN h120;omega)
       rw[hq];refine CO ?_;exact⟨rfl,_,AK⟩
      ·refine Am ?_
       refine⟨(q-1,r+Y/4294967296,_),⟨rfl,I2,by have:=Ds h120;dsimp only;omega⟩,by dsimp only;omega,AK⟩
   ·have e28:=ZE v u0 _ Y hY0 L.Yl rfl
    have hm28:(v*4294967296+u0)%Y<Y:=CI _ hY0;have q2l:(v*4294967296+u0)/Y<4294967296:=by
     refine Fq ?_
     have:(v+1)*4294967296<=Y*4294967296:=CV _ hvY
     rw[B0]at this;omega
    have k1:=lJ q1 ((v*4294967296+u0)/Y) q1l q2l;have k2:=OF ((v*4294967296+u0)%Y) s (by omega);rw[tr.1]at k1;rw[tr.2]at k2;refine sZ 2800 ?_;refine AF (Ar k1 e28 k2) ?_;refine Ag ?_;exact AM rfl AA.out
theorem X7 {n2 v1 P U V q:Nat}(hU:U<(n2+1)*P)(hV:v1*P<=V)(hq:n2+1<=(q+1)*v1):U<(q+1)*V:=by
 have h1:=CV P hq;have h2:=Cs (q+1) hV;rw[B6]at h1;omega
theorem YM {n3 D P U V q:Nat}(hU:U<(n3+1)*P)(hV:D*P<=V)(hq:n3<q*D):U<q*V:=by
 have h1:=CV P (show n3+1<=q*D from hq);have h2:=Cs q hV;rw[B6]at h1;omega
theorem ZB {n3 D P U V q B v:Nat}(hU:n3*P<=U)(hV:V=D*P+v)(hv:v<P)(hq:q*D<=n3)(hqB:q<=B)(hD:B<=D):q*V<=U+V:=by
 have h1:=CV P hq;rw[B6]at h1;have h2:q*v<=B*P:=GH hqB (by omega);have h3:=CV P hD;have h4:q*V=q*(D*P)+q*v:=by rw[hV,BO]
 omega
theorem Xz {c x s:Nat}(hs:s<=63)(hc:c<2^s)(hx:x<18446744073709551616):
  c |||(x*2^s%18446744073709551616)=c+x*2^s%18446744073709551616/\c+x*2^s%18446744073709551616<18446744073709551616 /\
   c+x*2^s%18446744073709551616+18446744073709551616*(x/2^(64-s))=c+x*2^s/\x/2^(64-s)<2^s:=by
 have hp:0<2^s:=Hk s;have hpp:2^(64-s)*2^s=18446744073709551616:=by
  rw[<-Gl,show 64-s+s=64 by omega]
 have hl:x*2^s/18446744073709551616=x/2^(64-s):=by
  rw[<-hpp,QZ _ _ hp]
 have hm:x*2^s%18446744073709551616=x%2^(64-s)*2^s:=by
  rw[<-hpp,Qa]
 have hl2:x/2^(64-s)<2^s:=Fq (by rw[hpp];exact hx);have e:=FG (x*2^s) 18446744073709551616;rw[hl]at e;have ho:c |||(x*2^s%18446744073709551616)=c+x*2^s%18446744073709551616:=by
  rw[hm,Nat.or_comm,WB hc,L2]
 have hlt:c+x*2^s%18446744073709551616<18446744073709551616:=by
  rw[hm]
  have:(x%2^(64-s)+1)*2^s<=2^(64-s)*2^s:=CV _ (CI _ (Hk _))
  rw[hpp,B0]at this;omega
 exact⟨ho,hlt,by omega,hl2⟩
structure Sp (w out:List Nat)(s i c:Nat):Prop where
 le:i<=w.length
 len:out.length=w.length+1
 wd:Wd out
 val:AT out=AT (w.take i)*2^s
 at_:out[i]?=some c
 cl:c<2^s
 zero:∀k,i<k->∀d,out[k]?=some d->d=0
theorem tn {w out:List Nat}{s i c x:Nat}(hs:s<=63)(hw:Wd w)(hi:i<w.length)(hx:w[i]?=some x)(I:Sp w out s i c):
  Sp w ((out.set i (c+x*2^s%18446744073709551616)).set (i+1) (x/2^(64-s))) s (i+1) (x/2^(64-s)):=by
 have hxl:x<BB:=hw x (Au hx);obtain⟨_,d2,d3,d4⟩:=Xz hs I.cl hxl;obtain⟨z,hz⟩:∃z,out[i+1]?=some z:=⟨out[i+1]'(by have:=I.len;omega),Bx _⟩
 have hz0:=I.zero _ (IN i) z hz;subst hz0;have s1:=KL (d:=c+x*2^s%18446744073709551616) I.at_;have hz1:(out.set i (c+x*2^s%18446744073709551616))[i+1]?=some 0:=by rw[In (by omega)];exact hz
 have s2:=KL (d:=x/2^(64-s)) hz1;have hbx:AT (w.take (i+1))=AT (w.take i)+BB^i*x:=by rw[Fy hx,HT (i:=i) (by rw[Bd];omega)]
 have hhi:x/2^(64-s)<BB:=Da (GQ _ _) hxl;refine⟨by omega,by rw[Db,Db];exact I.len,(I.wd.set d2).set hhi,?_,?_,d4,λk hk d hd=>?_⟩
 ·have e1:BB^(i+1)*(x/2^(64-s))=BB^i*(18446744073709551616*(x/2^(64-s))):=by rw[CW,B6]
  have e2:BB^i*(c+x*2^s%18446744073709551616+18446744073709551616*(x/2^(64-s)))=BB^i*(c+x*2^s):=by rw[d3]
  rw[BO,BO _ c (x*2^s)]at e2;rw[hbx,B0,<-I.val,B6];omega
 ·rw[TW (by rw[Db];have:=I.len;omega)]
 ·rw[In (by omega),In (by omega)]at hd
  exact I.zero k (by omega) d hd
def Up (w:List Nat)(s:Nat)(H:Hp)(n:Nat)(d:D)(H':Hp)(n':Nat):Prop:=
 ∃(out:List Nat) (g:Nat),out.length=w.length+1/\Wd out/\AT out=AT w*2^s/\d=.osl 103 g 1 0 (w.length+1)/\H'=⟨103,g,190,1,out.map AS⟩::H/\n<=n'
theorem Yh (w:List Nat)(s:Nat)(hs:s<=63)(hw:Wd w)(hl:w.length<4000000)(H:Hp)(n:Nat):Cv C0 202 [wL w,i64 s] H n (Up w s H n):=by
 refine Cv.walk w1 du rfl λF=>?_
 unfold wL;have ew:(((w.map AS).length:Nat):Int)=(w.length:Int):=by rw[Ae]
 have wl:IntKind.i64.wrap ((w.length:Int)+1)=((w.length+1:Nat):Int):=by rw[wI];omega
 have r3:List.replicate (w.length+1) (ofV (.int .u64 0))=(List.replicate (w.length+1) 0).map AS:=by rw[Kw];rfl
 refine sR 0 ?_;refine sZ 100 ?_;refine AV (Ar ew wl kN) ?_;refine AC.seq ?_;refine sZ 200 ?_;refine AV ew ?_;obtain⟨g,hg⟩:∃g,g=n+1+1+1+1:=⟨_,rfl⟩
 rw[<-hg];have I0:Sp w (List.replicate (w.length+1) 0) s 0 0:=⟨BT _,by simp,NP _,by simp[AT,Qz],by simp,Hk s,λk _ d hd=>QU (Au hd)⟩
 refine AC.weak ⟨[(0,.sl false 1 (w.map AS)),(1,i64 s),(4,Cd),(5,.osl 103 g 1 0 (w.length+1)),(12,.sl false 1 (w.map AS)),(13,i64 w.length),(14,i64 0)],⟨103,g,190,1,(List.replicate (w.length+1) 0).map AS⟩::H,n+30⟩ (by rw[<-r3];exact AK) ?_;refine AC.block ?_;refine AC.loop (α:=Nat×Nat×List Nat×Nat) (λp=>⟨[(0,.sl false 1 (w.map AS)),(1,i64 s),(4,Cd),(5,.osl 103 g 1 0 (w.length+1)),(12,.sl false 1 (w.map AS)),(13,i64 w.length),(14,i64 p.1)],⟨103,g,190,1,p.2.2.1.map AS⟩::H,p.2.2.2⟩) (λp=>w.length-p.1)
  (λp=>Sp w p.2.2.1 s p.1 p.2.1/\n<=p.2.2.2) (0,0,List.replicate (w.length+1) 0,n+30)
  ⟨I0,Nat.le_add_right _ _⟩ AK ?_
 rintro⟨i,c,o,m⟩ F ⟨I,hm⟩;dsimp only at I hm⊢;refine sR 300 ?_;refine AC.seq ?_;refine AO ?_
 (refine B7 (λh15=>?_) (λh15=>?_))<;>(try simp only[Bs,B5]at h15)<;>(try simp only[h15])
 ·have hi:i<w.length:=by simpa using h15
  obtain⟨x,hx⟩:∃x,w[i]?=some x:=⟨w[i],Bx hi⟩
  have hx':=Dy hx;have hc':=Dy I.at_;have hxl:x<BB:=hw x (Au hx);obtain⟨d1,d2,d3,d4⟩:=Xz hs I.cl hxl;have J:=tn hs hw hi hx I;have e5:Hv .or .u64 (c:Int) (Lx .u64 (x:Int) (s:Int))=((c+x*2^s%18446744073709551616:Nat):Int):=by
   rw[P6 x s hs,W8 _ _ (by omega) (CI _ (by decide)),d1]
  refine Am ?_;refine AC.seq ?_;refine AC.block ?_;refine sR 400 ?_;refine B3 kT hx' ?_;refine BR ?_;refine AC.seq ?_;refine CR 500 [0,1,2,3,4,5,6] [7,8,9] ?_;refine AF (Bb e5 kN BW hc') ?_;refine Eb rfl rfl ?_;refine N9 rfl rfl rfl hc' ?_;refine AF @map_set ?_;refine AC.seq ?_;obtain⟨z,hz⟩:∃z,o[i+1]?=some z:=⟨o[i+1]'(by have:=I.len;omega),Bx _⟩
  have hz0:=I.zero _ (IN i) z hz;subst hz0;have hz1:(o.set i (c+x*2^s%18446744073709551616))[i+1]?=some 0:=by rw[In (by omega)];exact hz
  have hz':=Dy hz1;have wi:IntKind.i64.wrap ((i:Int)+1)=((i+1:Nat):Int):=wI;rcases EC s with hs0|hs0
  ·have e1:decide ((s:Int)>0)=false:=Bc
   have hx0:x/2^(64-s)=0:=by rw[hs0];exact IJ hxl
   have hset:(o.set i (c+x*2^s%18446744073709551616)).set (i+1) 0=o.set i (c+x*2^s%18446744073709551616):=by
    refine Qf λk=>?_
    rcases Nat.decEq (i+1) k with hk|hk
    ·rw[In hk]
    ·subst hk
     rw[TW (by have:=(BS.1 hz1).1;exact this),hz1]
   rw[hx0,hset]at J;refine Aq 600 ?_;refine AV e1 ?_;refine AO ?_;refine Am ?_;refine Aq 800 ?_;refine AV wi ?_;refine⟨(i+1,0,o.set i (c+x*2^s%18446744073709551616),m+200),⟨J,by dsimp only;omega⟩,by dsimp only;omega,AK⟩
  ·have e1:decide ((s:Int)>0)=true:=BX
   have w64:IntKind.i64.wrap (64-(s:Int))=((64-s:Nat):Int):=by rw[wI];omega
   have w640:(0:Int)<=IntKind.i64.wrap (64-(s:Int)):=by rw[w64];omega
   have e36:=OF x (64-s) (by omega);refine Aq 600 ?_;refine AV e1 ?_;refine AO ?_;refine Aq 700 ?_;refine AF (EP wi w64 e36 kN BW hz') ?_
   try rw[map_set]
   refine Aq 800 ?_;refine AV wi ?_;refine⟨(i+1,x/2^(64-s),(o.set i (c+x*2^s%18446744073709551616)).set (i+1) (x/2^(64-s)),m+200),⟨J,by dsimp only;omega⟩,by dsimp only;omega,AK⟩
 ·have hi:i=w.length:=by
   have:¬i<w.length:=by simpa using h15
   have:=I.le
   omega
  subst hi;have hv:=I.val;rw[Cp (An _)]at hv;refine CO ?_;refine sR 900 ?_;refine Ag ?_;exact⟨o,g,I.len,I.wd,hv,rfl,rfl,by omega⟩
section
variable {C:BA} {B F:AZ} {s:St} {rd:Option Nat} {Q:Exit->AZ->St->Prop}
theorem DL {a b:Code}{α:Type}(S:α->St)(J:α->Prop)(h1:AC C B rd F a s (λe F1 s1=>Jr (F1=F/\∃x,J x/\Wk s1 (S x)) (λe=>Q e F1 s1) e))(h2:∀x,J x->AC C B rd F b (S x) Q):AC C B rd F (.seq a b) s Q:=
 AC.seq (h1.mono λe F1 s1 h=>by
  cases e with
  |normal=>
   obtain⟨h0,x,hx,h3⟩:=(show F1=F/\∃x,J x/\Wk s1 (S x)from h)
   rw[h0];exact AC.weak (S x) h3 (h2 x hx)
  |ret=>exact h
  |exit j=>exact h
  |goto l=>exact h
  |panic c=>exact h
  |outgrown=>exact h)
end
theorem mb {q v c:Nat}(hq:q<BB)(hv:v<BB)(hc:c<BB):
  (q*v%BB+c)%BB+BB*(q*v/BB+(q*v%BB+c)/BB)=q*v+c/\q*v/BB+(q*v%BB+c)/BB<BB:=by
 have hqv:q*v<=(18446744073709551616-1)*(18446744073709551616-1):=GH (by unfold BB at hq;omega) (by unfold BB at hv;omega);have hk:(18446744073709551616-1)*(18446744073709551616-1)=340282366920938463426481119284349108225:=by decide
 rw[hk]at hqv;generalize q*v=p at*;have e1:=FX p BB;have e2:=FX (p%BB+c) BB;have l1:=CI p (show BB>0 by decide);have l2:=CI (p%BB+c) (show BB>0 by decide);unfold BB at*;generalize p/18446744073709551616=A at*;generalize p%18446744073709551616=D at*;generalize(D+c)/18446744073709551616=E at*;generalize(D+c)%18446744073709551616=G at*;omega
theorem Ch {l:List Nat}{i:Nat}(h:i<l.length):∃a,l[i]?=some a:=⟨l[i],Bx h⟩
theorem XH {l:List Nat}{k a:Nat}(hl:l.length=k+1)(ha:l[k]?=some a):AT l=AT (l.take k)+BB^k*a:=by
 rw[LU ha,IK (by omega)];simp[AT]
theorem e1h {l:List Nat}{k a b:Nat}(hl:l.length=k+2)(ha:l[k]?=some a)(hb:l[k+1]?=some b):AT l=AT (l.take k)+BB^k*(a+BB*b):=by
 rw[LU ha]
 have:l.drop (k+1)=[b]:=by
  rw[Ey (by omega),IK (by omega)]
  congr 1
  exact(BS.1 hb).2
 rw[this];simp[AT]
theorem e1i {l:List Nat}{k a b c:Nat}(hl:l.length=k+3)(ha:l[k]?=some a)(hb:l[k+1]?=some b)(hc:l[k+2]?=some c):AT l=AT (l.take k)+BB^k*(a+BB*(b+BB*c)):=by
 rw[LU ha];have h1:=XH (l:=l.drop (k+1)) (k:=1) (a:=c) (by rw[D3];omega) (by rw[IH,FE];exact hc);have h2:(l.drop (k+1)).take 1=[b]:=by
  rw[Ey (by omega)];simp only[List.take_succ_cons,NC]
  congr 1
  exact(BS.1 hb).2
 rw[h1,h2];simp[AT]
structure Nr (P v:List Nat)(m p0 p1 p2 v2 v1:Nat):Prop where
 lP:P.length=m+3
 lv:v.length=m+2
 wP:Wd P
 wv:Wd v
 h0:P[m]?=some p0
 h1:P[m+1]?=some p1
 h2:P[m+2]?=some p2
 g2:v[m]?=some v2
 g1:v[m+1]?=some v1
 top:0<v1
 less:AT P<AT v*BB
namespace Nr
variable {P v:List Nat} {m p0 p1 p2 v2 v1:Nat} (S:Nr P v m p0 p1 p2 v2 v1)
include S
theorem valP:AT P=AT (P.take m)+BB^m*(p0+BB*(p1+BB*p2)):=e1i S.lP S.h0 S.h1 S.h2
theorem valv:AT v=AT (v.take m)+BB^m*(v2+BB*v1):=e1h S.lv S.g2 S.g1
theorem lowP:AT (P.take m)<BB^m:=by
 have:=IV (S.wP.take m)
 rwa [Bd,Ft (by have:=S.lP;omega)]at this
theorem lowv:AT (v.take m)<BB^m:=by
 have:=IV (S.wv.take m)
 rwa [Bd,Ft (by have:=S.lv;omega)]at this
theorem p0l:p0<BB:=S.wP _ (Au S.h0)
theorem p1l:p1<BB:=S.wP _ (Au S.h1)
theorem p2l:p2<BB:=S.wP _ (Au S.h2)
theorem v1l:v1<BB:=S.wv _ (Au S.g1)
theorem v2l:v2<BB:=S.wv _ (Au S.g2)
theorem below3:AT P<(p0+BB*(p1+BB*p2)+1)*BB^m:=by
 rw[S.valP,B0,JS,Ba (BB^m)]
 have:=S.lowP
 omega
theorem below2:AT P<(p1+BB*p2+1)*BB^(m+1):=by
 have h:=S.below3;have h1:=S.p0l;generalize p1+BB*p2=t at*;have h2:(p0+BB*t+1)*BB^m<=(BB*(t+1))*BB^m:=CV _ (by rw[BO BB t 1];omega);have h3:(t+1)*BB^(m+1)=(BB*(t+1))*BB^m:=by rw[CW,Ba (BB^m) BB,<-B6,Ba (t+1) BB]
 omega
theorem abovev:v1*BB^(m+1)<=AT v:=by
 rw[S.valv,CW,BO]
 have:v1*(BB^m*BB)=BB^m*(BB*v1):=by rw[Ba v1,B6]
 omega
theorem abovev2:(v2+BB*v1)*BB^m<=AT v:=by
 rw[S.valv,Ba];omega
theorem pos:0<AT v:=Cq (IM S.top (Nat.pow_pos (by decide))) S.abovev
theorem p2v1:p2<=v1:=by
 rcases BC v1 p2 with h|h
 ·exfalso
  have e1:BB^(m+2)*p2<=AT P:=by
   rw[S.valP,BO,BO,BO]
   have:BB^(m+2)*p2=BB^m*(BB*(BB*p2)):=by rw[CW,CW,B6,B6]
   omega
  have e2:AT v<BB^(m+1)*(v1+1):=by
   have h1:=S.lowv;have h2:=S.v2l;have e3:BB^(m+1)*(v1+1)=BB^m*(BB*v1+BB):=by rw[CW,B6,BO,EY]
   have e4:BB^m*(v2+BB*v1+1)<=BB^m*(BB*v1+BB):=Cs _ (by omega);rw[BO _ _ 1,EY]at e4;rw[S.valv,e3];omega
  have e5:BB^(m+1)*(v1+1)*BB=BB^(m+2)*(v1+1):=by rw[Nat.mul_right_comm,<-CW]
  have e6:BB^(m+2)*(v1+1)<=BB^(m+2)*p2:=Cs _ h;have e7:(AT v)*BB<=BB^(m+1)*(v1+1)*BB:=CV _ (Jz e2)
  have:=S.less
  omega
 ·exact h
end Nr
theorem nZ {B q v2 r c p0:Nat}(hq:q<B)(hv:v2<B)(h:0<c\/q*v2<=r*B+p0):q*v2<=(r+B*c)*B+p0:=by
 rcases h with h|h
 ·have h2:q*v2<=B*B:=GH (by omega) (by omega)
  have h4:B*1<=B*c:=Cs _ h;have h3:B*B<=(r+B*c)*B:=CV _ (by omega);omega
 ·have h3:r*B<=(r+B*c)*B:=CV _ (by omega)
  omega
structure Mp (U V n2 v1 q r c:Nat):Prop where
 eq:q*v1+(r+BB*c)=n2
 up:U<(q+1)*V
 qB:q<BB
 rB:r<BB
 c1:c<=1
section
variable {P v:List Nat} {m p0 p1 p2 v2 v1:Nat} (S:Nr P v m p0 p1 p2 v2 v1)
include S
theorem n9 (h:v1<=p2):Mp (AT P) (AT v) (p1+BB*p2) v1 18446744073709551615 ((p1+v1+0)%BB) ((p1+v1+0)/BB):=by
 have h1:p2=v1:=Nat.le_antisymm S.p2v1 h;have h2:=S.less;have h3:=S.p1l;have h4:=S.v1l;have e:=FX (p1+v1+0) BB;refine⟨?_,?_,by decide,CI _ (by decide),?_⟩
 ·rw[e,h1]
  show 18446744073709551615*v1+(p1+v1+0)=p1+18446744073709551616*v1;omega
 ·rw[Ba];exact h2
 ·have:p1+v1+0<2*BB:=by omega
  exact Of (Fq (by rw[Ba];exact this))
theorem lE (h:p2<v1):Mp (AT P) (AT v) (p1+BB*p2) v1 ((p2*BB+p1)/v1) ((p2*BB+p1)%v1) 0:=by
 have c0:p2*BB+p1=p1+BB*p2:=by rw[Ba,L2]
 rw[c0];have e:=FG (p1+BB*p2) v1;have l:=CI (p1+BB*p2) S.top;have h3:=S.p1l;have h4:=S.v1l;have c1:=Ba v1 ((p1+BB*p2)/v1);refine⟨by omega,X7 S.below2 S.abovev ?_,?_,by omega,by decide⟩
 ·rw[B0];omega
 ·refine Fq ?_
  have:BB*(p2+1)<=BB*v1:=Cs _ h
  rw[BO]at this;rw[Ba v1];omega
theorem mV {q r:Nat}(G:Mp (AT P) (AT v) (p1+BB*p2) v1 q r 0)(h:r*BB+p0<q*v2):
  0<q/\Mp (AT P) (AT v) (p1+BB*p2) v1 (q-1) ((r+v1+0)%BB) ((r+v1+0)/BB):=by
 obtain⟨e,u,b,rb,_⟩:=G;rcases EC q with h0|h0
 ·subst h0;omega
 obtain⟨k,rfl⟩:∃k,q=k+1:=⟨q-1,by omega⟩
 have e1:=FX (r+v1+0) BB;have h4:=S.v1l;have e2:(k+1)*(v2+BB*v1)=(k+1)*v2+BB*((k+1)*v1):=by rw[BO,JU]
 have hn3:p0+BB*(p1+BB*p2)<(k+1)*(v2+BB*v1):=by
  rw[e2,<-e,BO BB,FF,D6 r,Ba BB r];omega
 refine⟨by omega,⟨?_,?_,by omega,CI _ (by decide),?_⟩⟩
 ·rw[JT,e1,<-e,B0];omega
 ·rw[JT];exact YM S.below3 S.abovev2 hn3
 ·have:r+v1+0<2*BB:=by omega
  exact Of (Fq (by rw[Ba];exact this))
theorem YL {q r c:Nat}(G:Mp (AT P) (AT v) (p1+BB*p2) v1 q r c)(h:0<c\/q*v2<=r*BB+p0):q*AT v<=AT P+AT v:=by
 obtain⟨e,u,b,rb,c1⟩:=G;have h5:=S.v2l;have hq:q*v2<=(r+BB*c)*BB+p0:=nZ b h5 h;have e2:q*(v2+BB*v1)=q*v2+BB*(q*v1):=by rw[BO,JU]
 refine ZB (n3:=p0+BB*(p1+BB*p2)) (D:=v2+BB*v1) (P:=BB^m) (B:=BB) (v:=AT (v.take m)) ?_ ?_ S.lowv ?_ (by omega) ?_
 ·rw[S.valP,Ba];omega
 ·rw[S.valv,Ba];omega
 ·rw[e2,<-e,BO BB]
  have:BB*(r+BB*c)=(r+BB*c)*BB:=Ba _ _
  omega
 ·have:=S.top
  have h1:=Cs BB (show 1<=v1 from this);omega
end
theorem mX {x r p0:Nat}(hp:p0<BB):(x/BB<r\/x/BB=r/\x%BB<=p0)↔x<=r*BB+p0:=by
 have e:=FG x BB;have l:=CI x (show 0<BB by decide);generalize x/BB=h at*;generalize x%BB=d at*;unfold BB at*;omega
theorem UP {U V q N:Nat}(h:N+q*V=U+0)(hu:U<(q+1)*V):U/V=q/\U%V=N:=by
 have h1:U=N+V*q:=by rw[Ba];omega
 have h2:N<V:=by rw[B0]at hu;omega
 subst h1;exact⟨by rw[Tb _ _ (by omega),IJ h2,BW],by rw[TT,Fr h2]⟩
theorem Y1 {U V q N N3 T c:Nat}(h:N+q*V=U+T)(hN:N<T)(hu:q*V<=U+V)(h3:N3+T*c=N+V)(hc:c<=1)(h3l:N3<T):0<q/\U/V=q-1/\U%V=N3:=by
 rcases EC q with h0|h0
 ·subst h0;omega
 obtain⟨k,rfl⟩:∃k,q=k+1:=⟨q-1,by omega⟩
 rw[B0,JS]at h hu;have hc1:c=1:=by
  rcases EC c with h4|h4
  ·subst h4;omega
  ·omega
 subst hc1;have h5:N3+k*V=U+0:=by omega
 have h6:U<(k+1)*V:=by rw[B0];omega
 obtain⟨a,b⟩:=UP h5 h6;exact⟨by omega,by rw[a];omega,b⟩
theorem kj {A P v:List Nat}{q i z x d b c b' c' lo:Nat}(hz:A[i]?=some z)(hx:v[i]?=some x)(hI:AT A+q*AT (v.take i)=AT P+BB^i*(c+b))
  (h1:lo+BB*c'=q*x+c) (h2:d+lo+b=z+BB*b'):AT (A.set i d)+q*AT (v.take (i+1))=AT P+BB^(i+1)*(c'+b'):=by
 have hs:=KL (d:=d) hz;have hi:i<v.length:=(BS.1 hx).1;rw[Fy hx,HT (i:=i) (by rw[Bd];omega),BO,JU q,CW,B6];have e:BB^i*(d+q*x+(c+b))=BB^i*(z+BB*(c'+b')):=by congr 1;rw[BO BB];omega
 rw[BO,BO,BO (BB^i) z]at e;omega
theorem km {A P:List Nat}{i z d X b c b':Nat}(hz:A[i]?=some z)(hI:AT A+X=AT P+BB^i*(c+b))(h2:d+c+b=z+BB*b'):AT (A.set i d)+X=AT P+BB^(i+1)*b':=by
 have hs:=KL (d:=d) hz;rw[CW,B6];have e:BB^i*(d+(c+b))=BB^i*(z+BB*b'):=by congr 1;omega
 rw[BO,BO (BB^i) z]at e;omega
theorem kX {A P v:List Nat}{i z x c:Nat}(hz:A[i]?=some z)(hx:v[i]?=some x)(hI:AT A+BB^i*c=AT P+AT (v.take i)):
  AT (A.set i ((z+x+c)%BB))+BB^(i+1)*((z+x+c)/BB)=AT P+AT (v.take (i+1)):=by
 have hs:=KL (d:=(z+x+c)%BB) hz;have hi:i<v.length:=(BS.1 hx).1;rw[Fy hx,HT (i:=i) (by rw[Bd];omega),CW,B6];have e:BB^i*((z+x+c)%BB+BB*((z+x+c)/BB))=BB^i*(z+x+c):=by rw[FX]
 rw[BO,BO,BO (BB^i) z]at e;omega
theorem kf {A:List Nat}{i z c X:Nat}(hz:A[i]?=some z)(hI:AT A+BB^i*c=X):
  AT (A.set i ((z+c)%BB))+BB^(i+1)*((z+c)/BB)=X:=by
 have hs:=KL (d:=(z+c)%BB) hz;rw[CW,B6];have e:BB^i*((z+c)%BB+BB*((z+c)/BB))=BB^i*(z+c):=by rw[FX]
 rw[BO,BO (BB^i) z]at e;omega
theorem Mf {A P Z:List Nat}{i z:Nat}(h:P[i]?=some z):((A++(P++Z)).map AS)[A.length+i]?=some (AS z):=by
 have hi:i<P.length:=(BS.1 h).1;refine Dy ?_;rw[Fp (by omega),L0,HM hi];exact h
theorem R4 {A P Z:List Nat}{i d:Nat}(hi:i<P.length):((A++(P++Z)).map AS).set (A.length+i) (AS d)=(A++(P.set i d++Z)).map AS:=by
 rw[map_set,Ob _ _ (by omega),L0,List.set_append_left _ _ hi]
set_option maxHeartbeats 2000000
def rF (A P Z v:List Nat)(gq Tq gu:Nat)(qs:List D)(d:D)(H':Hp)(_:Nat):Prop:=
 ∃P':List Nat,P'.length=P.length/\Wd P'/\AT P'=AT P%AT v/\d=AS (AT P/AT v)/\H'=[⟨1505,gq,Tq,1,qs⟩,⟨103,gu,190,1,(A++(P'++Z)).map AS⟩]
theorem t8 (A P Z v:List Nat)(m p0 p1 p2 v2 v1:Nat)(S:Nr P v m p0 p1 p2 v2 v1)(hm:A.length+m<4000000)(gq Tq gu:Nat)(qs:List D)(n:Nat):
  Cv C0 203 [.osl 103 gu 1 A.length (m+3),wL v] [⟨1505,gq,Tq,1,qs⟩,⟨103,gu,190,1,(A++(P++Z)).map AS⟩] n (rF A P Z v gq Tq gu qs):=by
 refine Cv.walk w1 dw rfl λF=>?_
 unfold wL;have hPl:=S.lP;have hvl:=S.lv;have ev:(((v.map AS).length:Nat):Int)=((m+2:Nat):Int):=by rw[Ae,hvl]
 have k1:IntKind.i64.wrap (((m+2:Nat):Int)-1)=((m+1:Nat):Int):=by rw[wI];omega
 have k2:IntKind.i64.wrap (((m+2:Nat):Int)-2)=(m:Int):=by rw[wI];omega
 have hp0:=Mf (A:=A) (Z:=Z) S.h0;have hp1:=Mf (A:=A) (Z:=Z) S.h1;have hp2:=Mf (A:=A) (Z:=Z) S.h2;have hv1:=Dy S.g1;have hv2:=Dy S.g2;have l0:=S.p0l;have l1:=S.p1l;have l2:=S.p2l;have lv1:=S.v1l;have lv2:=S.v2l;refine sR 0 ?_;refine sZ 100 ?_;refine AV ev ?_;refine sR 200 ?_;refine sR 300 ?_;refine DL (α:=Nat×Nat×Nat×Nat) (λp=>⟨[(0,.osl 103 gu 1 A.length (m+3)),(1,.sl false 1 (v.map AS)),(5,i64 ((m+2:Nat):Int)),(6,AS p.1),(7,AS p.2.1),(8,AS p.2.2.1)],[⟨1505,gq,Tq,1,qs⟩,⟨103,gu,190,1,(A++(P++Z)).map AS⟩],p.2.2.2⟩)
  (λp=>Mp (AT P) (AT v) (p1+BB*p2) v1 p.1 p.2.1 p.2.2.1) ?_ ?_
 ·refine AC.seq ?_
  refine CR 400 [0,1,2,3,4,5,6,7,8] [9] ?_;refine AF (Ar kN k1 hp2) ?_;refine B3 kT hv1 ?_;refine AF (Ar kN k1 hp2) ?_;rcases BC p2 v1 with h|h
  ·have e1:decide ((p2:Int)>=(v1:Int))=false:=Bc
   have G:=lE S h;rw[e1];refine AO ?_;refine CR 700 [0,1,2,3,4,5,6,7,8,9,10,11,12,13,14,15,16,17,18] [19] ?_;refine AF (Bb kN k1 hp2 hp1) ?_;refine B3 kT hv1 ?_;refine AF (Bb kN k1 hp2 hp1) ?_;refine Bf.same _ (Zv p2 p1 v1 h l1 lv1) AJ ?_;refine BR ?_;exact⟨trivial,⟨(p2*BB+p1)/v1,(p2*BB+p1)%v1,0,_⟩,G,AK⟩
  ·have e1:decide ((p2:Int)>=(v1:Int))=true:=BX
   have G:=n9 S h;rw[e1];refine AO ?_;refine sR 500 ?_;refine CR 600 [0,1,2,3,4,5,6,7,8,9,10,11,12,13,14] [15] ?_;refine AF (Bb kN k1 hp2 hp1) ?_;refine B3 kT hv1 ?_;refine AF (Bb kN k1 hp2 hp1) ?_;exact⟨trivial,⟨18446744073709551615,(p1+v1+0)%BB,(p1+v1+0)/BB,_⟩,G,AK⟩
 rintro⟨q0,r0,c0,n0⟩ G0;dsimp only at G0⊢;refine DL (α:=Nat×Nat) (λp=>⟨[(0,.osl 103 gu 1 A.length (m+3)),(1,.sl false 1 (v.map AS)),(5,i64 ((m+2:Nat):Int)),(6,AS p.1)],[⟨1505,gq,Tq,1,qs⟩,⟨103,gu,190,1,(A++(P++Z)).map AS⟩],p.2⟩)
  (λp=>p.1<BB/\AT P<(p.1+1)*AT v/\p.1*AT v<=AT P+AT v) ?_ ?_
 ·refine AC.block ?_
  refine Gi (α:=Nat×Nat×Nat×Nat) (λp=>⟨[(0,.osl 103 gu 1 A.length (m+3)),(1,.sl false 1 (v.map AS)),(5,i64 ((m+2:Nat):Int)),(6,AS p.1),(7,AS p.2.1),(8,AS p.2.2.1)],[⟨1505,gq,Tq,1,qs⟩,⟨103,gu,190,1,(A++(P++Z)).map AS⟩],p.2.2.2⟩)
   (λp=>p.1) (λp F'=>F'=F/\Mp (AT P) (AT v) (p1+BB*p2) v1 p.1 p.2.1 p.2.2.1) (q0,r0,c0,n0) ⟨rfl,G0⟩ AK ?_
  rintro⟨q,r,c,n1⟩ F' ⟨rfl,G⟩;dsimp only at G⊢;refine AC.seq ?_;refine AC.seq ?_;rcases EC c with hc|hc
  ·subst hc
   have e8:(((0:Nat):Int)==0)=true:=rfl;refine Aq 800 ?_;refine AV e8 ?_;refine AO ?_;refine Am ?_;refine AC.block ?_;have lq:=G.qB;have cm:=PK q v2 lq lv2;refine sZ 900 ?_;refine AF (Ab kN k2) ?_;refine B3 kT hv2 ?_;refine AF (Ab kN k2) ?_;refine BE.same _ cm AJ ?_;refine BR ?_;have ht:=mX (x:=q*v2) (r:=r) l0;obtain⟨b,hb⟩:∃b:Bool,b=decide (q*v2<=r*BB+p0):=⟨_,rfl⟩
   refine AC.seq ?_;refine EI ⟨[(0,.osl 103 gu 1 A.length (m+3)),(1,.sl false 1 (v.map AS)),(5,i64 ((m+2:Nat):Int)),(6,AS q),(7,AS r),(91,Ap b)],[⟨1505,gq,Tq,1,qs⟩,⟨103,gu,190,1,(A++(P++Z)).map AS⟩],n1+100⟩ ?_ ?_
   ·change(q*v2/18446744073709551616<r\/q*v2/18446744073709551616=r/\q*v2%18446744073709551616<=p0)↔_ at ht
    generalize q*v2/18446744073709551616=hi at*;generalize q*v2%18446744073709551616=lo at*;rcases BC hi r with h|h
    ·have e1:decide ((hi:Int)<(r:Int))=true:=BX
     have hb1:b=true:=by rw[hb];exact Ax (ht.1 (.inl h))
     subst hb1;refine Aq 1000 ?_;refine AF e1 ?_;refine AF kT ?_;exact BK (by trivial) (AK)
    ·have e1:decide ((hi:Int)<(r:Int))=false:=Bc
     rcases Nat.eq_or_lt_of_le h with h2|h2
     ·have e2:((hi:Int)==(r:Int))=true:=Ek.2 (by omega)
      have e3:decide ((lo:Int)<=(p0:Int))=b:=by
       rw[hb];exact DO.2 ⟨λh3=>ht.1 (.inr ⟨h2.symm,by omega⟩),λh3=>by rcases ht.2 h3 with h4|h4<;>omega⟩
      refine Aq 1000 ?_;refine AF e1 ?_;refine AF (Ab kF e2) ?_;refine AF (EP kF e2 kN k2 hp0 e3) ?_;exact BK (by trivial) (AK)
     ·have e2:((hi:Int)==(r:Int))=false:=B4.2 (by omega)
      have hb1:b=false:=by rw[hb];exact A8 λh3=>by rcases ht.2 h3 with h4|h4<;>omega
      subst hb1;refine Aq 1000 ?_;refine AF e1 ?_;refine AF kF ?_;simp only[e2];refine AF (Ab kF Ip) ?_;exact BK (by trivial) (AK)
   ·cases b
    ·have hn:=Ds hb.symm
     obtain⟨hq0,G2⟩:=mV S G (by omega);have j1:IntKind.u64.wrap ((q:Int)-1)=((q-1:Nat):Int):=by rw[wU (by omega) (by have:=G.qB;unfold BB at this;omega)];omega
     refine AO ?_;refine Am ?_;refine sZ 1100 ?_;refine AV j1 ?_;refine Aq 1200 ?_;refine AF (Ab kN k1) ?_;refine B3 kT hv1 ?_;refine AF (Ab kN k1) ?_;exact⟨(q-1,(r+v1+0)%BB,(r+v1+0)/BB,_),⟨trivial,G2⟩,by dsimp only;omega,AK⟩
    ·have hn:=DN hb.symm
     refine AO ?_;refine CO ?_;exact⟨rfl,⟨q,_⟩,⟨G.qB,G.up,YL S G (.inr hn)⟩,AK⟩
  ·have e8:((c:Int)==0)=false:=B4.2 (by omega)
   refine Aq 800 ?_;refine AV e8 ?_;refine AO ?_;refine CO ?_;exact⟨rfl,⟨q,_⟩,⟨G.qB,G.up,YL S G (.inl hc)⟩,AK⟩
 rintro⟨q,n1⟩ ⟨hq,hup,hdn⟩;dsimp only at hq hup hdn⊢;clear hp0 hp1 hp2;refine sR 1300 ?_;refine AC.seq ?_;refine sR 1400 ?_;refine AC.block ?_;refine AC.loop (α:=Nat×Nat×Nat×List Nat×Nat) (λp=>⟨[(0,.osl 103 gu 1 A.length (m+3)),(1,.sl false 1 (v.map AS)),(5,i64 ((m+2:Nat):Int)),(6,AS q),(11,AS p.2.1),(12,AS p.2.2.1),(104,i64 ((m+2:Nat):Int)),(105,i64 p.1)],[⟨1505,gq,Tq,1,qs⟩,⟨103,gu,190,1,(A++(p.2.2.2.1++Z)).map AS⟩],p.2.2.2.2⟩) (λp=>m+2-p.1)
  (λp=>p.1<=m+2/\p.2.1<=1/\p.2.2.1<BB/\p.2.2.2.1.length=m+3/\Wd p.2.2.2.1/\AT p.2.2.2.1+q*AT (v.take p.1)=AT P+BB^p.1*(p.2.2.1+p.2.1)) (0,0,0,P,_) ⟨BT _,BT _,(show 0<BB by decide),hPl,S.wP,by simp[AT]⟩ AK ?_
 rintro⟨i,b,c,p,n2⟩ F ⟨hi,hb,hc,hpl,hpw,hI⟩;dsimp only at hi hb hc hpl hpw hI⊢;have hv1':=hv1;clear hv1 hv2;refine sR 1500 ?_;refine AC.seq ?_;refine AO ?_
 (refine B7 (λhlt=>?_) (λhlt=>?_))<;>(try simp only[Bs,B5]at hlt)<;>(try simp only[hlt])
 ·have hi2:i<m+2:=by
   have:=DN hlt
   omega
  obtain⟨x,hx⟩:=Ch (l:=v) (i:=i) (by omega);have hx':=Dy hx;have hxl:x<BB:=S.wv x (Au hx);obtain⟨z,hz⟩:=Ch (l:=p) (i:=i) (by omega);have hz':=Mf (A:=A) (Z:=Z) hz;have hzl:z<BB:=hpw z (Au hz);have cm:=PK q x hq hxl;have md:=mb hq hxl hc;obtain⟨h,l,lo,k,c',eh,el,elo,ek,ec,hlo,hc',hmd⟩:∃h l lo k c',q*x/18446744073709551616=h/\q*x%18446744073709551616=l/\(l+c+0)%18446744073709551616=lo/\(l+c+0)/18446744073709551616=k/\h+k=c'/\lo<BB/\c'<BB/\lo+BB*c'=q*x+c:=
   ⟨_,_,_,_,_,rfl,rfl,rfl,rfl,rfl,CI _ (by decide),md.2,md.1⟩
  rw[eh,el]at cm;have j1:IntKind.u64.wrap ((h:Int)+(k:Int))=(c':Int):=by rw[<-Int.natCast_add,ec];exact XV hc'
  have hsub:=U2 (a:=z) (b:=lo) hb;have hdig:=UR hzl hlo hb;have hb':(if z<lo+b then 1 else 0)<=1:=by split<;>decide
  have hd:(z+BB-lo-b)%BB<BB:=CI _ (by decide);generalize(if z<lo+b then 1 else 0)=b' at*;generalize(z+BB-lo-b)%BB=d at*;have wi:IntKind.i64.wrap ((i:Int)+1)=((i+1:Nat):Int):=wI;refine Am ?_;refine AC.seq ?_;refine AC.block ?_;refine sR 1600 ?_;refine sZ 1700 ?_;refine AF kN ?_;refine B3 kT hx' ?_;refine AF kN ?_;refine BE.same _ cm AJ ?_;refine BR ?_;refine sR 1800 ?_;refine sZ 1900 ?_;refine AV (Ab elo ek) ?_;refine sZ 2000 ?_;refine AV j1 ?_;refine Aq 2100 ?_;refine AF (Ab kN hz') ?_
  first|(refine Eb rfl rfl ?_;refine Rv rfl rfl (hsub) ?_)|(refine FM rfl rfl ?_;refine Pe rfl rfl (hsub) ?_)
  refine AF (Ab kN hz') ?_;rw[R4 (by omega)];refine Aq 2200 ?_;refine AV wi ?_;exact⟨(i+1,b',c',p.set i d,_),⟨hi2,hb',hc',by dsimp only;rw[Db];exact hpl,hpw.set hd,kj hz hx hI hmd hdig⟩,by dsimp only;omega,AK⟩
 ·have hi2:i=m+2:=by
   have:=Ds hlt
   omega
  subst hi2;rw[Gs]at hI;obtain⟨z,hz⟩:=Ch (l:=p) (i:=m+2) (by omega);have hz':=Mf (A:=A) (Z:=Z) hz;have hzl:z<BB:=hpw z (Au hz);have hsub:=U2 (a:=z) (b:=c) hb;have hdig:=UR hzl hc hb;have hb':(if z<c+b then 1 else 0)<=1:=by split<;>decide
  have hd:(z+BB-c-b)%BB<BB:=CI _ (by decide);generalize(if z<c+b then 1 else 0)=b' at*;generalize(z+BB-c-b)%BB=d at*;have hT:=km hz hI hdig;have hml:m+2<p.length:=by omega
  refine CO ?_;refine sZ 2300 ?_;refine AF (Ab kN hz') ?_
  first|(refine Eb rfl rfl ?_;refine Rv rfl rfl (hsub) ?_)|(refine FM rfl rfl ?_;refine Pe rfl rfl (hsub) ?_)
  refine AF (Ab kN hz') ?_;rw[R4 hml];have hpl2:(p.set (m+2) d).length=m+3:=by rw[Db];exact hpl
  have hpw2:=hpw.set (i:=m+2) hd;clear hz' hz hdig hsub hI;generalize p.set (m+2) d=p2 at*;refine AC.seq ?_;refine AC.seq ?_;rcases EC b' with hb0|hb0
  ·subst hb0
   have e24:(((0:Nat):Int)==0)=true:=rfl;obtain⟨ed,em⟩:=UP hT hup;refine Aq 2400 ?_;refine AV e24 ?_;refine AO ?_;refine sR 2500 ?_;refine Ag ?_;exact⟨p2,by omega,hpw2,em.symm,by rw[ed],rfl⟩
  ·have hb1:b'=1:=by omega
   subst hb1;have e24:(((1:Nat):Int)==0)=false:=rfl;have hpL:=IV hpw2;rw[hpl2]at hpL;refine Aq 2400 ?_;refine AV e24 ?_;refine AO ?_;refine Am ?_;refine sR 2600 ?_;refine AC.seq ?_;refine sR 2700 ?_;refine AC.block ?_;refine AC.loop (α:=Nat×Nat×List Nat×Nat) (λp=>⟨[(0,.osl 103 gu 1 A.length (m+3)),(1,.sl false 1 (v.map AS)),(5,i64 ((m+2:Nat):Int)),(6,AS q),(17,AS p.2.1),(156,i64 ((m+2:Nat):Int)),(157,i64 p.1)],[⟨1505,gq,Tq,1,qs⟩,⟨103,gu,190,1,(A++(p.2.2.1++Z)).map AS⟩],p.2.2.2⟩) (λp=>m+2-p.1)
    (λp=>p.1<=m+2/\p.2.1<=1/\p.2.2.1.length=m+3/\Wd p.2.2.1/\AT p.2.2.1+BB^p.1*p.2.1=AT p2+AT (v.take p.1)) (0,0,p2,_) ⟨BT _,BT _,hpl2,hpw2,by simp[AT]⟩ AK ?_
   rintro⟨i,c3,p3,n3⟩ F ⟨hi,hc3,hpl3,hpw3,hI⟩;dsimp only at hi hc3 hpl3 hpw3 hI⊢;refine sR 2800 ?_;refine AC.seq ?_;refine AO ?_
   (refine B7 (λhlt=>?_) (λhlt=>?_))<;>(try simp only[Bs,B5]at hlt)<;>(try simp only[hlt])
   ·have hi2:i<m+2:=by
     have:=DN hlt
     omega
    obtain⟨x,hx⟩:=Ch (l:=v) (i:=i) (by omega);have hx':=Dy hx;have hxl:x<BB:=S.wv x (Au hx);obtain⟨z,hz⟩:=Ch (l:=p3) (i:=i) (by omega);have hz':=Mf (A:=A) (Z:=Z) hz;have hzl:z<BB:=hpw3 z (Au hz);have hadd:=ZR (a:=z) (b:=x) hc3;have J:=kX hz hx hI;have hs:(z+x+c3)%BB<BB:=CI _ (by decide);have hc':(z+x+c3)/BB<=1:=by
     have:z+x+c3<2*BB:=by omega
     exact Of (Fq (by rw[Ba];exact this))
    generalize(z+x+c3)%BB=d at*;generalize(z+x+c3)/BB=c' at*;have wi:IntKind.i64.wrap ((i:Int)+1)=((i+1:Nat):Int):=wI;refine Am ?_;refine AC.seq ?_;refine AC.block ?_;refine sR 2900 ?_;refine QQ w1 3000 [0,1,2,3,4,5,6,7,8,9,10,11,12,13,14,15,16] [17] 16 [12,10,9,8,7,6,5,4,3,2,1,0,11,13,15] (103) (by kernel_rfl) (by kernel_rfl) ?_;refine BM ?_;refine NF (Ab kN hz') ?_;refine NO rfl rfl rfl rfl ?_;refine N8 (λ_ _=>rfl) (by exact CL) ⟨rfl,by omega⟩ hx' ?_
    try dsimp only[D.cells,spot]
    refine NF (Ab kN hz') ?_;refine NO rfl rfl rfl rfl ?_;refine Pe rfl rfl hadd ?_;refine NF (Ab kN hz') ?_;refine BK (by first|exact Or.inl AB|exact Or.inl rfl) ?_;refine AF kN ?_;rw[R4 (by omega)];refine Aq 3100 ?_;refine AV wi ?_;exact⟨(i+1,c',p3.set i d,_),⟨hi2,hc',by dsimp only;rw[Db];exact hpl3,hpw3.set hs,J⟩,by dsimp only;omega,AK⟩
   ·have hi2:i=m+2:=by
     have:=Ds hlt
     omega
    subst hi2;rw[Cp (l:=v) (by omega)]at hI;obtain⟨z,hz⟩:=Ch (l:=p3) (i:=m+2) (by omega);have hz':=Mf (A:=A) (Z:=Z) hz;have hzl:z<BB:=hpw3 z (Au hz);have J:=kf hz hI;have hs:(z+c3)%BB<BB:=CI _ (by decide);have hc':(z+c3)/BB<=1:=by
     have:z+c3<2*BB:=by omega
     exact Of (Fq (by rw[Ba];exact this))
    have j1:IntKind.u64.wrap ((z:Int)+(c3:Int))=(((z+c3)%BB:Nat):Int):=by rw[<-Int.natCast_add];exact Jf _
    generalize(z+c3)%BB=d at*;generalize(z+c3)/BB=c' at*;have hml:m+2<p3.length:=by omega
    have hpl4:(p3.set (m+2) d).length=m+3:=by rw[Db];exact hpl3
    have hpw4:=hpw3.set (i:=m+2) hs;have hpL4:=IV hpw4;rw[hpl4]at hpL4;obtain⟨q0p,ed,em⟩:=Y1 (by rw[EY]at hT;exact hT) hpL hdn J hc' hpL4;have j2:IntKind.u64.wrap ((q:Int)-1)=((q-1:Nat):Int):=by rw[wU (by omega) (by unfold BB at hq;omega)];omega
    refine CO ?_;refine sZ 3200 ?_;refine AF (Ar kN hz' j1) ?_;rw[R4 hml];refine sZ 3300 ?_;refine AV j2 ?_;refine Ag ?_;exact⟨p3.set (m+2) d,by omega,hpw4,em.symm,by rw[ed],rfl⟩
theorem Cv.toP {C:BA}{f:Nat}{args:List D}{Φ:D->Hp->Nat->Prop}{Ψ:D->Prop}(h:Cv C f args [] 0 Φ)(k:∀d H n,Φ d H n->∃d',Fz H [] d d'/\CK d'/\Ψ d'):Ad C f args Ψ:=by
 refine⟨h.1,λY w vs hG hnG hX' hvs hr=>?_⟩
 let F0:AZ:=⟨w,Y,λ_=>False,0,nol,[]⟩
 have m0:Al C F0 nol [] w:=⟨⟨by simp,.nil,by simp⟩,rfl,rfl,rfl,An _,λ_ _ _=>rfl,hX',hG,hnG,by simp[F0],λ_ _ _ h=>h,λ_ cs _ _ h=>⟨cs,_,h,rfl⟩⟩
 have hoe:AN F0.X nol []=Y:=funext λb=>propext (by simp[AN,F0])
 refine(h.2 F0 nol w vs m0 (λ_ _ _=>rfl) (by simp) hvs (λi d hd=>by rw[hoe];exact hr i d hd)).mono ?_;rintro e w' ⟨v,d,H',n',ρ',rfl,hΦ,m,x,fr,g,r⟩;obtain⟨d',h3,h4,h5⟩:=k d H' n' hΦ;have hH:C3 H' [] H' []:=by
  generalize H'=H0
  have:∀H1:Hp,C3 H0 [] H1 []:=λH1=>by
   induction H1 with
   |nil=>exact .nil
   |cons e r ih=>exact .drop ih
  exact this H0
 obtain⟨m2,hO,hN⟩:=hH.mem m;have r3:=h3.rep m hO hN r;have r4:=h4 _ nol _ _ _ r3;exact⟨v,d',rfl,⟨m.os,m.tape,m.output,m.size,λb hb=>m.blk b hb (by simp[F0])⟩,h5,r4.anti λb hb=>.inl hb⟩
theorem eU {H Hf:Hp}{a a' b b':D}(h1:Fz H Hf a a')(h2:Fz H Hf b b'):Fz H Hf (.tup [a,b]) (.tup [a',b']):=
 .tup rfl λi d d' hd hd'=>by
  match i with
  | 0=>simp at hd hd';subst hd;subst hd';exact h1
  | 1=>simp at hd hd';subst hd;subst hd';exact h2
  |i+2=>simp at hd
theorem aG {a b:D}(h1:CK a)(h2:CK b):CK (.tup [a,b]):=CK.tup λd hd=>by
 simp only[A9,Dv,or_false]at hd;rcases hd with rfl|rfl
 ·exact h1
 ·exact h2
theorem lC (K g T:Nat)(l l':List Nat)(h:l.take l'.length=l'):Fz [⟨K,g,T,1,l.map AS⟩] [] (.osl K g 1 0 l'.length) (wL l'):=by
 have hll:l'.length<=l.length:=by
  have:=congrArg List.length h
  rw[Bd]at this;omega
 have key:∀(j:Nat) (d d':D),(l.map AS)[0+j]?=some d->(l'.map AS)[j]?=some d'->d=d':=λj d d' h1 h2=>by
  rw[<-h,Az,FU]at h2;rw[BW,Az]at h1;split at h2
  ·rw[h1]at h2;exact FY h2
  ·simp at h2
 refine .osl (e:=⟨K,g,T,1,l.map AS⟩) (by simp[Hp.get]) rfl rfl rfl (by simp;exact hll) (by simp) (λj d d' h1 h2=>by rw[key j d d' h1 h2]) λj d d' q c c' h1 h2 h3 h4=>?_
 rw[key j d d' h1 h2]at h3;rw[h3]at h4;cases h4;exact Fz.refl _
theorem tI:wD 0=.sl false 1 []:=by unfold wD;rw[GX];rfl
theorem oW (w:List Nat)(s:Nat)(hs:s<=63)(hw:Wd w)(hl:w.length<4000000):Ad C0 202 [wL w,i64 s] (λd=>∃out:List Nat,out.length=w.length+1/\Wd out/\AT out=AT w*2^s/\d=wL out):=
 (Yh w s hs hw hl [] 0).toP λd H n ⟨out,g,h1,h2,h3,h4,h5,_⟩=>by
  subst h4;subst h5;refine⟨wL out,?_,LT _,out,h1,h2,h3,rfl⟩
  have:=lC 103 g 190 out out (by simp)
  rw[h1]at this;exact this
theorem nV {n k:Nat}(h1:BB^k<=n)(h2:n<BB^(k+1)):(Af n).length=k+1:=by
 have h3:=Hn h2;have h4:=Da h1 (KI n);have h5:=(Nat.pow_lt_pow_iff_right (show 1<BB by decide)).1 h4;omega
theorem UY:∀(n:Nat) {k a:Nat},(Af n).length=k+1->(Af n)[k]?=some a->a≠0:=λn=>by
 induction n using Nat.strongRecOn with
 |ind n ih=>
  intro k a h1 h2
  by_cases h0:n=0
  ·subst h0;rw[GX]at h1;cases h1
  ·rw[Gw h0]at h1 h2
   rw[Br]at h1;have h3:=Nat.succ.inj h1;cases k with
   |zero=>
    have h4:Af (n/BB)=[]:=FC h3;have h5:n/BB=0:=by rw[<-Fc (n/BB),h4];rfl
    have h6:=FX n BB;rw[h5]at h6;simp at h2;intro h7;subst h7;rw[h2]at h6;omega
   |succ k=>
    rw[Ks]at h2;exact ih _ (Ir (EX h0) (by decide)) h3 h2
theorem Zh {n k:Nat}(h:(Af n).length=k+1):BB^k<=n:=by
 obtain⟨a,ha⟩:=Ch (l:=Af n) (i:=k) (by omega);have h1:=UY n h ha;have h2:=XH h ha;rw[Fc]at h2;have h3:=Cs (BB^k) (show 1<=a by omega);omega
theorem yV {b m y s:Nat}(hs:s<=63)(hl:(Af b).length=m+1)(hy:(Af b)[m]?=some y)(h:y*2^s<BB):(Af (b*2^s)).length=m+1:=by
 have hp:0<2^s:=Hk s;have hpp:2^(64-s)*2^s=BB:=by rw[<-Gl,show 64-s+s=64 by omega]
 have h1:y<2^(64-s):=by
  rw[<-hpp]at h;exact Nat.lt_of_mul_lt_mul_right h
 refine nV ?_ ?_
 ·have:=Zh hl
  exact BV this (Nat.le_mul_of_pos_right _ hp)
 ·have h2:=XH hl hy
  have h3:=IV ((F3 b).take m);rw[Bd,hl,Ft (by omega)]at h3;rw[Fc]at h2;have h4:b<BB^m*(y+1):=by rw[BO,EY];omega
  have h5:BB^m*(y+1)<=BB^m*2^(64-s):=Cs _ h1;have h6:b*2^s<BB^m*2^(64-s)*2^s:=TQ (Cq h4 h5) hp;rw[B6,hpp]at h6;exact h6
theorem Zz {l:List Nat}{j a:Nat}(h:l[j]?=some a):AT (l.drop j)=a+BB*AT (l.drop (j+1)):=by
 have hj:j<l.length:=(BS.1 h).1;rw[Ey hj,(BS.1 h).2];rfl
theorem RQ {l:List Nat}{j a:Nat}(h:j<l.length):(l.set j a).drop j=a::l.drop (j+1):=by
 rw[Ey (by rw[Db];exact h)]
 congr 1
 ·exact List.getElem_set_self _
 ·rw[List.drop_set_of_lt (by omega)]
theorem lk {a q:List Nat}{j x b rest:Nat}(hb:0<b)(hx:a[j]?=some x)(hj:j<q.length)(hI:AT (q.drop (j+1))*b+rest=AT (a.drop (j+1))):
  AT ((q.set j ((rest*BB+x)/b)).drop j)*b+(rest*BB+x)%b=AT (a.drop j)/\(rest*BB+x)%b<b:=by
 refine⟨?_,CI _ hb⟩;rw[RQ hj,Zz hx,<-hI,AT];have e:=FG (rest*BB+x) b;rw[B0,BO BB,B6 BB,Ba BB rest,Ba _ b];omega
theorem RG {q b r a:Nat}(h:q*b+r=a)(hr:r<b):q=a/b/\r=a%b:=by
 subst h;rw[Ba];exact⟨by rw[Nat.mul_add_div (by omega),IJ hr,D6],by rw[Nat.mul_add_mod,Fr hr]⟩
structure Me (X:Nat)(v U q:List Nat)(lu lq k:Nat):Prop where
 lU:U.length=lu
 lQ:q.length=lq
 wU:Wd U
 wq:Wd q
 val:BB^k*AT (q.drop k)*AT v+AT U=X
 less:AT (U.drop k)<AT v
theorem jd {U:List Nat}(j n:Nat):U=U.take j++((U.drop j).take n++U.drop (j+n)):=by
 rw[<-List.drop_drop,FB,FB]
theorem ox {X:Nat}{v U q:List Nat}{lu lq j m:Nat}(I:Me X v U q lu lq (j+1))(hv:v.length=m+2)(wv:Wd v)(v1 v2:Nat)(h2:v[m]?=some v2)(h1:v[m+1]?=some v1)(ht:0<v1)(hj:j+(m+3)<=lu):
  ∃p0 p1 p2,Nr ((U.drop j).take (m+3)) v m p0 p1 p2 v2 v1/\AT (U.drop (j+(m+3)))=0/\AT ((U.drop j).take (m+3))=AT (U.drop j):=by
 obtain⟨lU,lQ,wU,wq,val,less⟩:=I;obtain⟨x,hx⟩:=Ch (l:=U) (i:=j) (by omega);have hxl:=wU x (Au hx);have e1:=Zz hx;have hlt:AT (U.drop j)<AT v*BB:=by
  have:BB*(AT (U.drop (j+1))+1)<=BB*AT v:=Cs _ less
  rw[BO,Ba BB (AT v)]at this;omega
 have hPl:((U.drop j).take (m+3)).length=m+3:=by rw[Bd,D3];omega
 have e2:AT (U.drop j)=AT ((U.drop j).take (m+3))+BB^(m+3)*AT (U.drop (j+(m+3))):=by
  conv=>lhs;rw[<-FB (m+3) (U.drop j)]
  rw[LA,hPl,List.drop_drop]
 have hvl:=IV wv;rw[hv]at hvl;have hz:AT (U.drop (j+(m+3)))=0:=by
  rcases EC (AT (U.drop (j+(m+3))))with h|h
  ·exact h
  ·exfalso
   have e3:BB^(m+3)*1<=BB^(m+3)*AT (U.drop (j+(m+3))):=Cs _ h;have e4:AT v*BB<=BB^(m+2)*BB:=CV _ (Jz hvl);have e5:BB^(m+2)*BB=BB^(m+3):=(CW BB (m+2)).symm;rw[e5]at e4;omega
 rw[hz,FF,D6]at e2;obtain⟨p0,h0⟩:=Ch (l:=(U.drop j).take (m+3)) (i:=m) (by omega);obtain⟨p1,h3⟩:=Ch (l:=(U.drop j).take (m+3)) (i:=m+1) (by omega);obtain⟨p2,h4⟩:=Ch (l:=(U.drop j).take (m+3)) (i:=m+2) (by omega);exact⟨p0,p1,p2,⟨hPl,hv,λa ha=>wU a (Kv (E3 ha)),wv,h0,h3,h4,h2,h1,ht,by rw[<-e2];exact hlt⟩,hz,e2.symm⟩
theorem ow {X:Nat}{v U q P':List Nat}{lu lq j m:Nat}(I:Me X v U q lu lq (j+1))(hv:0<AT v)(hj:j+(m+3)<=lu)(hjq:j<lq)(hz:AT (U.drop (j+(m+3)))=0)(hP:AT ((U.drop j).take (m+3))=AT (U.drop j))
  (h1:P'.length=m+3) (h2:Wd P') (h3:AT P'=AT ((U.drop j).take (m+3))%AT v) (hd:AT ((U.drop j).take (m+3))/AT v<BB):
  Me X v (U.take j++(P'++U.drop (j+(m+3)))) (q.set j (AT ((U.drop j).take (m+3))/AT v)) lu lq j:=by
 obtain⟨lU,lQ,wU,wq,val,less⟩:=I;have hA:(U.take j).length=j:=by rw[Bd];omega
 have e0:AT U=AT (U.take j)+BB^j*AT (U.drop j):=by
  conv=>lhs;rw[<-FB j U]
  rw[LA,hA]
 have e1:AT (P'++U.drop (j+(m+3)))=AT P':=by rw[LA,hz,FF,D6]
 refine⟨?_,by rw[Db];exact lQ,?_,wq.set hd,?_,?_⟩
 ·rw[Be,Be,hA,h1,D3];omega
 ·exact Wd.append (wU.take j) (Wd.append h2 λa ha=>wU a (Kv ha))
 ·rw[RQ (by omega),AT,LA,hA,e1,h3,hP]
  rw[e0]at val;have e2:=FG (AT (U.drop j)) (AT v);have e3:BB^(j+1)*AT (q.drop (j+1))*AT v=BB^j*(BB*AT (q.drop (j+1))*AT v):=by
   rw[CW,B6,B6,B6]
  rw[e3]at val;have e4:BB^j*AT (U.drop j)=BB^j*(AT v*(AT (U.drop j)/AT v))+BB^j*(AT (U.drop j)%AT v):=by
   rw[<-BO,e2]
  rw[B6,B0,BO,Ba (AT (U.drop j)/AT v)];omega
 ·rw[List.drop_left' hA,e1,h3]
  exact CI _ hv
theorem mj {a b s:Nat}{U v:List Nat}{k lu lq:Nat}(hU:AT U=a*2^s)(hv:AT v=b*2^s)(wU:Wd U)(lU:U.length=lu){q:List Nat}(hq:q=List.replicate lq 0)(hk:lq<=k)
  (hab:a<BB^k*b):Me (a*2^s) v U q lu lq k:=by
 subst hq;refine⟨lU,JR,wU,NP _,?_,?_⟩
 ·rw[IK (by rw[JR];exact hk)]
  rw[show AT []=0 from rfl,FF,Hl,BW,hU]
 ·rcases BC (AT (U.drop k)) (AT v)with h|h
  ·exact h
  ·exfalso
   have e0:AT U=AT (U.take k)+BB^(U.take k).length*AT (U.drop k):=by
    conv=>lhs;rw[<-FB k U]
    rw[LA]
   have hp:0<2^s:=Hk s;have h3:a*2^s<BB^k*b*2^s:=TQ hab hp;rw[B6,<-hv]at h3;rcases BC U.length k with hl|hl
   ·rw[IK (by omega)]at h
    rw[show AT []=0 from rfl]at h;rw[Nat.le_zero.1 h,FF]at h3;omega
   ·rw[Bd,Ft hl]at e0
    have:=Cs (BB^k) h
    omega
theorem ov {a b s:Nat}{v U q:List Nat}{lu lq:Nat}(I:Me (a*2^s) v U q lu lq 0)(hv:AT v=b*2^s):AT q=a/b/\AT U=a%b*2^s:=by
 obtain⟨lU,lQ,wU,wq,val,less⟩:=I;simp only[ND,JS,GR]at val less;obtain⟨h1,h2⟩:=RG val less;rw[hv,QZ _ _ (Hk s)]at h1;rw[hv,Qa]at h2;exact⟨h1,h2⟩
structure PQ (U u:List Nat)(s i:Nat):Prop where
 len:u.length=U.length
 wd:Wd u
 rest:∀k,i<=k->u[k]?=U[k]?
 val:∀c,U[i]?=some c->AT (U.take i)+BB^i*(c%2^s)=2^s*AT (u.take i)
theorem lx {U:List Nat}{s r:Nat}(wU:Wd U)(h:AT U=r*2^s)(hs:s<=63):PQ U U s 0:=by
 refine⟨rfl,wU,λ_ _=>rfl,λc hc=>?_⟩;have e:=LU hc;simp only[NC,ND,JS,AT,BW,FF]at e⊢;have hpp:2^(64-s)*2^s=BB:=by rw[<-Gl,show 64-s+s=64 by omega]
 have e1:(AT U)%2^s=0:=by rw[h];exact Nat.mul_mod_left _ _
 rw[e,<-hpp,Nat.mul_right_comm,Nat.add_mul_mod_self_right]at e1;exact e1
theorem YF {c d s:Nat}(hs:s<=63)(hc:c<BB):c/2^s ||| d*2^(64-s)%BB=c/2^s+d%2^s*2^(64-s)/\c/2^s+d%2^s*2^(64-s)<BB /\
  c%2^s+2^s*(c/2^s+d%2^s*2^(64-s))=c+BB*(d%2^s):=by
 have hpp:2^s*2^(64-s)=BB:=by rw[<-Gl,show s+(64-s)=64 by omega]
 have h1:d*2^(64-s)%BB=d%2^s*2^(64-s):=by rw[<-hpp,Qa]
 have h2:c/2^s<2^(64-s):=Fq (by rw[hpp];exact hc);have h3:d%2^s<2^s:=CI _ (Hk s);have h4:(d%2^s+1)*2^(64-s)<=2^s*2^(64-s):=CV _ h3;rw[hpp,B0,JS]at h4;have e:=FX c (2^s);refine⟨?_,by omega,?_⟩
 ·rw[h1,Nat.or_comm,WB h2,L2]
 ·rw[BO,JU,hpp,Ba (d%2^s)]
  omega
theorem mu {U u:List Nat}{s i c d:Nat}(hs:s<=63)(wU:Wd U)(I:PQ U u s i)(hc:U[i]?=some c)(hd:U[i+1]?=some d):
  PQ U (u.set i (c/2^s+d%2^s*2^(64-s))) s (i+1):=by
 obtain⟨len,wd,rest,val⟩:=I;have hcl:=wU c (Au hc);obtain⟨_,e2,e3⟩:=YF (d:=d) hs hcl;have hi:i<U.length:=(BS.1 hc).1;refine⟨by rw[Db];exact len,wd.set e2,λk hk=>?_,λc' hc'=>?_⟩
 ·rw[In (by omega)];exact rest k (by omega)
 ·rw[hd]at hc'
  cases hc';have v0:=val c hc;rw[RR (by omega),HT (i:=i) (by rw[Bd];omega),Fy hc,HT (i:=i) (by rw[Bd];omega),BO,<-v0,CW,B6,JU (2^s)];have e4:BB^i*(c%2^s+2^s*(c/2^s+d%2^s*2^(64-s)))=BB^i*(c+BB*(d%2^s)):=by rw[e3]
  rw[BO,BO (BB^i) c]at e4;omega
theorem mr {U u:List Nat}{s n r:Nat}(I:PQ U u s n)(hn:n<U.length)(hU:AT U=r*2^s)(hl:AT U<BB^n):AT (u.take n)=r:=by
 obtain⟨c,hc⟩:=Ch hn;have e:=LU hc;have hz:c+BB*AT (U.drop (n+1))=0:=by
  rcases EC (c+BB*AT (U.drop (n+1)))with h|h
  ·exact h
  ·have:=Cs (BB^n) h
   omega
 have hc0:c=0:=by omega
 subst hc0;have v0:=I.val 0 hc;rw[hz,FF,D6]at e;rw[Nat.zero_mod,FF,D6,<-e,hU,Ba]at v0;exact(Nat.eq_of_mul_eq_mul_left (Hk s) v0).symm
theorem ap {a b:Nat}(h:a<b):decide (ES (a:Int) (b:Int)<0)=true:=Ax (by unfold ES;split<;>(try split)<;>omega)
theorem Ri {a b:Nat}(h:b<=a):decide (ES (a:Int) (b:Int)<0)=false:=A8 (by unfold ES;split<;>(try split)<;>omega)
theorem tJ {env:Ao}{t K g n N t2:Nat}{z:List Nat}{T:Nat}{d2:D}(hl:z.length=N)(he:env.get t=.osl K g 1 0 N:=by exact rfl)(h2:env.get t2=d2:=by exact rfl):Wk ⟨env,[⟨K,g,T,1,z.map AS⟩],n⟩ ⟨[(t,.sl false 1 (z.map AS)),(t2,d2)],[],n⟩:=by
 subst hl;refine⟨.drop .nil,⟨?_,?_,trivial⟩,An _⟩
 ·dsimp only
  rw[he]
  have:=SW K g T 1 (z.map AS)
  rwa [Ae]at this
 ·dsimp only
  rw[h2];exact .refl _
theorem mn (a b:Nat)(hab:a<b)(ha:(Af a).length<1000000)(hb:(Af b).length<1000000):AL C0 148 [wD a,wD b] (.tup [wD (a/b),wD (a%b)]):=by
 rw[IJ hab,Fr hab,tI];refine Ad.walk w1 SR rfl λF=>?_
 have cc:=Rj a b (by omega) (by omega);have e1:=ap hab;refine sR 0 ?_;refine AC.seq ?_;refine sR 100 ?_;refine cI cc ?_;rw[e1];refine AO ?_;refine sR 200 ?_;refine Ag ?_;exact⟨_,eU (.nil 1) (.refl _),aG (.sl λe he=>by cases he) (LT _),rfl⟩
theorem oy (a b:Nat)(hab:b<=a)(ha:(Af a).length<1000000)(hb:(Af b).length=1)(hb0:b≠0):AL C0 148 [wD a,wD b] (.tup [wD (a/b),wD (a%b)]):=by
 have cc:=Rj a b (by omega) (by omega);have e1:=Ri hab;have hbl:b<BB:=by
  have:=KI b
  rw[hb,Nat.pow_one]at this;exact this
 have hlb:(Af b)[0]?=some b:=by rw[NM hb0 hbl];rfl
 have va:=Fc a;have wa:=F3 a;refine Ad.walk w1 SR rfl λF=>?_
 unfold wD wL at cc⊢;change AC C0 F none F _ _ (So X1.tt _ (· = .tup [wD (a/b),wD (a%b)]));generalize Af a=la at*;generalize Af b=lb at*;have hb':=Dy hlb;have e3:((((lb.map AS).length:Nat):Int)==1)=true:=by rw[Ae,hb];rfl
 have ea:(((la.map AS).length:Nat):Int)=(la.length:Int):=by rw[Ae]
 have wl:IntKind.i64.wrap ((la.length:Int)-1)=(la.length:Int)-1:=wI;have r3:List.replicate la.length (ofV (.int .u64 0))=(List.replicate la.length 0).map AS:=by rw[Kw];rfl
 refine sR 0 ?_;refine AC.seq ?_;refine sR 100 ?_;refine cI cc ?_;rw[e1];refine AO ?_;refine Am ?_;refine AC.seq ?_;refine sZ 300 ?_;refine AV e3 ?_;refine AO ?_;refine sZ 400 ?_;refine AV (Ab ea kN) ?_;refine sR 500 ?_;refine AC.seq ?_;refine sZ 600 ?_;refine AV (Ab ea wl) ?_;refine AC.block ?_;refine AC.loop (α:=Nat×Nat×List Nat×Nat) (λp=>⟨[(0,.sl false 1 (la.map AS)),(1,.sl false 1 (lb.map AS)),(6,.osl 402 11 1 0 la.length),(7,AS p.2.1),(8,i64 ((p.1:Int)-1))],[⟨402,11,190,1,p.2.2.1.map AS⟩],p.2.2.2⟩) (λp=>p.1)
  (λp=>p.1<=la.length/\p.2.1<b/\p.2.2.1.length=la.length/\Wd p.2.2.1/\AT (p.2.2.1.drop p.1)*b+p.2.1=AT (la.drop p.1)) (la.length,0,List.replicate la.length 0,_)
  ⟨An _,EX hb0,by simp,NP _,by simp[AT]⟩ (by rw[<-r3];exact AK) ?_
 rintro⟨k,r,q,m⟩ F ⟨h1,h2,h3,h4,h5⟩;dsimp only at h1 h2 h3 h4 h5⊢;clear cc e1 e3 ea wl r3;refine AC.seq ?_;refine sR 700 ?_;refine AO ?_
 (refine B7 (λh20=>?_) (λh20=>?_))<;>(try simp only[Bs,B5]at h20)<;>(try simp only[h20])
 ·obtain⟨j,rfl⟩:∃j,k=j+1:=⟨k-1,by
   have:(k:Int)-1>=0:=by simpa using h20
   omega⟩
  have wj:((j+1:Nat):Int)-1=(j:Int):=by omega
  obtain⟨x,hx⟩:=Ch (l:=la) (i:=j) (by omega);obtain⟨z,hz⟩:=Ch (l:=q) (i:=j) (by omega);have hx':=Dy hx;have hz':=Dy hz;have hxl:=wa x (Au hx);have cd:=Zv r x b h2 hxl hbl;obtain⟨J1,J2⟩:=lk (EX hb0) hx (by omega) h5;have hql:(r*BB+x)/b<BB:=by
   refine Fq ?_
   have:(r+1)*BB<=b*BB:=CV _ h2
   rw[B0]at this;omega
  have wi:IntKind.i64.wrap ((j:Int)-1)=(j:Int)-1:=wI;generalize(r*BB+x)/b=d at*;generalize(r*BB+x)%b=r' at*;rw[wj];refine Am ?_;refine AC.seq ?_;refine AC.block ?_;refine QQ w1 900 [0,1,2,3,4,5,6,7,8,9,10,11,12,13,14,15] [16] 15 [11,9,8,7,6,5,4,3,2,1,0,10,12,14] (402) (by kernel_rfl) (by kernel_rfl) ?_;refine BM ?_;refine NF kN ?_;refine NO rfl rfl rfl rfl ?_;refine N8 (λ_ _=>rfl) (by exact CL) ⟨rfl,by omega⟩ hx' ?_
  try dsimp only[D.cells,spot]
  refine NF kN ?_;refine NO rfl rfl rfl rfl ?_;refine N8 (λ_ _=>rfl) (by exact CL) ⟨rfl,by omega⟩ hb' ?_
  try dsimp only[D.cells,spot]
  refine NF kN ?_;refine NO rfl rfl rfl rfl ?_;refine MO (λ_ _=>rfl) (by exact CL) ?_;refine BM ?_;refine Bf.same _ cd AJ ?_;refine NF (Ar kN BW hz') ?_;refine BK (by first|exact Or.inl AB|exact Or.inl rfl) ?_;refine AF (Ab kN BW) ?_;rw[map_set];refine Aq 800 ?_;refine AV wi ?_;exact⟨(j,r',q.set j d,_),⟨by dsimp only;omega,J2,by dsimp only;rw[Db];exact h3,h4.set hql,J1⟩,by dsimp only;omega,AK⟩
 ·have hk:k=0:=by
   have:¬((k:Int)-1>=0):=by simpa using h20
   omega
  subst hk;rw[GR,GR,va]at h5;obtain⟨q1,q2⟩:=RG h5 h2;refine CO ?_;refine AC.weak ⟨[(6,.sl false 1 (q.map AS)),(7,AS r)],[],_⟩ (tJ h3) ?_;refine sR 1000 ?_;refine BE.same _ (trim_ok q h4 (by omega)) AJ ?_;refine BR ?_;have hrl:Wd [r]:=λa ha=>by
   simp only[A9,Dv,or_false]at ha;subst ha;exact Gk h2 hbl
  refine BE.pure [wL [r]] _ ⟨.nn true 1 _,trivial⟩ (trim_ok [r] hrl (by simp)) AJ ?_;refine BR ?_;refine Ag ?_;exact AM (by rw[q1,q2];simp[AT]) AA.out
set_option maxHeartbeats 4000000
theorem bK {H:Hp}{K g T:Nat}{l:List Nat}{N:Nat}(hl:l.length=N)(he:Hp.get H K=some ⟨K,g,T,1,l.map AS⟩:=by exact rfl):Fz H [] (.osl K g 1 0 N) (.sl false 1 (l.map AS)):=by
 subst hl;have key:∀(j:Nat) (d d':D),(l.map AS)[0+j]?=some d->(l.map AS)[j]?=some d'->d=d':=λj d d' h1 h2=>by
  rw[BW]at h1;rw[h1]at h2;exact FY h2
 refine .osl (e:=⟨K,g,T,1,l.map AS⟩) he rfl rfl rfl (by simp) (by simp) (λj d d' h1 h2=>by rw[key j d d' h1 h2]) λj d d' q c c' h1 h2 h3 h4=>?_
 rw[key j d d' h1 h2]at h3;rw[h3]at h4;cases h4;exact Fz.refl _
theorem mq (a b m:Nat)(hab:b<=a)(ha:(Af a).length<1000000)(hb:(Af b).length=m+2):AL C0 148 [wD a,wD b] (.tup [wD (a/b),wD (a%b)]):=by
 have hlen:=IS b a hab;have cc:=Rj a b (by omega) (by omega);have e1:=Ri hab;obtain⟨y,hy⟩:=Ch (l:=Af b) (i:=m+1) (by omega);have y0:=UY b hb hy;have yl:y<BB:=F3 b y (Au hy);obtain⟨s,hs,es,t1,t2⟩:=Ya y0 yl;have cl:=iq y yl;rw[es]at cl;have hvl:=yV hs hb hy t2;obtain⟨v,hv⟩:∃v,v=Af (b*2^s):=⟨_,rfl⟩
 have wv:Wd v:=by rw[hv];exact F3 _
 have vv:AT v=b*2^s:=by rw[hv];exact Fc _
 rw[<-hv]at hvl;obtain⟨v1,h1⟩:=Ch (l:=v) (i:=m+1) (by omega);obtain⟨v2,h2⟩:=Ch (l:=v) (i:=m) (by omega);have v10:v1≠0:=UY (b*2^s) (by rw[<-hv];exact hvl) (by rw[<-hv];exact h1);have vpos:0<AT v:=by
  rw[vv];refine IM ?_ (Hk s);refine EX λh=>?_
  subst h;rw[GX]at hb;cases hb
 have va:=Fc a;have vb:=Fc b;have wa:=F3 a;have wb:=F3 b;have hup:=KI a;have hbge:=Zh hb;refine Ad.walk w1 SR rfl λF=>?_
 unfold wD wL at cc⊢;change AC C0 F none F _ _ (So X1.tt _ (· = .tup [wD (a/b),wD (a%b)]));generalize Af a=la at*;generalize Af b=lb at*;obtain⟨lq,hlq⟩:∃lq,la.length=lq+(m+2):=⟨la.length-(m+2),by omega⟩
 have hy':=Dy hy;have e3:((((lb.map AS).length:Nat):Int)==1)=false:=by rw[Ae,hb];exact B4.2 (by omega)
 have elb:(((lb.map AS).length:Nat):Int)=((m+2:Nat):Int):=by rw[Ae,hb]
 have wlb0:IntKind.i64.wrap (((m+2:Nat):Int)-1)=((m+1:Nat):Int):=by rw[wI];omega
 have wlb:IntKind.i64.wrap ((((lb.map AS).length:Nat):Int)-1)=((m+1:Nat):Int):=by rw[elb];exact wlb0
 have ea:(((la.map AS).length:Nat):Int)=(la.length:Int):=by rw[Ae]
 have ev:(((v.map AS).length:Nat):Int)=((m+2:Nat):Int):=by rw[Ae,hvl]
 have wq1:IntKind.i64.wrap ((la.length:Int)-((m+2:Nat):Int))=(lq:Int):=by rw[wI];omega
 have wq2:IntKind.i64.wrap ((lq:Int)+1)=((lq+1:Nat):Int):=by rw[wI];omega
 have wq1':IntKind.i64.wrap ((la.length:Int)-((m+2:Nat):Int))=((lq+1:Nat):Int)-1:=by rw[wI];omega
 have wraw:IntKind.i64.wrap (IntKind.i64.wrap ((((la.map AS).length:Nat):Int)-((m+2:Nat):Int))+1)=((lq+1:Nat):Int):=by rw[ea,wq1,wq2]
 have r3:List.replicate (lq+1) (ofV (.int .u64 0))=(List.replicate (lq+1) 0).map AS:=by rw[Kw];rfl
 refine sR 0 ?_;refine AC.seq ?_;refine sR 100 ?_;refine cI cc ?_;rw[e1];refine AO ?_;refine Am ?_;refine AC.seq ?_;refine sZ 300 ?_;refine AV e3 ?_;refine AO ?_;refine Am ?_;refine sZ 1100 ?_;refine AF (Bb wlb elb wlb0 kN) ?_;refine B3 kT hy' ?_;refine AF (Bb wlb elb wlb0 kN) ?_;refine cI cl ?_;refine DL (α:=Nat) (λn=>⟨[(0,.sl false 1 (la.map AS)),(9,i64 s),(10,.sl false 1 (v.map AS))],[],n⟩) (λ_=>True) ?_ ?_
 ·refine rI 1200 ?_
  refine BE.prop [wL lb,i64 s] _ (FJ.refl _) (oW lb s hs wb (by omega)) AJ ?_;rintro d ⟨out,o1,o2,o3,rfl⟩;have hvo:wD (AT out)=.sl false 1 (v.map AS):=by rw[o3,vb,hv];rfl
  refine BR ?_;refine BE.same _ (trim_ok out o2 (by omega)) AJ ?_;refine BR ?_;simp only[hvo];exact⟨trivial,_,trivial,AK⟩
 rintro n0 -;clear cc e1 e3 elb wlb wlb0 hy' cl es t1 t2 yl y0 hy wb;refine sR 1300 ?_;refine BE.own _ (Yh la s hs wa (by omega) [] _) ?_;rintro d H' n1 ⟨U,gu,u1,u2,u3,rfl,rfl,-⟩;rw[va]at u3;refine BR ?_;refine sZ 1400 ?_;refine AV ev ?_;refine DL (α:=Nat×Nat) (λp=>⟨[(0,.sl false 1 (la.map AS)),(9,i64 s),(10,.sl false 1 (v.map AS)),(11,.osl 103 gu 1 0 (la.length+1)),(12,i64 ((m+2:Nat):Int)),(13,.osl 1505 p.1 1 0 (lq+1))],[⟨1505,p.1,190,1,(List.replicate (lq+1) 0).map AS⟩,⟨103,gu,190,1,U.map AS⟩],p.2⟩) (λ_=>True) ?_ ?_
 ·refine Aq 1500 ?_
  refine AV (CN ea wq1 wq2 kN r3) ?_;exact⟨trivial,⟨n1+9,n1+20⟩,trivial,by rw[<-r3];exact AK⟩
 rintro⟨g,n2⟩ -;dsimp only;have I0:Me (a*2^s) v U (List.replicate (lq+1) 0) (la.length+1) (lq+1) (lq+1):=by
  refine mj u3 vv u2 u1 rfl (An _) ?_
  have:BB^(lq+1)*BB^(m+1)<=BB^(lq+1)*b:=Cs _ hbge
  rw[<-Gl,show lq+1+(m+1)=la.length by omega]at this;omega
 refine AC.seq ?_;refine sZ 1600 ?_;refine AV (Ab ea wq1') ?_;refine AC.block ?_;refine AC.loop (α:=Nat×List Nat×List Nat×Nat) (λp=>⟨[(9,i64 s),(10,.sl false 1 (v.map AS)),(11,.osl 103 gu 1 0 (la.length+1)),(12,i64 ((m+2:Nat):Int)),(13,.osl 1505 g 1 0 (lq+1)),(14,i64 ((p.1:Int)-1))],[⟨1505,g,190,1,p.2.2.1.map AS⟩,⟨103,gu,190,1,p.2.1.map AS⟩],p.2.2.2⟩) (λp=>p.1)
  (λp=>p.1<=lq+1/\Me (a*2^s) v p.2.1 p.2.2.1 (la.length+1) (lq+1) p.1) (lq+1,U,List.replicate (lq+1) 0,_) ⟨An _,I0⟩ AK ?_
 rintro⟨k,u,q,n3⟩ F ⟨hk,I⟩;dsimp only at hk I⊢;clear I0 wq1 wq2 wq1' wraw r3 ea;refine AC.seq ?_;refine sR 1700 ?_;refine AO ?_
 (refine B7 (λh20=>?_) (λh20=>?_))<;>(try simp only[Bs,B5]at h20)<;>(try simp only[h20])
 ·obtain⟨j,rfl⟩:∃j,k=j+1:=⟨k-1,by
   have:(k:Int)-1>=0:=by simpa using h20
   omega⟩
  have wj:((j+1:Nat):Int)-1=(j:Int):=by omega
  obtain⟨p0,p1,p2,SI,hz,hP⟩:=ox I hvl wv v1 v2 h2 h1 (EX v10) (by omega);have hA:(u.take j).length=j:=by rw[Bd,I.lU];omega
  have cs:=λn=>t8 (u.take j) ((u.drop j).take (m+3)) (u.drop (j+(m+3))) v m p0 p1 p2 v2 v1 SI (by rw[hA];omega) g 190 gu (q.map AS) n
  rw[hA,<-jd j (m+3)]at cs;obtain⟨z,hzq⟩:=Ch (l:=q) (i:=j) (by rw[I.lQ];omega);have hz':=Dy hzq;have hdl:AT ((u.drop j).take (m+3))/AT v<BB:=Fq SI.less;have wi:IntKind.i64.wrap ((j:Int)-1)=(j:Int)-1:=wI;have wjn1:IntKind.i64.wrap ((j:Int)+((m+2:Nat):Int))=((j+(m+2):Nat):Int):=by rw[wI];omega
  have wjn2:IntKind.i64.wrap (((j+(m+2):Nat):Int)+1)=((j+(m+3):Nat):Int):=by rw[wI];omega
  have wraw:IntKind.i64.wrap (IntKind.i64.wrap ((j:Int)+((m+2:Nat):Int))+1)=((j+(m+3):Nat):Int):=by rw[wjn1,wjn2]
  have els:j+(m+3)-j=m+3:=L0 _ _;have J:=λP' h1 h2 h3=>ow (P':=P') I vpos (by omega) (by omega) hz hP h1 h2 h3 hdl
  rw[wj];refine Am ?_;refine AC.seq ?_;refine AC.block ?_;refine Aq 1900 ?_;refine AF (EP wraw wjn1 wjn2 kN BW els) ?_;refine BE.own _ (cs _) ?_;rintro d H' n4 ⟨P',g1,g2,g3,rfl,rfl⟩;rw[SI.lP]at g1;refine AF (Ar kN BW hz') ?_;rw[map_set];refine Aq 1800 ?_;refine AV wi ?_;exact⟨(j,u.take j++(P'++u.drop (j+(m+3))),q.set j (AT ((u.drop j).take (m+3))/AT v),_),⟨by dsimp only;omega,J P' g1 g2 g3⟩,by dsimp only;omega,AK⟩
 ·have hk:k=0:=by
   have:¬((k:Int)-1>=0):=by simpa using h20
   omega
  subst hk;obtain⟨q1,q2⟩:=ov I vv;have D0:=lx I.wU q2 hs;have wu:=I.wU;have wqq:=I.wq;have lu:=I.lU;have lqq:=I.lQ;have hlt:AT u<BB^(m+2):=by
   have:=I.less
   rw[GR]at this;have h:=IV wv;rw[show v.length=m+2 from hvl]at h;omega
  clear I;refine CO ?_;refine AC.seq ?_;refine sR 2000 ?_;refine AC.block ?_;refine AC.loop (α:=Nat×List Nat×Nat) (λp=>⟨[(9,i64 s),(11,.osl 103 gu 1 0 (la.length+1)),(12,i64 ((m+2:Nat):Int)),(13,.osl 1505 g 1 0 (lq+1)),(96,i64 ((m+2:Nat):Int)),(97,i64 p.1)],[⟨1505,g,190,1,q.map AS⟩,⟨103,gu,190,1,p.2.1.map AS⟩],p.2.2⟩) (λp=>m+2-p.1)
   (λp=>p.1<=m+2/\PQ u p.2.1 s p.1) (0,u,_) ⟨BT _,D0⟩ AK ?_
  rintro⟨i,x,n4⟩ F ⟨hi,I⟩;dsimp only at hi I⊢;have xl:=I.len;refine sR 2100 ?_;refine AC.seq ?_;refine AO ?_
  (refine B7 (λhlt2=>?_) (λhlt2=>?_))<;>(try simp only[Bs,B5]at hlt2)<;>(try simp only[hlt2])
  ·have hi2:i<m+2:=by
    have:=DN hlt2
    omega
   obtain⟨c,hc⟩:=Ch (l:=u) (i:=i) (by omega);obtain⟨d,hd⟩:=Ch (l:=u) (i:=i+1) (by omega);have hcx:x[i]?=some c:=by rw[I.rest i (An _)];exact hc
   have hdx:x[i+1]?=some d:=by rw[I.rest (i+1) (by omega)];exact hd
   have hc':=Dy hcx;have hcl:=wu c (Au hc);have hdl:=wu d (Au hd);have I2:=mu hs wu I hc hd;obtain⟨g1,g2,_⟩:=YF (d:=d) hs hcl;have esh:=OF c s (by omega);have wi:IntKind.i64.wrap ((i:Int)+1)=((i+1:Nat):Int):=wI;refine Am ?_;refine AC.seq ?_;refine AC.block ?_;refine sR 2200 ?_;refine sZ 2300 ?_;refine AF (Bb kN BW hc' esh) ?_;rw[map_set];have hxi:i<x.length:=by omega
   have h2c:((x.set i (c/2^s)).map AS)[i]?=some (AS (c/2^s)):=Dy (TW hxi);have h2d:((x.set i (c/2^s)).map AS)[i+1]?=some (AS d):=Dy (by rw[In (by omega)];exact hdx);refine AC.seq ?_;rcases EC s with h0|h0
   ·have e24:decide ((s:Int)>0)=false:=Bc
    have es0:x.set i (c/2^s+d%2^s*2^(64-s))=x.set i (c/2^s):=by
     rw[h0,ND,Nat.mod_one,Hl,D6]
    rw[es0]at I2;refine Aq 2400 ?_;refine AV e24 ?_;refine AF e24 ?_;refine AO ?_;refine Am ?_;refine Aq 2600 ?_;refine AV wi ?_;exact⟨(i+1,x.set i (c/2^s),_),⟨hi2,I2⟩,by dsimp only;omega,AK⟩
   ·have e24:decide ((s:Int)>0)=true:=BX
    have e24':decide (((i+1:Nat):Int)<((la.length+1:Nat):Int))=true:=BX;have w64:IntKind.i64.wrap (64-(s:Int))=((64-s:Nat):Int):=by rw[wI];omega
    have w640:(0:Int)<=IntKind.i64.wrap (64-(s:Int)):=by rw[w64];omega
    have e27:=P6 d (64-s) (by omega);have e28:Hv .or .u64 ((c/2^s:Nat):Int) ((d*2^(64-s)%18446744073709551616:Nat):Int)=((c/2^s+d%2^s*2^(64-s):Nat):Int):=by
     rw[W8 _ _ (Da (GQ _ _) hcl) (CI _ (by decide)),g1]
    have hset:((x.set i (c/2^s)).map AS).set i (AS (c/2^s+d%2^s*2^(64-s)))=(x.set i (c/2^s+d%2^s*2^(64-s))).map AS:=by
     rw[map_set,List.set_set]
    refine Aq 2400 ?_;refine AV e24 ?_;refine AF (Ar e24 wi e24') ?_;refine AO ?_;refine CR 2500 [0,1,2,3,4,5,6,7,8,9,10,11] [12,13,14] ?_;refine AF (CP wi w64 e27 e28 kN BW (Ab h2c h2d)) ?_;refine Eb rfl rfl ?_;refine N9 rfl rfl rfl h2c ?_;refine AF hset ?_;refine Aq 2600 ?_;refine AV wi ?_;exact⟨(i+1,x.set i (c/2^s+d%2^s*2^(64-s)),_),⟨hi2,I2⟩,by dsimp only;omega,AK⟩
  ·have hi2:i=m+2:=by
    have:=Ds hlt2
    omega
   subst hi2;have hr:=mr I (by omega) q2 hlt;have wx:=I.wd;refine CO ?_;refine AC.weak ⟨[(11,.sl false 1 (x.map AS)),(12,i64 ((m+2:Nat):Int)),(13,.sl false 1 (q.map AS))],[],_⟩ ⟨.drop (.drop .nil),⟨bK (by omega),.refl _,bK lqq,trivial⟩,An _⟩ ?_;have e4:List.take (m+2-0) (List.drop 0 (x.map AS))=(x.take (m+2)).map AS:=by
    rw[List.map_take];simp
   have e5:List.take (m+2) (x.map AS)=(x.take (m+2)).map AS:=by
    rw[List.map_take]
   have ex:(x.map AS).length=la.length+1:=by rw[Ae];omega
   refine AC.seq ?_;refine CR 2700 [0,1,2,3,4] [5,6,7] ?_;refine BR ?_;refine Bf.same _ (trim_ok q wqq (by omega)) AJ ?_;refine AF (Bb kN Nat.sub_zero (@GR D) e5) ?_;refine BE.same _ (trim_ok (x.take (m+2)) (wx.take _) (by rw[Bd];omega)) AJ ?_;refine BR ?_;refine Ag ?_;exact AM (by rw[q1,hr]) AA.out
theorem je (a b:Nat)(hb:b≠0)(ha:(Af a).length<1000000)(hbl:(Af b).length<1000000):AL C0 148 [wD a,wD b] (.tup [wD (a/b),wD (a%b)]):=by
 rcases BC a b with h|h
 ·exact mn a b h ha hbl
 ·rcases hl:(Af b).length with _|m
  ·have:=KI b
   rw[hl]at this;simp at this;exact Ak this hb
  ·rcases m with _|m
   ·exact oy a b h ha hl hb
   ·exact mq a b m h ha hl
set_option maxHeartbeats 2000000
theorem Pu {x:GI}(h:x.wf)(h0:x.z ≠ -9223372036854775808):x=AY x.z:=by
 obtain⟨z,sm⟩:=x;unfold AY
 congr 1
 cases sm with
 |true=>
  have:=h.1 rfl
  dsimp only at this h0⊢;exact(Ax (show Sm z from⟨by omega,by omega⟩)).symm
 |false=>
  have:=h.2 rfl
  exact(A8 this).symm
theorem EK (z:Int):(AY z).z=z:=rfl
def ET (x y:GI):GI×GI:=
 if x.sm=true/\y.sm=true/\x.z ≠ -9223372036854775808 then(⟨x.z/y.z,true⟩,⟨x.z%y.z,true⟩)
 else if x.z.tmod y.z<0 then(JP (AY (x.z.tdiv y.z)) ⟨1,true⟩,Ei (AY (x.z.tmod y.z)) y)else(AY (x.z.tdiv y.z),AY (x.z.tmod y.z))
theorem mG (a b:Int)(hb:0<b):(a.tmod b<0->a.tdiv b-1=a/b/\a.tmod b+b=a%b)/\(¬a.tmod b<0->a.tdiv b=a/b/\a.tmod b=a%b):=by
 have e1:=Int.tdiv_eq_ediv (a:=a) (b:=b);have e2:=Int.tmod_add_mul_tdiv a b;have e3:=Int.emod_add_mul_ediv a b;have e4:=Int.emod_nonneg a (show b≠0 by omega);have e5:=Int.emod_lt_of_pos a hb;have hsg:b.sign=1:=Int.sign_eq_one_of_pos hb;rw[hsg]at e1;split at e1
 ·rw[Int.add_zero]at e1
  rw[e1]at e2;constructor
  ·intro h;omega
  ·intro _;exact⟨e1,by omega⟩
 ·rename_i hc
  have hd:¬b ∣ a:=λh=>hc (Or.inr h)
  have hr:a%b≠0:=λh=>hd (Int.dvd_of_emod_eq_zero h)
  have e6:b*(a/b+1)=b*(a/b)+b:=by rw[Int.mul_add,Int.mul_one]
  rw[e1,e6]at e2;constructor
  ·intro _;exact⟨by omega,by omega⟩
  ·intro h;omega
theorem cR {x y:GI}(hy:0<y.z):(ET x y).1.z=x.z/y.z/\(ET x y).2.z=x.z%y.z:=by
 obtain⟨f1,f2⟩:=mG x.z y.z hy;unfold ET;split
 ·exact⟨rfl,rfl⟩
 ·split
  ·rename_i h
   rw[fv,Nu];exact f1 h
  ·rename_i h
   exact f2 h
theorem aX {x y:GI}(hx:x.wf)(hy:y.wf)(h0:0<y.z):(ET x y).1.wf/\(ET x y).2.wf:=by
 unfold ET;split
 ·rename_i h
  have hx1:=hx.1 h.1;have hy1:=hy.1 h.2.1;obtain⟨_,_,h3⟩:=h;have hm:=Int.emod_lt_of_pos x.z h0;have hm2:=Int.emod_nonneg x.z (show y.z≠0 by omega);refine⟨⟨λ_=>?_,λh=>by cases h⟩,⟨λ_=>⟨by dsimp only;omega,by dsimp only;omega⟩,λh=>by cases h⟩⟩;dsimp only;have e3:=Int.emod_add_mul_ediv x.z y.z;constructor
  ·rcases Int.lt_or_le (x.z/y.z) (-9223372036854775808)with h|h
   ·exfalso
    have h8:y.z*(x.z/y.z+1)<=1*(x.z/y.z+1):=Int.mul_le_mul_of_nonpos_right (by omega) (by omega);rw[Int.mul_add,Int.mul_one]at h8;omega
   ·exact h
  ·rcases Int.lt_or_le (x.z/y.z) 9223372036854775808 with h|h
   ·exact h
   ·exfalso
    have h5:(1:Int)*(x.z/y.z)<=y.z*(x.z/y.z):=Int.mul_le_mul_of_nonneg_right (by omega) (by omega);omega
 ·split
  ·exact⟨be _ _,Nd _ _⟩
  ·exact⟨Cy _,Cy _⟩
theorem oV (a b:Int)(hb:0<b):EU (decide (a<0)) (a.natAbs/b.natAbs)=a.tdiv b/\EU (decide (a<0)) (a.natAbs%b.natAbs)=a.tmod b:=by
 obtain⟨n,rfl⟩:∃n:Nat,b=n:=⟨b.natAbs,by omega⟩
 rw[Ej]
 by_cases h:a<0
 ·obtain⟨m,rfl⟩:∃m:Nat,a = -(m:Int):=⟨a.natAbs,by omega⟩
  rw[Ax h,M8,Ej,Int.neg_tdiv,Int.neg_tmod];exact⟨rfl,rfl⟩
 ·obtain⟨m,rfl⟩:∃m:Nat,a=(m:Int):=⟨a.natAbs,by omega⟩
  rw[A8 h,Ej];exact⟨rfl,rfl⟩
theorem ll (x y:GI)(hx:x.wf)(hy:y.wf)(h0:0<y.z)(fx:x.few)(fy:y.few)(hn:¬(x.sm=true/\y.sm=true/\x.z ≠ -9223372036854775808)):
  AL C0 219 [x.D,y.D] (.tup [(ET x y).1.D,(ET x y).2.D]):=by
 unfold ET;rw[AG hn];refine Ad.walk w1 Vv rfl λF=>?_
 have cx:=KJ x hx;have cy:=KJ y hy;have cd:=je x.z.natAbs y.z.natAbs (by omega) fx fy;obtain⟨t1,t2⟩:=oV x.z y.z h0;have lq:(Af (x.z.natAbs/y.z.natAbs)).length<1000000:=Da (IS _ _ (GQ _ _)) fx;have lr:(Af (x.z.natAbs%y.z.natAbs)).length<1000000:=Da (IS _ _ (Nat.mod_le _ _)) fx;have c1:=Mb (decide (x.z<0)) (x.z.natAbs/y.z.natAbs) (Gk lq (by decide));have c2:=Mb (decide (x.z<0)) (x.z.natAbs%y.z.natAbs) (Gk lr (by decide));rw[t1]at c1;rw[t2]at c2;have fq:(AY (x.z.tdiv y.z)).few:=by
  show(Af (x.z.tdiv y.z).natAbs).length<1000000;rw[Int.natAbs_tdiv];exact lq
 have fr:(AY (x.z.tmod y.z)).few:=by
  show(Af (x.z.tmod y.z).natAbs).length<1000000;rw[Int.natAbs_tmod];exact lr
 have f1:(⟨1,true⟩:GI).few:=by show(Af 1).length<1000000;rw[NM (by decide) (by decide)];decide
 have cg:=N4 (AY (x.z.tmod y.z)) (Cy _);have cs:=jU (AY (x.z.tdiv y.z)) ⟨1,true⟩ (Cy _) ⟨λ_=>⟨by decide,by decide⟩,λh=>by cases h⟩ fq f1;have ca:=Pt (AY (x.z.tmod y.z)) y (Cy _) hy fr fy;rw[EK]at cg;have co:AL C0 122 [i64 1] (⟨1,true⟩:GI).D:=Cb D5 1000 40;have hpx:AA x.w:=AJ;have hpy:AA y.w:=AJ;have hpq:AA (AY (x.z.tdiv y.z)).w:=AJ;have hpr:AA (AY (x.z.tmod y.z)).w:=AJ;have hps:AA (JP (AY (x.z.tdiv y.z)) ⟨1,true⟩).w:=AJ;have hpa:AA (Ei (AY (x.z.tmod y.z)) y).w:=AJ;have hp1:AA (⟨1,true⟩:GI).w:=AJ;clear t1 t2 lq lr fq fr f1;dsimp only[GI.D]at*;refine fR 0 ?_;refine EI ⟨[(2,.optr 0 0 2 0 0),(3,.optr 1 1 2 0 0),(4,.optr 2 2 2 0 0),(5,.optr 3 3 2 0 0)],[⟨3,3,122,2,[DM 0]⟩,⟨2,2,122,2,[DM 0]⟩,⟨1,1,122,2,[.agg [i64 y.s,y.w]]⟩,⟨0,0,122,2,[.agg [i64 x.s,x.w]]⟩],90⟩ ?_ ?_
 ·obtain⟨a,sa⟩:=x
  obtain⟨b,sb⟩:=y;clear cx cy cd c1 c2 cg cs ca co hpq hpr hps hpa hp1;have nx:sa=false->(Af a.natAbs).map AS≠[]:=λh=>IY (by
   intro h0;subst h;exact hx.2 rfl ⟨by dsimp only;omega,by dsimp only;omega⟩)
  have ny:sb=false->(Af b.natAbs).map AS≠[]:=λh=>IY (by
   intro h0;subst h;exact hy.2 rfl ⟨by dsimp only;omega,by dsimp only;omega⟩)
  unfold GI.s GI.w wD wL at*;dsimp only at*;generalize(Af a.natAbs).map AS=ka at*;generalize(Af b.natAbs).map AS=kb at*;cases sa with
  |false=>
   have nx:=nx rfl;dsimp only at*;generalize(if a<0 then(-1:Int)else 1)=sg at*;generalize(match sb with|true=>b|false=>if b<0 then(-1:Int)else 1)=sh at*;generalize(match sb with|true=>Cd|false=>D.sl false 1 kb)=wy at*;refine AC.seq ?_;refine Aq 100 ?_;refine AV (Ar (@ne_eq (List D)) nx E5) ?_;refine AF kT ?_;refine AF kT ?_;refine AF kT ?_;refine AO ?_;refine Am ?_;exact BK (by trivial) (AK)
  |true=>
   dsimp only at*;cases sb with
   |false=>
    have ny:=ny rfl;dsimp only at*;generalize(if b<0 then(-1:Int)else 1)=sh at*;refine AC.seq ?_;refine Aq 100 ?_;refine AV (Ar (@ne_eq (List D)) ny E5) ?_;refine AF (Bb kT (@ne_eq (List D)) ny E5) ?_;refine AF (Bb kT (@ne_eq (List D)) ny E5) ?_;refine AF (Bb kT (@ne_eq (List D)) ny E5) ?_;refine AO ?_;refine Am ?_;exact BK (by trivial) (AK)
   |true=>
    have ha:a = -9223372036854775808:=DG λh=>hn ⟨rfl,rfl,h⟩
    subst ha;dsimp only at*;refine sZ 100 ?_
    repeat'(first|(refine BK (by exact CL) ?_;refine BM ?_)|((refine B7 (λhb=>?_) (λhb=>?_))<;>(try simp only[Bs,B5]at hb)<;>(try simp only[hb])<;>(refine BM ?_)))
    refine AO ?_;refine Am ?_;exact BK (by trivial) (AK)
 ·refine fR 600 ?_
  refine dI cx ?_;refine fR 700 ?_;refine dI cy ?_;refine fR 800 ?_;refine dI cd ?_;refine fR 900 ?_;refine dI c1 ?_;refine dI c2 ?_;refine AC.seq ?_;refine fR 1000 ?_;refine dI cg ?_
  by_cases h:x.z.tmod y.z<0
  ·have e:decide (max (-1) (min 1 (x.z.tmod y.z))<0)=true:=BX
   rw[AI h,e];refine AO ?_;refine CR 1100 [0,1,2,3,4] [5,6,7] ?_;refine CQ ?_;refine Bf.same _ (co) AJ ?_;refine CQ ?_;refine Bf.same _ (cs) AJ ?_;refine CQ ?_;refine dI ca ?_;refine AC.seq ?_;refine QQ w1 1200 [0,1,2] [3] 2 [0] (2) (by kernel_rfl) (by kernel_rfl) ?_;refine CQ ?_;refine CQ ?_;refine Ag ?_;exact AM rfl AA.out
  ·have e:decide (max (-1) (min 1 (x.z.tmod y.z))<0)=false:=Bc
   rw[AG h,e];refine AO ?_;refine Am ?_;refine AC.seq ?_;refine QQ w1 1200 [0,1,2] [3] 2 [0] (2) (by kernel_rfl) (by kernel_rfl) ?_;refine CQ ?_;refine CQ ?_;refine Ag ?_;exact AM rfl AA.out
theorem Zx (x y:GI)(hx:x.wf)(hy:y.wf)(h0:0<y.z)(fx:x.few)(fy:y.few):AL C0 219 [x.D,y.D] (.tup [(ET x y).1.D,(ET x y).2.D]):=by
 by_cases h:x.sm=true/\y.sm=true/\x.z ≠ -9223372036854775808
 ·unfold ET
  rw[AI h];obtain⟨a,sa⟩:=x;obtain⟨b,sb⟩:=y;obtain⟨h1,h2,h3⟩:=h;dsimp only at h1 h2 h3 h0;subst h1;subst h2;have ra:=hx.1 rfl;have rb:=hy.1 rfl;dsimp only at ra rb;exact ml a b h0 ⟨by omega,by omega⟩ ⟨by omega,by omega⟩
 ·exact ll x y hx hy h0 fx fy h
theorem j8 (x y:GI)(hx:x.wf)(hy:y.wf)(h0:0<y.z)(fx:x.few)(fy:y.few):AL C0 170 [x.D,y.D] (ET x y).1.D:=by
 refine Ad.walk w1 fV rfl λF=>?_
 have cg:=N4 y hy;have cd:=Zx x y hx hy h0 fx fy;have e1:decide (max (-1) (min 1 y.z)<0)=false:=Bc;have hpx:AA x.w:=AJ;have hpy:AA y.w:=AJ;have hpq:AA (ET x y).1.w:=AJ;have hpr:AA (ET x y).2.w:=AJ;dsimp only[GI.D]at*;generalize(ET x y).1.s=qs at*;generalize(ET x y).1.w=qw at*;generalize(ET x y).2.s=rs at*;generalize(ET x y).2.w=rw at*;refine fR 0 ?_;refine AC.seq ?_;refine fR 100 ?_;refine dI cg ?_;rw[e1];refine AO ?_;refine Am ?_;refine fR 300 ?_;refine dI cd ?_;refine fR 400 ?_;refine Ag ?_;exact AM rfl AA.out
theorem af (x:GI)(h:x.wf):Mz x=AY (x.z.natAbs:Nat):=by
 have h1:=rG x h;have h2:=uV x;rw[Pu h1 (by omega),h2]
theorem I8 {n:Nat}(h:(Af n).length<1000000):(AY (n:Int)).few:=by
 show(Af (n:Int).natAbs).length<1000000;rw[Ej];exact h
theorem Zw {a b:Nat}(hb:0<b):ET (AY a) (AY b)=(AY ((a/b:Nat):Int),AY ((a%b:Nat):Int)):=by
 have hb':(0:Int)<(AY (b:Int)).z:=by show(0:Int)<(b:Int);omega
 obtain⟨h1,h2⟩:=aX (Cy a) (Cy b) hb';obtain⟨h3,h4⟩:=cR (x:=AY a) hb';have e3:(ET (AY a) (AY b)).1.z=((a/b:Nat):Int):=by rw[h3];exact(Int.natCast_ediv a b).symm
 have e4:(ET (AY a) (AY b)).2.z=((a%b:Nat):Int):=by rw[h4];exact(Int.natCast_emod a b).symm
 have c3:=Pu h1 (by rw[e3];generalize a/b=q;omega);have c4:=Pu h2 (by rw[e4];generalize a%b=q;omega);rw[e3]at c3;rw[e4]at c4;generalize ET (AY a) (AY b)=p at*;obtain⟨p1,p2⟩:=p;dsimp only at c3 c4;rw[c3,c4]
theorem jS (x y:GI)(hx:x.wf)(hy:y.wf)(fx:x.few)(fy:y.few):AL C0 169 [x.D,y.D] (AY (Nat.gcd x.z.natAbs y.z.natAbs:Nat)).D:=by
 refine Ad.walk w1 fU rfl λF=>?_
 have c1:=gz x hx fx;have c2:=gz y hy fy;rw[af x hx]at c1;rw[af y hy]at c2;have hpx:AA x.w:=AJ;have hpy:AA y.w:=AJ;have hpm:∀n:Nat,AA (AY (n:Int)).w:=λn=>AJ
 unfold GI.few at fx fy;generalize x.z.natAbs=a at*;generalize y.z.natAbs=b at*;dsimp only[GI.D]at*;refine fR 0 ?_;refine AC.seq ?_;refine CR 100 [0,1,2] [3,4,5] ?_;refine CQ ?_;refine Bf.same _ (c1) AJ ?_;refine CQ ?_;refine dI c2 ?_;refine AC.seq ?_;refine AC.block ?_;refine AC.loop (α:=Nat×Nat×Nat) (λp=>⟨[(2,.optr 0 0 2 0 0),(3,.optr 1 1 2 0 0),(4,.optr 2 2 2 0 0)],[⟨2,2,122,2,[DM 0]⟩,⟨1,1,122,2,[.agg [i64 (AY (p.2.1:Int)).s,(AY (p.2.1:Int)).w]]⟩,⟨0,0,122,2,[.agg [i64 (AY (p.1:Int)).s,(AY (p.1:Int)).w]]⟩],p.2.2⟩) (λp=>p.2.1)
  (λp=>Nat.gcd p.1 p.2.1=Nat.gcd a b/\(Af p.1).length<1000000/\(Af p.2.1).length<1000000) (a,b,_) ⟨rfl,fx,fy⟩ AK ?_
 rintro⟨u,v,n⟩ F ⟨g1,g2,g3⟩;dsimp only at g1 g2 g3⊢;have cg:=N4 (AY (v:Int)) (Cy _);rw[EK]at cg;dsimp only[GI.D]at cg;refine AC.seq ?_;refine fR 200 ?_;refine dI cg ?_;rcases EC v with hv|hv
 ·subst hv
  have e2:(max (-1) (min 1 ((0:Nat):Int)) != 0)=false:=by decide
  rw[e2];refine AO ?_;refine CO ?_;refine fR 500 ?_;refine Ag ?_;refine AM ?_ AA.out;rw[<-g1,Nat.gcd_zero_right]
 ·have e2:(max (-1) (min 1 (v:Int)) != 0)=true:=by
   have:max (-1) (min 1 (v:Int))=1:=by omega
   rw[this];rfl
  have cd:=Zx (AY (u:Int)) (AY (v:Int)) (Cy _) (Cy _) (by show(0:Int)<(v:Int);omega) (I8 g2) (I8 g3);rw[Zw hv]at cd;dsimp only[GI.D]at cd;rw[e2];refine AO ?_;refine Am ?_;refine AC.block ?_;refine fR 300 ?_;refine dI cd ?_;refine QQ w1 400 [0,1,2] [3] 2 [0] (0) (by kernel_rfl) (by kernel_rfl) ?_;refine CQ ?_;refine CQ ?_;have hm:u%v<v:=CI u hv;refine⟨(v,u%v,_),⟨?_,g3,Da (IS _ _ (Nat.mod_le _ _)) g2⟩,hm,AK⟩;rw[<-g1,Og u v,Nat.gcd_rec v u,Og]
structure GF where
 n:GI
 d:Nat
abbrev GF.D (x:GF):D:=.agg [i64 x.n.s,x.n.w,i64 (AY (x.d:Int)).s,(AY (x.d:Int)).w]
def Is (r:Rat)(x:GF):Prop:=x.n.wf/\x.n.z=r.num/\x.d=r.den
theorem rO {a b:Nat}(hb:0<b)(h:(Af b).length<1000000):(Af (Nat.gcd a b)).length<1000000:=Da (IS _ _ (Nat.gcd_le_right _ hb)) h
def JI (x:GI)(d:Nat):GF:=if d=1 then⟨x,1⟩else⟨(ET x (AY (Nat.gcd x.z.natAbs d:Nat))).1,d/Nat.gcd x.z.natAbs d⟩
theorem Rf (x:GI)(d:Nat)(hx:x.wf)(hd:0<d):Is (mkRat x.z d) (JI x d):=by
 have hg:0<Nat.gcd x.z.natAbs d:=QV _ hd;have e:mkRat x.z d=Rat.normalize x.z d (by omega):=(Rat.normalize_eq_mkRat _).symm;rw[e,Rat.normalize_eq];unfold JI;split
 ·rename_i h
  subst h;refine⟨hx,?_,?_⟩
  ·dsimp only;rw[Nat.gcd_one_right];simp
  ·dsimp only;rw[Nat.gcd_one_right]
 ·have hg':(0:Int)<(AY (Nat.gcd x.z.natAbs d:Nat)).z:=by show(0:Int)<(Nat.gcd x.z.natAbs d:Nat);omega
  exact⟨(aX hx (Cy _) hg').1,(cR hg').1,rfl⟩
theorem V6:AY ((1:Nat):Int)=⟨1,true⟩:=KQ ⟨by decide,by decide⟩
theorem TG {d:Nat}(h:Sm (d:Int)):(AY (d:Int)).s=(d:Int)/\(AY (d:Int)).w=Cd:=by rw[KQ h];exact⟨rfl,rfl⟩
theorem W4 {d:Nat}(h:¬Sm (d:Int)):(AY (d:Int)).s=1/\(AY (d:Int)).w=.sl false 1 ((Af d).map AS)/\(Af d).map AS≠[]:=by
 rw[V5 h];refine⟨?_,rfl,IY ?_⟩
 ·show(if(d:Int)<0 then(-1:Int)else 1)=1
  rw[CM]
 ·intro h0
  subst h0;exact h ⟨by decide,by decide⟩
def Lc (x y:GI):GF:=JI (if y.z<0 then AY (-x.z)else x) y.z.natAbs
theorem qh (x y:GI)(hx:x.wf)(h0:y.z≠0):Is (Rat.divInt x.z y.z) (Lc x y):=by
 unfold Lc
 by_cases h:y.z<0
 ·rw[AI h]
  have:=Rf (AY (-x.z)) y.z.natAbs (Cy _) (by omega)
  rw[EK]at this;have e:mkRat (-x.z) y.z.natAbs=Rat.divInt x.z y.z:=by
   obtain⟨k,hk⟩:∃k,y.z=Int.negSucc k:=by
    cases hy:y.z with
    |ofNat n=>rw[hy]at h;simp at h;omega
    |negSucc k=>exact⟨k,rfl⟩
   rw[hk];show mkRat (-x.z) (k+1)=_;exact(Rat.normalize_eq_mkRat (by omega)).symm
  rw[e]at this;exact this
 ·rw[AG h]
  have:=Rf x y.z.natAbs hx (by omega)
  have e:mkRat x.z y.z.natAbs=Rat.divInt x.z y.z:=by
   rw[<-Rat.divInt_ofNat];congr 1;omega
  rw[e]at this;exact this
theorem gP (x y:GI)(hx:x.wf)(hy:y.wf)(h0:y.z≠0)(fx:x.few)(fy:y.few):AL C0 120 [x.D,y.D] (Lc x y).D:=by
 refine Ad.walk w1 dO rfl λF=>?_
 have cg:=N4 y hy;have cn1:=Pz x hx fx;have cn2:=Pz y hy fy;obtain⟨x',hx'⟩:∃x',x'=if y.z<0 then AY (-x.z)else x:=⟨_,rfl⟩
 have wx':x'.wf:=by rw[hx'];split;exact Cy _;exact hx
 have fx':x'.few:=by rw[hx'];split;exact bE fx;exact fx
 have hd:0<y.z.natAbs:=by omega
 have fd:(Af y.z.natAbs).length<1000000:=fy;have fdg:=I8 fd;have ey:y.z<0->AY (-y.z)=AY (y.z.natAbs:Int):=λh=>by congr 1;omega
 have ey':¬y.z<0->y=AY (y.z.natAbs:Int):=λh=>by
  rw[Pu hy (by omega)];show AY y.z=AY (y.z.natAbs:Int)
  congr 1;omega
 unfold Lc;rw[<-hx'];generalize hdd:y.z.natAbs=d at*;have hpx:AA x.w:=AJ;have hpy:AA y.w:=AJ;have hpx':AA x'.w:=AJ;have hpd:AA (AY (d:Int)).w:=AJ;have hg:0<Nat.gcd x'.z.natAbs d:=QV _ hd;have cc:=jS x' (AY (d:Int)) wx' (Cy _) fx' fdg;rw[EK,Ej]at cc;have fgg:(AY (Nat.gcd x'.z.natAbs d:Nat)).few:=I8 (rO hd fd);have cq1:=j8 x' (AY (Nat.gcd x'.z.natAbs d:Nat)) wx' (Cy _) (by show(0:Int)<(Nat.gcd x'.z.natAbs d:Nat);omega) fx' fgg;have cq2:=j8 (AY (d:Int)) (AY (Nat.gcd x'.z.natAbs d:Nat)) (Cy _) (Cy _) (by show(0:Int)<(Nat.gcd x'.z.natAbs d:Nat);omega) fdg fgg;rw[Zw hg]at cq2;have hpg:AA (AY ((Nat.gcd x'.z.natAbs d:Nat):Int)).w:=AJ;have hpq1:AA (ET x' (AY (Nat.gcd x'.z.natAbs d:Nat))).1.w:=AJ;have hpq2:AA (AY ((d/Nat.gcd x'.z.natAbs d:Nat):Int)).w:=AJ;unfold JI GF.D;dsimp only[GI.D]at*;refine fR 0 ?_;refine EI ⟨[(2,.optr 0 0 2 0 0),(3,.optr 1 1 2 0 0),(4,.optr 2 2 4 0 0)],[⟨2,2,124,4,[.agg [i64 0,Cd,i64 0,Cd]]⟩,⟨1,1,122,2,[.agg [i64 (AY (d:Int)).s,(AY (d:Int)).w]]⟩,⟨0,0,122,2,[.agg [i64 x'.s,x'.w]]⟩],90⟩ ?_ ?_
 ·by_cases h:y.z<0
  ·have e1:decide (max (-1) (min 1 y.z)<0)=true:=BX
   rw[AI h]at hx';subst hx';rw[<-ey h];refine fR 100 ?_;refine dI cg ?_;rw[e1];refine AO ?_;refine CR 200 [0,1,2] [3,4,5] ?_;refine CQ ?_;refine Bf.same _ (cn1) AJ ?_;refine CQ ?_;refine dI cn2 ?_;exact⟨rfl,AK⟩
  ·have e1:decide (max (-1) (min 1 y.z)<0)=false:=Bc
   rw[AG h]at hx';subst hx';have ey:=ey' h;refine fR 100 ?_;refine dI cg ?_;rw[e1];refine AO ?_;refine Am ?_;rw[<-ey];exact⟨rfl,AK⟩
 by_cases h1:d=1
 ·subst h1
  rw[AI rfl,V6];refine AC.seq ?_;refine sZ 300 ?_
  repeat'(first|(refine BK (by exact CL) ?_;refine BM ?_)|((refine B7 (λhb=>?_) (λhb=>?_))<;>(try simp only[Bs,B5]at hb)<;>(try simp only[hb])<;>(refine BM ?_)))
  refine AO ?_;refine fR 400 ?_;refine Ag ?_;exact AM rfl AA.out
 ·rw[AG h1]
  refine EI ⟨[(2,.optr 0 0 2 0 0),(3,.optr 1 1 2 0 0),(4,.optr 2 2 4 0 0)],[⟨2,2,124,4,[.agg [i64 0,Cd,i64 0,Cd]]⟩,⟨1,1,122,2,[.agg [i64 (AY (d:Int)).s,(AY (d:Int)).w]]⟩,⟨0,0,122,2,[.agg [i64 x'.s,x'.w]]⟩],98⟩ ?_ ?_
  ·by_cases hs:Sm (d:Int)
   ·obtain⟨a1,a2⟩:=TG hs
    rw[a1,a2];have e2:((d:Int)==1)=false:=B4.2 (by omega);refine sZ 300 ?_
    repeat'(first|(refine BK (by exact CL) ?_;refine BM ?_)|((refine B7 (λhb=>?_) (λhb=>?_))<;>(try simp only[Bs,B5]at hb)<;>(try simp only[hb])<;>(refine BM ?_)))
    try simp only[e2]
    refine AO ?_;refine Am ?_;exact⟨rfl,⟨Hq _,⟨.refl _,.refl _,.refl _,trivial⟩,An _⟩⟩
   ·obtain⟨a1,a2,a3⟩:=W4 hs
    rw[a1,a2];generalize(Af d).map AS=l at*;refine AC.seq ?_;refine Aq 300 ?_;refine AV (Ar (@ne_eq (List D)) a3 E5) ?_;refine AF kT ?_;refine AO ?_;refine Am ?_;exact⟨rfl,⟨Hq _,⟨.refl _,.refl _,.refl _,trivial⟩,An _⟩⟩
  ·refine fR 500 ?_
   refine dI cc ?_;refine AC.seq ?_;refine CR 600 [0,1,2,3,4] [5,6,7] ?_;refine CQ ?_;refine Bf.same _ (cq1) AJ ?_;refine CQ ?_;refine dI cq2 ?_;refine Ag ?_;exact AM rfl AA.out
def rk (r:Rat)(k:Nat):Prop:=(Af r.num.natAbs).length<=k/\(Af r.den).length<=k
theorem rk.mono {r:Rat}{k l:Nat}(h:rk r k)(hl:k<=l):rk r l:=⟨BV h.1 hl,BV h.2 hl⟩
theorem R3 {n:Int}{d k:Nat}(hd:d≠0)(h1:(Af n.natAbs).length<=k)(h2:(Af d).length<=k):rk (Rat.normalize n d hd) k:=by
 rw[Rat.normalize_eq];exact⟨BV (IS _ _ (Int.natAbs_ediv_le_natAbs _ _)) h1,BV (IS _ _ (GQ _ _)) h2⟩
theorem LF (a b:Int):(Af (a*b).natAbs).length<=(Af a.natAbs).length+(Af b.natAbs).length:=by
 rw[Kt];exact MM _ _
theorem YR (a b:Int):(Af (a+b).natAbs).length<=max (Af a.natAbs).length (Af b.natAbs).length+1:=
 BV (IS _ _ (Int.natAbs_add_le a b)) (ZF _ _)
theorem gf {a b:Rat}{i j:Nat}(ha:rk a i)(hb:rk b j):rk (a+b) (i+j+1):=by
 rw[Rat.add_def];have h1:=LF a.num b.den;have h2:=LF b.num a.den;have h3:=YR (a.num*b.den) (b.num*a.den);have h4:=MM a.den b.den;rw[Ej]at h1 h2;obtain⟨a1,a2⟩:=ha;obtain⟨b1,b2⟩:=hb;exact R3 _ (by omega) (by omega)
theorem yG {a b:Rat}{i j:Nat}(ha:rk a i)(hb:rk b j):rk (a*b) (i+j):=by
 rw[Rat.mul_def];have h1:=LF a.num b.num;have h4:=MM a.den b.den;obtain⟨a1,a2⟩:=ha;obtain⟨b1,b2⟩:=hb;exact R3 _ (by omega) (by omega)
structure FR (r:Rat)(x:GF)(k:Nat):Prop where
 is:Is r x
 rk:rk r k
theorem FR.fn {r:Rat}{x:GF}{k:Nat}(h:FR r x k)(hk:k<1000000):x.n.few:=by
 show(Af x.n.z.natAbs).length<1000000;rw[h.is.2.1];have:=h.rk.1;omega
theorem FR.ln {r:Rat}{x:GF}{k:Nat}(h:FR r x k):(Af x.n.z.natAbs).length<=k:=by rw[h.is.2.1];exact h.rk.1
theorem FR.ld {r:Rat}{x:GF}{k:Nat}(h:FR r x k):(Af x.d).length<=k:=by rw[h.is.2.2];exact h.rk.2
theorem FR.dpos {r:Rat}{x:GF}{k:Nat}(h:FR r x k):0<x.d:=by rw[h.is.2.2];exact r.den_pos
theorem QI (x:GI)(d:Nat)(hx:x.wf)(fx:(Af x.z.natAbs).length<400000)(fd:(Af d).length<400000):AL C0 121 [x.D,(AY (d:Int)).D] (AY (x.z*d)).D:=by
 have:=iv x (AY (d:Int)) hx (Cy _) fx (by rw[EK,Ej];exact fd)
 rwa [EK]at this
theorem W5 (c d:Nat)(fc:(Af c).length<400000)(fd:(Af d).length<400000):AL C0 121 [(AY (c:Int)).D,(AY (d:Int)).D] (AY ((c*d:Nat):Int)).D:=by
 have:=QI (AY (c:Int)) d (Cy _) (by rw[EK,Ej];exact fc) fd
 rw[EK,<-Gj]at this;exact this
theorem Zo (x:GI)(d:Nat)(hx:x.wf)(hd:0<d)(fx:x.few)(fd:(Af d).length<1000000):AL C0 120 [x.D,(AY (d:Int)).D] (JI x d).D:=by
 have:=gP x (AY (d:Int)) hx (Cy _) (by rw[EK];omega) fx (I8 fd)
 unfold Lc at this;rw[EK,CM,Ej]at this;exact this
theorem UX (x:GF)(hd:0<x.d):AL C0 112 [x.D] (Ap (decide (x.d=1))):=by
 refine Ad.walk w1 dH rfl λF=>?_
 obtain⟨y,d⟩:=x;dsimp only[GF.D]at hd⊢;have hpy:AA y.w:=AJ;generalize y.s=ys at*;generalize y.w=yw at*
 by_cases hs:Sm (d:Int)
 ·obtain⟨a1,a2⟩:=TG hs
  rw[a1,a2];have e2:((d:Int)==1)=decide (d=1):=by
   rw[Fs,Ek,decide_eq_true_iff];omega
  refine fR 0 ?_;refine sZ 100 ?_
  repeat'(first|(refine BK (by exact CL) ?_;refine BM ?_)|((refine B7 (λhb=>?_) (λhb=>?_))<;>(try simp only[Bs,B5]at hb)<;>(try simp only[hb])<;>(refine BM ?_)))
  try simp only[e2]
  refine Ag ?_;exact AM rfl AA.out
 ·obtain⟨a1,a2,a3⟩:=W4 hs
  rw[a1,a2];have e2:decide (d=1)=false:=A8 λh=>hs (by rw[h];exact⟨by decide,by decide⟩)
  rw[e2];generalize(Af d).map AS=l at*;refine fR 0 ?_;refine AC.seq ?_;refine Aq 100 ?_;refine AV (Ar (@ne_eq (List D)) a3 E5) ?_;refine AF kT ?_;refine Ag ?_;exact AM rfl AA.out
def Ki (x y:GF):GF:=if x.d=1/\y.d=1 then⟨Ei x.n y.n,1⟩else JI (Ei (AY (x.n.z*y.d)) (AY (y.n.z*x.d))) (x.d*y.d)
theorem r5 {a b:Rat}{x y:GF}(hx:Is a x)(hy:Is b y):Is (a+b) (Ki x y):=by
 obtain⟨x1,x2,x3⟩:=hx;obtain⟨y1,y2,y3⟩:=hy;rw[Rat.add_def,Rat.normalize_eq_mkRat,<-x2,<-x3,<-y2,<-y3];unfold Ki;split
 ·rename_i h
  rw[h.1,h.2];refine⟨Nd _ _,?_,?_⟩
  ·dsimp only
   rw[Nu];show _=(mkRat (x.n.z*1+y.n.z*1) 1).num;rw[Int.mul_one,Int.mul_one,Rat.mkRat_one,Rat.num_intCast]
  ·dsimp only
   show _=(mkRat (x.n.z*1+y.n.z*1) 1).den;rw[Rat.mkRat_one,Rat.den_intCast]
 ·have:=Rf (Ei (AY (x.n.z*y.d)) (AY (y.n.z*x.d))) (x.d*y.d) (Nd _ _) (IM (by rw[x3];exact a.den_pos) (by rw[y3];exact b.den_pos))
  rw[Nu,EK,EK]at this;exact this
theorem bt (x:GI):AL C0 118 [x.D] (⟨x,1⟩:GF).D:=by
 refine Ad.walk w1 Vq rfl λF=>?_
 have hpx:AA x.w:=AJ;unfold GF.D;rw[V6];dsimp only[GI.D]at*;refine fR 0 ?_;refine AC.seq ?_;refine CR 100 [0,1] [2,3] ?_;refine CQ ?_;refine Bf.same _ (P0 1) AJ ?_;refine CQ ?_;refine Ag ?_;exact AM rfl AA.out
theorem SN {a b:Rat}{x y:GF}{i j:Nat}(hx:FR a x i)(hy:FR b y j)(hk:i+j<300000):AL C0 88 [x.D,y.D] (Ki x y).D:=by
 refine Ad.walk w1 jL rfl λF=>?_
 have v1:=UX x hx.dpos;have v2:=UX y hy.dpos;have l1:=hx.ln;have l2:=hy.ln;have l3:=hx.ld;have l4:=hy.ld;have dp:=IM hx.dpos hy.dpos;have m1:=QI x.n y.d hx.is.1 (by omega) (by omega);have m2:=QI y.n x.d hy.is.1 (by omega) (by omega);have m3:=W5 x.d y.d (by omega) (by omega);have z1:=LF x.n.z y.d;have z2:=LF y.n.z x.d;rw[Ej]at z1 z2;have z3:=YR (x.n.z*y.d) (y.n.z*x.d);have z4:=MM x.d y.d;have s1:=Pt (AY (x.n.z*y.d)) (AY (y.n.z*x.d)) (Cy _) (Cy _) (by show(Af (x.n.z*y.d).natAbs).length<1000000;omega) (by show(Af (y.n.z*x.d).natAbs).length<1000000;omega);have s0:=Pt x.n y.n hx.is.1 hy.is.1 (hx.fn (by omega)) (hy.fn (by omega));have mk:=Zo (Ei (AY (x.n.z*y.d)) (AY (y.n.z*x.d))) (x.d*y.d) (Nd _ _) dp (by
  show(Af (Ei (AY (x.n.z*y.d)) (AY (y.n.z*x.d))).z.natAbs).length<1000000;rw[Nu,EK,EK];omega) (by omega)
 have wg:=bt (Ei x.n y.n);have hp1:AA x.n.w:=AJ;have hp2:AA y.n.w:=AJ;have hp3:AA (AY (x.d:Int)).w:=AJ;have hp4:AA (AY (y.d:Int)).w:=AJ;have hp5:AA (Ei x.n y.n).w:=AJ;have hp6:AA (Ei (AY (x.n.z*y.d)) (AY (y.n.z*x.d))).w:=AJ;have hp7:AA (AY (x.n.z*y.d)).w:=AJ;have hp8:AA (AY (y.n.z*x.d)).w:=AJ;have hp9:AA (AY ((x.d*y.d:Nat):Int)).w:=AJ;have hq1:AA (JI (Ei (AY (x.n.z*y.d)) (AY (y.n.z*x.d))) (x.d*y.d)).n.w:=AJ;have hq2:AA (AY ((JI (Ei (AY (x.n.z*y.d)) (AY (y.n.z*x.d))) (x.d*y.d)).d:Int)).w:=AJ;have hq3:AA (AY ((1:Nat):Int)).w:=AJ;unfold Ki;clear z1 z2 z3 z4 l1 l2 l3 l4 dp hk hx hy;dsimp only[GI.D,GF.D]at*
 by_cases e1:x.d=1
 ·have fb:decide (x.d=1)=true:=Ax e1
  rw[fb]at v1
  by_cases e2:y.d=1
  ·have fd:decide (y.d=1)=true:=Ax e2
   rw[fd]at v2;rw[AI ⟨e1,e2⟩];refine fR 0 ?_;refine AC.seq ?_;refine fR 100 ?_;refine dI v1 ?_;dsimp only[OB];refine CQ ?_;dsimp only[OB];refine CQ ?_;refine dI v2 ?_;refine AO ?_;refine fR 200 ?_;refine dI s0 ?_;refine dI wg ?_;refine Ag ?_;exact AM rfl AA.out
  ·have fd:decide (y.d=1)=false:=A8 e2
   rw[fd]at v2;rw[AG λh=>e2 h.2];refine fR 0 ?_;refine AC.seq ?_;refine fR 100 ?_;refine dI v1 ?_;dsimp only[OB];refine CQ ?_;dsimp only[OB];refine CQ ?_;refine dI v2 ?_;refine AO ?_;refine Am ?_;refine AC.seq ?_;refine CR 300 [0,1,2,3,4,5,6,7,8,9,10,11,12,13,14] [15,16,17] ?_;refine CQ ?_;refine Bf.same _ (m1) AJ ?_;refine CQ ?_;refine Bf.same _ (m2) AJ ?_;refine CQ ?_;refine Bf.same _ (s1) AJ ?_;refine CQ ?_;refine dI m3 ?_;refine dI mk ?_;refine Ag ?_;exact AM rfl AA.out
 ·have fb:decide (x.d=1)=false:=A8 e1
  rw[fb]at v1;rw[AG λh=>e1 h.1];refine fR 0 ?_;refine AC.seq ?_;refine fR 100 ?_;refine dI v1 ?_;dsimp only[Sq];refine CQ ?_;dsimp only[Sq];refine CQ ?_;refine AO ?_;refine Am ?_;refine AC.seq ?_;refine CR 300 [0,1,2,3,4,5,6,7,8,9,10,11,12,13,14] [15,16,17] ?_;refine CQ ?_;refine Bf.same _ (m1) AJ ?_;refine CQ ?_;refine Bf.same _ (m2) AJ ?_;refine CQ ?_;refine Bf.same _ (s1) AJ ?_;refine CQ ?_;refine dI m3 ?_;refine dI mk ?_;refine Ag ?_;exact AM rfl AA.out
theorem Rs {a b:Rat}{x y:GF}{i j:Nat}(hx:FR a x i)(hy:FR b y j):FR (a+b) (Ki x y) (i+j+1):=⟨r5 hx.is hy.is,gf hx.rk hy.rk⟩
def JO (x y:GF):GF:=JI (AY (x.n.z*y.n.z)) (x.d*y.d)
theorem sy {a b:Rat}{x y:GF}(hx:Is a x)(hy:Is b y):Is (a*b) (JO x y):=by
 obtain⟨x1,x2,x3⟩:=hx;obtain⟨y1,y2,y3⟩:=hy;rw[Rat.mul_def,Rat.normalize_eq_mkRat,<-x2,<-x3,<-y2,<-y3]
 have:=Rf (AY (x.n.z*y.n.z)) (x.d*y.d) (Cy _) (IM (by rw[x3];exact a.den_pos) (by rw[y3];exact b.den_pos))
 rw[EK]at this;exact this
theorem VU {a b:Rat}{x y:GF}{i j:Nat}(hx:FR a x i)(hy:FR b y j):FR (a*b) (JO x y) (i+j):=⟨sy hx.is hy.is,yG hx.rk hy.rk⟩
theorem Vp {a b:Rat}{x y:GF}{i j:Nat}(hx:FR a x i)(hy:FR b y j)(hk:i+j<300000):AL C0 86 [x.D,y.D] (JO x y).D:=by
 refine Ad.walk w1 jJ rfl λF=>?_
 have l1:=hx.ln;have l2:=hy.ln;have l3:=hx.ld;have l4:=hy.ld;have dp:=IM hx.dpos hy.dpos;have z1:=LF x.n.z y.n.z;have z4:=MM x.d y.d;have m1:=iv x.n y.n hx.is.1 hy.is.1 (by omega) (by omega);have m3:=W5 x.d y.d (by omega) (by omega);have mk:=Zo (AY (x.n.z*y.n.z)) (x.d*y.d) (Cy _) dp (by show(Af (x.n.z*y.n.z).natAbs).length<1000000;omega) (by omega);have p1:AA x.n.w:=AJ;have p2:AA y.n.w:=AJ;have p3:AA (AY (x.d:Int)).w:=AJ;have p4:AA (AY (y.d:Int)).w:=AJ;have p5:AA (AY (x.n.z*y.n.z)).w:=AJ;have p6:AA (AY ((x.d*y.d:Nat):Int)).w:=AJ;have p7:AA (JI (AY (x.n.z*y.n.z)) (x.d*y.d)).n.w:=AJ;have p8:AA (AY ((JI (AY (x.n.z*y.n.z)) (x.d*y.d)).d:Int)).w:=AJ;unfold JO;clear l1 l2 l3 l4 dp z1 z4 hx hy;dsimp only[GI.D,GF.D]at*;refine fR 0 ?_;refine AC.seq ?_;refine CR 100 [0,1,2,3,4,5,6,7,8] [9,10,11] ?_;refine CQ ?_;refine Bf.same _ (m1) AJ ?_;refine CQ ?_;refine dI m3 ?_;refine dI mk ?_;refine Ag ?_;exact AM rfl AA.out
def Kn (x:GF):GF:=Lc (AY (x.d:Int)) x.n
theorem s9 {a:Rat}{x:GF}(hx:Is a x)(h0:a≠0):Is a⁻¹ (Kn x):=by
 obtain⟨x1,x2,x3⟩:=hx;have hn:x.n.z≠0:=by
  rw[x2];intro h;exact h0 (Rat.num_eq_zero.1 h)
 rw[Rat.inv_def,<-x2,<-x3];exact qh (AY (x.d:Int)) x.n (Cy _) hn
theorem yp {a:Rat}{k:Nat}(h:rk a k)(h0:a≠0):rk a⁻¹ k:=by
 rw[Rat.inv_def];obtain⟨h1,h2⟩:=h;have hn:a.num≠0:=λh=>h0 (Rat.num_eq_zero.1 h)
 rcases Int.lt_or_gt_of_ne hn with h|h
 ·obtain⟨m,hm⟩:∃m,a.num=Int.negSucc m:=by
   cases hy:a.num with
   |ofNat n=>rw[hy]at h;simp at h;omega
   |negSucc k=>exact⟨k,rfl⟩
  rw[hm]at h1⊢;exact R3 (n:=-(a.den:Int)) (d:=m+1) (by omega) (by rw[M8,Ej];exact h2) h1
 ·obtain⟨m,hm⟩:∃m:Nat,a.num=(m:Int):=⟨a.num.natAbs,by omega⟩
  rw[hm]at h1 h⊢;rw[Rat.divInt_ofNat,<-Rat.normalize_eq_mkRat (by omega)];exact R3 _ (by rw[Ej];exact h2) (by rw[Ej]at h1;exact h1)
theorem au {a:Rat}{x:GF}{k:Nat}(h:FR a x k)(h0:a≠0):FR a⁻¹ (Kn x) k:=⟨s9 h.is h0,yp h.rk h0⟩
theorem vG {a:Rat}{x:GF}{k:Nat}(h:FR a x k)(h0:a≠0)(hk:k<1000000):AL C0 137 [x.D] (Kn x).D:=by
 refine Ad.walk w1 eX rfl λF=>?_
 have l3:=h.ld;have hn:x.n.z≠0:=by
  rw[h.is.2.1];intro h;exact h0 (Rat.num_eq_zero.1 h)
 have mk:=gP (AY (x.d:Int)) x.n (Cy _) h.is.1 hn (I8 (by omega)) (h.fn hk);have p1:AA x.n.w:=AJ;have p3:AA (AY (x.d:Int)).w:=AJ;have p7:AA (Lc (AY (x.d:Int)) x.n).n.w:=AJ;have p8:AA (AY ((Lc (AY (x.d:Int)) x.n).d:Int)).w:=AJ;unfold Kn;dsimp only[GI.D,GF.D]at*;refine fR 0 ?_;refine fR 100 ?_;refine dI mk ?_;refine Ag ?_;exact AM rfl AA.out
def S7 (x y:GF):GF:=JO x (Kn y)
theorem sA {a b:Rat}{x y:GF}{i j:Nat}(hx:FR a x i)(hy:FR b y j)(h0:b≠0):FR (a/b) (S7 x y) (i+j):=by
 rw[Rat.div_def];exact VU hx (au hy h0)
theorem uO {a b:Rat}{x y:GF}{i j:Nat}(hx:FR a x i)(hy:FR b y j)(h0:b≠0)(hk:i+j<300000):AL C0 98 [x.D,y.D] (S7 x y).D:=by
 refine Ad.walk w1 jQ rfl λF=>?_
 have c1:=vG hy h0 (by omega);have c2:=Vp hx (au hy h0) hk;have p1:AA x.n.w:=AJ;have p2:AA y.n.w:=AJ;have p3:AA (AY (x.d:Int)).w:=AJ;have p4:AA (AY (y.d:Int)).w:=AJ;have p5:AA (Kn y).n.w:=AJ;have p6:AA (AY ((Kn y).d:Int)).w:=AJ;have p7:AA (JO x (Kn y)).n.w:=AJ;have p8:AA (AY ((JO x (Kn y)).d:Int)).w:=AJ;unfold S7;dsimp only[GI.D,GF.D]at*;refine fR 0 ?_;refine AC.seq ?_;refine CR 100 [0,1,2] [3,4] ?_;refine CQ ?_;refine Bf.same _ (c1) AJ ?_;refine CQ ?_;refine dI c2 ?_;refine Ag ?_;exact AM rfl AA.out
def M0 (a b:Rat):Int:=if a<b then -1 else if b<a then 1 else 0
theorem uF (a b:Rat):ES (a.num*b.den) (b.num*a.den)=M0 a b:=by
 unfold ES M0;simp only[Rat.lt_iff]
theorem uN {a b:Rat}{x y:GF}{i j:Nat}(hx:FR a x i)(hy:FR b y j)(hk:i+j<300000):AL C0 196 [x.D,y.D] (i64 (M0 a b)):=by
 refine Ad.walk w1 dj rfl λF=>?_
 have l1:=hx.ln;have l2:=hy.ln;have l3:=hx.ld;have l4:=hy.ld;have m1:=QI x.n y.d hx.is.1 (by omega) (by omega);have m2:=QI y.n x.d hy.is.1 (by omega) (by omega);have z1:=LF x.n.z y.d;have z2:=LF y.n.z x.d;rw[Ej]at z1 z2;have cm:=zF (AY (x.n.z*y.d)) (AY (y.n.z*x.d)) (Cy _) (Cy _) (by show(Af (x.n.z*y.d).natAbs).length<1000000;omega) (by show(Af (y.n.z*x.d).natAbs).length<1000000;omega);have e:ES (AY (x.n.z*y.d)).z (AY (y.n.z*x.d)).z=M0 a b:=by
  rw[EK,EK,<-uF,hx.is.2.1,hx.is.2.2,hy.is.2.1,hy.is.2.2]
 rw[e]at cm;have p1:AA x.n.w:=AJ;have p2:AA y.n.w:=AJ;have p3:AA (AY (x.d:Int)).w:=AJ;have p4:AA (AY (y.d:Int)).w:=AJ;have p5:AA (AY (x.n.z*y.d)).w:=AJ;have p6:AA (AY (y.n.z*x.d)).w:=AJ;clear l1 l2 l3 l4 z1 z2 e hx hy;dsimp only[GI.D,GF.D]at*;refine fR 0 ?_;refine AC.seq ?_;refine CR 100 [0,1,2,3,4,5,6,7,8] [9,10,11] ?_;refine CQ ?_;refine Bf.same _ (m1) AJ ?_;refine CQ ?_;refine dI m2 ?_;refine dI cm ?_;refine Ag ?_;exact AM rfl AA.out
def HC (a:Rat):Int:=max (-1) (min 1 a.num)
theorem bJ {a:Rat}{x:GF}(hx:Is a x):AL C0 142 [x.D] (i64 (HC a)):=by
 refine Ad.walk w1 fF rfl λF=>?_
 have cg:=N4 x.n hx.1;rw[hx.2.1]at cg;have p1:AA x.n.w:=AJ;have p3:AA (AY (x.d:Int)).w:=AJ;unfold HC;dsimp only[GI.D,GF.D]at*;refine fR 0 ?_;refine fR 100 ?_;refine dI cg ?_;refine Ag ?_;exact AM rfl AA.out
abbrev sb (l:List UInt8):ByteArray:=⟨l.toArray⟩
theorem Cx (l:List UInt8):(sb l).size=l.length:=by simp[ByteArray.size]
theorem Ff (l:List UInt8)(i j:Nat):(sb l).extract i j=sb ((l.take j).drop i):=by
 apply ByteArray.ext;rw[ByteArray.data_extract];simp[List.drop_take]
theorem bw (l:List UInt8):(sb l).toList=l:=by
 rw[ByteArray.toList_eq]
theorem E8 (l m:List UInt8):BI (sb l) (sb m)=decide (l=m):=by
 unfold BI;rw[bw,bw,Fs,Ek,decide_eq_true_iff]
def Do (l:List UInt8):Bool:=match l with
 | []=>false
 |c::_=>c==45
def Bw (l:List UInt8):List UInt8:=if Do l then l.drop 1 else l
def BL (l:List UInt8):Nat:=(l.takeWhile (· != 47)).length
theorem MH (l:List UInt8):BL l<=l.length:=by
 unfold BL;exact(List.takeWhile_sublist _).length_le
theorem ky (l:List UInt8):Lib.indexByte l 47=if BL l<l.length then(BL l:Int)else -1:=by
 induction l with
 |nil=>rfl
 |cons c l ih=>
  unfold Lib.indexByte
  by_cases h:c=47
  ·subst h
   simp[BL]
  ·have e1:BL (c::l)=BL l+1:=by
    unfold BL;rw[Od,AI (by simpa using h),Br]
   have hb:(c==47)=false:=by simpa using h
   rw[hb,ih,e1,Br]
   by_cases h2:BL l<l.length
   ·have h3:BL l+1<l.length+1:=by omega
    have h4:(((BL l:Nat):Int) == -1)=false:=B4.2 (by omega);simp only[h2,h3,h4,if_true,Ip,if_false];omega
   ·have h3:¬BL l+1<l.length+1:=by omega
    simp only[h2,h3,Ip,if_false];rfl
theorem YN (l:List UInt8)(hl:l.length<=1000000000):AL C0 215 [str (sb l),str (sb [45])] (Ap (Do l)):=by
 refine Ad.walk w1 eA rfl λF=>?_
 have hsz:=Cx l;have hs1:=Cx [45];refine sR 0 ?_;refine AC.seq ?_;cases l with
 |nil=>
  have e1:decide (((sb []).size:Int)>=((sb [45]).size:Int))=false:=rfl;refine Aq 100 ?_;refine AV e1 ?_;refine AF e1 ?_;refine AF e1 ?_;refine Ag ?_;exact AM rfl AA.out
 |cons c l=>
  have e1:decide (((sb (c::l)).size:Int)>=((sb [45]).size:Int))=true:=Ax (by rw[hsz,hs1];simp only[Br,Hi];omega);have e2:(sb (c::l)).extract 0 ((((sb [45]).size:Nat):Int)).toNat=sb [c]:=by rw[Ff];rfl
  have e3:BI (sb [c]) (sb [45])=Do (c::l):=by
   rw[E8,Do,Fs,decide_eq_true_iff,Ek];simp
  have h0:(0:Int)<=((sb [45]).size:Int):=by omega
  have h1:((sb [45]).size:Int)<=((sb (c::l)).size:Int):=by rw[hsz,hs1];simp only[Br,Hi];omega
  refine Aq 100 ?_;refine AV e1 ?_;refine AF (Ar e1 e2 e3) ?_;refine AF (Ar e1 e2 e3) ?_;refine Ag ?_;exact AM rfl AA.out
theorem kw (l:List UInt8)(hl:l.length<=1000000000):AL C0 164 [str (sb l),str (sb [45])] (Ap (Do l)):=by
 refine Ad.walk w1 fS rfl λF=>?_
 have c1:=YN l hl;generalize sb l=s at*;generalize Do l=b at*;refine fR 0 ?_;refine fR 100 ?_;refine dI c1 ?_;refine Ag ?_;exact AM rfl AA.out
theorem lY (l:List UInt8)(hl:l.length<=1000000000):AL C0 197 [str (sb l),str (sb [45])] (str (sb (Bw l))):=by
 refine Ad.walk w1 dm rfl λF=>?_
 have c1:=YN l hl;have hsz:=Cx l;unfold Bw;refine sR 0 ?_;refine AC.seq ?_;refine sR 100 ?_;refine cI c1 ?_;rcases hb:Do l with _|_
 ·rw[AG (by simp)]
  refine AO ?_;refine Am ?_;refine sR 300 ?_;refine Ag ?_;exact AM rfl AA.out
 ·rw[AI rfl]
  have h1:(0:Int)<=((sb [45]).size:Int):=by omega
  have h2:((sb [45]).size:Int)<=((sb l).size:Int):=by
   rw[hsz];show(1:Int)<=_;cases l with
   |nil=>cases hb
   |cons c l=>simp only[Br];omega
  have e2:(sb l).extract (((sb [45]).size:Nat):Int).toNat (sb l).size=sb (l.drop 1):=by
   rw[Ff,hsz,Cp (An _)];rfl
  refine AO ?_;refine sZ 200 ?_;refine AV e2 ?_;refine Ag ?_;exact AM rfl AA.out
theorem Tp (l:List UInt8)(hl:l.length<=1000000000):AL C0 145 [str (sb l),str (sb [45])] (str (sb (Bw l))):=by
 refine Ad.walk w1 fJ rfl λF=>?_
 have c1:=lY l hl;generalize sb l=s at*;generalize sb (Bw l)=t at*;refine fR 0 ?_;refine fR 100 ?_;refine dI c1 ?_;refine Ag ?_;exact AM rfl AA.out
theorem m5 (l:List UInt8):AL C0 243 [str (sb l),.prim (.int .u8 47)] (i64 (if BL l<l.length then(BL l:Int)else -1)):=by
 refine Ad.walk w1 eF rfl λF=>?_
 have e1:firstIdx (sb l) (((47:Int)).toNat.toUInt8)=(if BL l<l.length then(BL l:Int)else -1):=by
  rw[Lib.firstIdx_eq];exact ky l
 generalize(if BL l<l.length then(BL l:Int)else -1)=r at*;refine fR 0 ?_;refine AC.seq ?_;refine Aq 100 ?_;refine AV e1 ?_;refine Ag ?_;exact AM rfl AA.out
theorem qS (l:List UInt8)(hl:l.length<=1000000000):AL C0 214 [str (sb l),str (sb [47])] (i64 (if BL l<l.length then(BL l:Int)else -1)):=by
 refine Ad.walk w1 dx rfl λF=>?_
 have c1:=m5 l;have eS:=E8 [47] l;have hr:[47]=l->(if BL l<l.length then(BL l:Int)else -1)=0:=λh=>by subst h;rfl
 generalize(if BL l<l.length then(BL l:Int)else -1)=r at*;have e0:(((sb [47]).size:Int)==0)=false:=rfl;have e1:(((sb [47]).size:Int)==1)=true:=rfl;have hx:(((sb [47]).data.toList.getD ((0:Int)).toNat 0).toNat:Int)=47:=rfl;refine sR 0 ?_;refine sR 100 ?_;refine AC.seq ?_;refine AC.block ?_
 by_cases h:[47]=l
 ·rw[Ax h]at eS
  have hr:=hr h;subst hr;refine sZ 200 ?_;refine AV e0 ?_;refine AF (Ar e0 kF eS) ?_;refine AF (Ar e0 kF eS) ?_;refine AO ?_;refine sR 300 ?_;refine Ag ?_;exact AM rfl AA.out
 ·rw[A8 h]at eS
  refine sZ 200 ?_;refine AV e0 ?_;refine AF (Ar e0 kF eS) ?_;refine AF (Ar e0 kF eS) ?_;refine AO ?_;refine sZ 400 ?_;refine AV e1 ?_;refine AO ?_;refine sZ 500 ?_;refine AV hx ?_;refine cI c1 ?_;refine Ag ?_;exact AM rfl AA.out
theorem e0n (l:List UInt8)(hl:l.length<=1000000000):AL C0 163 [str (sb l),str (sb [47])] (.tup [str (sb (l.take (BL l))),str (sb (l.drop (BL l+1))),Ap (decide (BL l<l.length))]):=by
 refine Ad.walk w1 fQ rfl λF=>?_
 have c1:=qS l hl;have hsz:=Cx l;have hle:=MH l;refine sR 0 ?_
 by_cases h:BL l<l.length
 ·rw[AI h]at c1
  have e1:decide (((BL l:Nat):Int)>=0)=true:=BX;have e2:(sb l).extract 0 (((BL l:Nat):Int)).toNat=sb (l.take (BL l)):=by rw[Ff];rfl
  have w3:IntKind.i64.wrap (((BL l:Nat):Int)+((sb [47]).size:Int))=((BL l+1:Nat):Int):=by
   show IntKind.i64.wrap (((BL l:Nat):Int)+1)=_;rw[wI];omega
  have e3:(sb l).extract (((BL l+1:Nat):Int)).toNat (sb l).size=sb (l.drop (BL l+1)):=by
   rw[Ff,hsz,Cp (An _)];rfl
  rw[Ax h];refine AC.seq ?_;refine sR 100 ?_;refine cI c1 ?_;refine sZ 200 ?_;refine AV e1 ?_;refine AO ?_;refine AC.seq ?_;refine CR 300 [0,1,2,3,4,5,6,7,8,9] [10,11] ?_;refine AF (Ar w3 e2 e3) ?_;refine Ag ?_;exact AM rfl AA.out
 ·rw[AG h]at c1
  have hk:BL l=l.length:=by omega
  have e1:decide (((-1:Int))>=0)=false:=rfl;rw[A8 h,hk,Cp (An _),IK (by omega)];refine AC.seq ?_;refine sR 100 ?_;refine cI c1 ?_;refine sZ 200 ?_;refine AV e1 ?_;refine AO ?_;refine Am ?_;refine sR 400 ?_;refine Ag ?_;exact AM rfl AA.out
theorem dc (l:List UInt8)(hl:l.length<=1000000000):AL C0 117 [str (sb l),str (sb [47])] (.tup [str (sb (l.take (BL l))),str (sb (l.drop (BL l+1))),Ap (decide (BL l<l.length))]):=by
 refine Ad.walk w1 dK rfl λF=>?_
 have c1:=e0n l hl;generalize sb l=s at*;generalize sb (l.take (BL l))=t at*;generalize sb (l.drop (BL l+1))=u at*;generalize decide (BL l<l.length)=b at*;refine fR 0 ?_;refine fR 100 ?_;refine dI c1 ?_;refine Ag ?_;exact AM rfl AA.out
theorem sW (a b:Nat)(ha:a<=9223372036854775807)(hb:b<=9223372036854775807):AL C0 185 [i64 a,i64 b] (i64 (Nat.gcd a b:Nat)):=by
 refine Ad.walk w1 vA rfl λF=>?_
 refine fR 0 ?_;refine AC.seq ?_;refine AC.block ?_;refine AC.loop (α:=Nat×Nat×Nat) (λp=>⟨[(0,i64 p.1),(1,i64 p.2.1)],[],p.2.2⟩) (λp=>p.2.1) (λp=>Nat.gcd p.1 p.2.1=Nat.gcd a b/\p.1<=9223372036854775807/\p.2.1<=9223372036854775807) (a,b,_) ⟨rfl,ha,hb⟩ AK ?_;rintro⟨x,y,n⟩ F ⟨h1,h2,h3⟩;dsimp only at h1 h2 h3⊢;refine AC.seq ?_;refine fR 100 ?_;refine AO ?_
 (refine B7 (λhy=>?_) (λhy=>?_))<;>(try simp only[Bs,B5]at hy)<;>(try simp only[hy])
 ·have hy':(y:Int)>0:=by simpa using hy
  refine Am ?_;refine AC.block ?_;refine CR 200 [0,1,2,3,4] [5] ?_;refine CQ ?_
  have:(x:Int).tmod y=((x%y:Nat):Int):=rfl
  rw[this];refine⟨(y,x%y,_),⟨?_,h3,?_⟩,?_,AK⟩
  ·rw[<-h1,Og x y,Nat.gcd_rec y x,Og]
  ·have:=CI x (show y>0 by omega);dsimp only;omega
  ·exact CI x (show y>0 by omega)
 ·have hy':y=0:=by simp at hy;omega
  subst hy';refine CO ?_;refine fR 300 ?_;refine Ag ?_;refine AM ?_ AA.out;rw[<-h1,Nat.gcd_zero_right]
def M1 (least:Nat)(l:List UInt8):List UInt8:=List.replicate (least-l.length) 48++l
def Fd (least m:Nat)(s:List UInt8):List UInt8:=M1 least (if m=0 then s else Lib.decDigits m++s)
theorem Xo (least m:Nat)(s:List UInt8)(h:0<m\/s.length<least):Fd least (m/10) (UInt8.ofNat (48+m%10)::s)=Fd least m s:=by
 unfold Fd
 by_cases h0:m=0
 ·subst h0
  have hl:s.length<least:=h.resolve_left (by omega);rw[DR,AI rfl];unfold M1;obtain⟨k,hk⟩:∃k,least-s.length=k+1:=⟨least-s.length-1,by omega⟩
  rw[hk,show least-(UInt8.ofNat (48+0%10)::s).length=k from by simp;omega,List.replicate_succ'];simp
 ·rw[AG h0]
  by_cases h1:m<10
  ·rw[DR]
   have:Lib.decDigits m=[UInt8.ofNat (48+m)]:=by unfold Lib.decDigits;rw[dif_pos h1]
   rw[this,show m%10=m from by omega];rfl
  ·rw[CM]
   have:Lib.decDigits m=Lib.decDigits (m/10)++[UInt8.ofNat (48+m%10)]:=by rw[Lib.decDigits];rw[dif_neg h1]
   rw[this,Dt];rfl
theorem ot (k:Nat)(hk:k<10):(⟨#[48,49,50,51,52,53,54,55,56,57]⟩:ByteArray).extract k (k+1)=⟨([UInt8.ofNat (48+k)]:List UInt8).toArray⟩:=by
 match k,hk with
 | 0,_=>rfl
 | 1,_=>rfl
 | 2,_=>rfl
 | 3,_=>rfl
 | 4,_=>rfl
 | 5,_=>rfl
 | 6,_=>rfl
 | 7,_=>rfl
 | 8,_=>rfl
 | 9,_=>rfl
theorem Q4 (a least:Nat)(ha:a+least<=9223372036854775807):AL C0 186 [i64 a,i64 least] (str ⟨(Fd least a []).toArray⟩):=by
 refine Ad.walk w1 vB rfl λF=>?_
 refine fR 0 ?_;refine fR 100 ?_;refine AC.seq ?_;refine AC.block ?_;refine AC.loop (α:=Nat×List UInt8×Nat) (λp=>⟨[(0,i64 p.1),(1,i64 least),(5,str ⟨p.2.1.toArray⟩)],[],p.2.2⟩) (λp=>p.1+(least-p.2.1.length))
  (λp=>Fd least p.1 p.2.1=Fd least a []/\p.1+p.2.1.length<=a+least) (a,[],_) ⟨rfl,by simp⟩ AK ?_
 rintro⟨m,s,n⟩ F ⟨h1,h2⟩;dsimp only at h1 h2⊢;have hsz:=PT s;refine AC.seq ?_;refine EI ⟨[(0,i64 m),(1,i64 least),(5,str ⟨s.toArray⟩),(13,Ap (decide ((m:Int)>0)||decide ((s.length:Int)<least)))],[],n+30⟩ (Aq 200 ?_) ?_
 ·repeat'(first|(refine BK (by exact CL) ?_;refine BM ?_)|((refine B7 (λhb=>?_) (λhb=>?_))<;>(try simp only[Bs,B5]at hb)<;>(try simp only[hb])<;>(refine BM ?_)))
  all_goals exact AK
 refine AO ?_
 (refine B7 (λhc=>?_) (λhc=>?_))<;>(try simp only[Bs,B5]at hc)<;>(try simp only[hc])
 ·have hc:0<m\/s.length<least:=by
   simp at hc;omega
  refine Am ?_;refine AC.block ?_;refine AC.seq ?_;have hm:(m:Int).tmod 10=((m%10:Nat):Int):=rfl;have e2:IntKind.i64.wrap (((m%10:Nat):Int)+1)=((m%10+1:Nat):Int):=wI;have hd:=ot (m%10) (by omega);have hs1:(⟨([UInt8.ofNat (48+m%10)]:List UInt8).toArray⟩:ByteArray).size=1:=rfl;have hlen:s.length+1<=9223372036854775807:=by omega
  have hs10:(⟨#[48,49,50,51,52,53,54,55,56,57]⟩:ByteArray).size=10:=rfl;refine Aq 300 ?_;refine K4 (Bb hm e2 kN hd) ?_;refine fI 400 ?_;have hm4:(m:Int).tdiv 10=((m/10:Nat):Int):=rfl;have hm5:m/10<=9223372036854775807:=by omega
  rw[hm4,wN hm5,Jk,E2,FS];refine⟨(m/10,UInt8.ofNat (48+m%10)::s,_),⟨(Xo least m s hc).trans h1,?_⟩,?_,AK⟩
  ·simp only[Br];omega
  ·simp only[Br];omega
 ·have hc:m=0/\least<=s.length:=by
   simp at hc;omega
  obtain⟨rfl,hl⟩:=hc;refine CO ?_;refine fR 500 ?_;refine Ag ?_;refine AM ?_ AA.out;rw[<-h1];unfold Fd M1;rw[AI rfl,Nat.sub_eq_zero_of_le hl];rfl
theorem aW (a:Nat):Fd 1 a []=Lib.decDigits a:=by
 unfold Fd M1
 by_cases h:a=0
 ·subst h
  have:Lib.decDigits 0=[48]:=by unfold Lib.decDigits;rw[dif_pos (by decide)];rfl
  rw[AI rfl,this];rfl
 ·rw[AG h,Dh]
  have:(Lib.decDigits a).length≠0:=by
   unfold Lib.decDigits;split<;>simp
  rw[show 1-(Lib.decDigits a).length=0 from by omega];rfl
def EL (K g sz:Nat):List D->D
 | []=>Cd
 |_::l=>.osl K g sz 0 (l.length+1)
def EG (K g T sz:Nat):List D->Hp
 | []=>[]
 |x::l=>[⟨K,g,T,sz,x::l⟩]
theorem IW (K g sz:Nat):EL K g sz []=Cd:=rfl
theorem Gu (K g sz:Nat)(x:D)(l:List D):EL K g sz (x::l)=.osl K g sz 0 (l.length+1):=rfl
theorem IX (K g T sz:Nat):EG K g T sz []=[]:=rfl
theorem Gv (K g T sz:Nat)(x:D)(l:List D):EG K g T sz (x::l)=[⟨K,g,T,sz,x::l⟩]:=rfl
theorem O0 (K g sz:Nat)(x y:D)(l:List D):EL K g sz (x::l++[y])=.osl K g sz 0 (l.length+1+1):=by simp[EL]
theorem SU (K g T sz:Nat)(l:List D):Fz (EG K g T sz l) [] (EL K g sz l) (.sl false sz l):=by
 cases l with
 |nil=>exact .nil sz
 |cons x l=>
  refine .osl (e:=⟨K,g,T,sz,x::l⟩) (by simp[EG,Hp.get]) rfl rfl rfl (by simp) (by simp) (λj d d' h1 h2=>?_) λj d d' q c c' h1 h2 h3 h4=>?_
  ·rw[BW]at h1;rw[h1]at h2;cases h2;rfl
  ·rw[BW]at h1;rw[h1]at h2;cases h2;rw[h3]at h4;cases h4;exact Fz.refl _
def spot (a b c d:Nat):D:=.agg [i64 (a/Nat.gcd a b:Nat),Cd,i64 (b/Nat.gcd a b:Nat),Cd,i64 (c/Nat.gcd c d:Nat),Cd,i64 (d/Nat.gcd c d:Nat),Cd]
instance  (a b c d:Nat):AX (spot a b c d):=by unfold spot;exact AJ
instance  {α:Type}(f:α->List D)(l:List α)[h:∀x,Bj (f x)]:Bj (l.flatMap f):=⟨λe he=>by
 obtain⟨x,_,hx⟩:=List.mem_flatMap.1 he;exact(h x).out e hx⟩
theorem I9 {H Hf:Hp}{a a' b b':D}(h1:Fz H Hf a a')(h2:Fz H Hf b b'):Fz H Hf (.tup [a,b]) (.tup [a',b']):=.tup rfl λi d d' hd hd'=>by
 match i with
 | 0=>simp at hd hd';subst hd;subst hd';exact h1
 | 1=>simp at hd hd';subst hd;subst hd';exact h2
 |n+2=>simp at hd
set_option allowUnsafeReducibility true in
attribute [local irreducible] BI
inductive Kd where
 |line|zig|grid|quin
def Kd.most:Kd->Int
 | .line | .zig=>64
 | .grid=>8
 | .quin=>5
def C8 (b:Nat):Bool:=((decide (97<=b)&&decide (b<=122))||(decide (65<=b)&&decide (b<=90)))||(decide (48<=b)&&decide (b<=57))||b==45||b==95||b==46
def D8 (l:List UInt8):Bool:=l.all (λb=>C8 b.toNat)&&(decide (1<=l.length)&&decide (l.length<=24))
theorem jk (s:ByteArray)(p:Nat)(hp:p<s.size):s.data.toList[p]?=some (s.get! p):=by
 have hp':p<s.data.size:=hp;rw[Jx,B8 hp']
 congr 1
 show _=s.data[p]!;rw[getElem!_pos s.data p hp']
theorem aq (s:ByteArray)(p:Nat)(h:(s.get! p).toNat<128):Utf8.decode s p=((s.get! p).toNat,1):=by
 unfold Utf8.decode;exact AI h
theorem om (s:ByteArray)(p:Nat)(h:¬(s.get! p).toNat<128):128<=(Utf8.decode s p).1:=by
 unfold Utf8.decode;dsimp only;simp only[D6];rw[AG h];have hv:128<=Utf8.runeError:=by decide
 repeat' split
 all_goals first|exact hv|(rename_i h1;simp only[ge_iff_le,BU,HH]at h1;dsimp only;omega)
theorem nS (s:ByteArray):AL C0 54 [str s] (Ap (D8 s.data.toList)):=by
 refine Ad.walk w1 iU rfl λB=>?_
 have hsz:s.data.toList.length=s.size:=Io;refine fR 0 ?_;refine AC.seq ?_;refine AC.seq ?_;refine e1Z w1 100 [0] 1 rfl (by kernel_rfl) rfl ?_;refine CQ ?_;intro F hF;refine BM ?_;refine AC.block ?_;refine Gi (α:=Nat×Nat) (λp=>⟨[(0,str s),(7,.optr 101 2 0 0 0)],[],p.2⟩) (λp=>s.size-p.1) (λp F=>Nq C0 B F 101 2 s p.1/\p.1<=s.size/\(s.data.toList.take p.1).all (λb=>C8 b.toNat)=true) (0,3) ⟨hF,BT _,rfl⟩ AK ?_;rintro⟨p,n⟩ F ⟨hIt,hp,hall⟩;dsimp only at hIt hp hall⊢;refine AC.seq ?_;refine e1X w1 200 0 [1] rfl (by kernel_rfl) s p ?_;refine BK hIt (BK (λhlt F hIt=>?_) (λhge=>?_))
 ·refine CQ ?_
  generalize hc:(Utf8.decode s p).1=c;refine AC.seq ?_;refine AO ?_;refine Am ?_;refine AC.block ?_;refine fR 300 ?_;refine EI ⟨[(0,str s),(7,.optr 101 2 0 0 0),(4,.prim (.int .i32 c)),(5,Ap ((decide ((c:Int)>=97)&&decide ((c:Int)<=122))||(decide ((c:Int)>=65)&&decide ((c:Int)<=90))))],[],n+30⟩ (Aq 400 ?_) ?_
  ·repeat'(first|(refine BK (by exact CL) ?_;refine BM ?_)|((refine B7 (λhb=>?_) (λhb=>?_))<;>(try simp only[Bs,B5]at hb)<;>(try simp only[hb])<;>(refine BM ?_)))
   all_goals exact AK
  generalize hL:((decide ((c:Int)>=97)&&decide ((c:Int)<=122))||(decide ((c:Int)>=65)&&decide ((c:Int)<=90)))=L;refine EI ⟨[(0,str s),(7,.optr 101 2 0 0 0),(47,Ap ((((!L && !(decide ((c:Int)>=48)&&decide ((c:Int)<=57)))&&((c:Int) != 45))&&((c:Int) != 95))&&((c:Int) != 46)))],[],n+60⟩ (Aq 500 ?_) ?_
  ·repeat'(first|(refine BK (by exact CL) ?_;refine BM ?_)|((refine B7 (λhb=>?_) (λhb=>?_))<;>(try simp only[Bs,B5]at hb)<;>(try simp only[hb])<;>(refine BM ?_)))
   all_goals exact AK
  have hbad:((((!L && !(decide ((c:Int)>=48)&&decide ((c:Int)<=57)))&&((c:Int) != 45))&&((c:Int) != 95))&&((c:Int) != 46)) = !(C8 c):=by
   subst hL;rw[Fs];simp only[C8,BU,Bs,Hj,Bool.and_eq_false_iff,Hh,bne_iff_ne,ne_eq,B4];omega
  rw[hbad];refine AO ?_
  (refine B7 (λhb=>?_) (λhb=>?_))<;>(try simp only[Bs,B5]at hb)<;>(try simp only[hb])
  ·have hbf:C8 c=false:=by simpa using hb
   refine fR 600 ?_;refine Ag ?_;refine AM ?_ AA.out;have hb8:C8 (s.get! p).toNat=false:=by
    by_cases hlow:(s.get! p).toNat<128
    ·rw[aq s p hlow]at hc
     rw[show(s.get! p).toNat=c from hc];exact hbf
    ·unfold C8;simp;omega
   have:D8 s.data.toList=false:=by
    unfold D8
    have:s.data.toList.all (λb=>C8 b.toNat)=false:=by
     rw[List.all_eq_false];exact⟨_,Au (jk s p hlt),by rw[hb8];simp⟩
    rw[this];rfl
   rw[this]
  ·have hbt:C8 c=true:=by simpa using hb
   have hclt:c<128:=by
    unfold C8 at hbt;simp only[Kx,BU,HH,Ek]at hbt;omega
   have hlow:(s.get! p).toNat<128:=by
    apply DG;intro h
    have:=om s p h
    omega
   rw[aq s p hlow]at hc hIt;refine Am ?_;refine⟨(p+1,n+60),⟨hIt,hlt,?_⟩,by dsimp only;omega,AK⟩;rw[Du,jk s p hlt,Ky,hall];simp;rw[show(s.get! p).toNat=c from hc];exact hbt
 ·have hpe:p=s.size:=by omega
  refine CQ ?_;refine AC.seq ?_;refine AO ?_;refine CO ?_;refine EI ⟨[(2,Ap (decide (1<=(s.size:Int))&&decide ((s.size:Int)<=24)))],[],n+60⟩ (Aq 700 ?_) ?_
  ·repeat'(first|(refine BK (by exact CL) ?_;refine BM ?_)|((refine B7 (λhb=>?_) (λhb=>?_))<;>(try simp only[Bs,B5]at hb)<;>(try simp only[hb])<;>(refine BM ?_)))
   all_goals exact AK
  refine Ag ?_;refine AM ?_ AA.out;have hall':s.data.toList.all (λb=>C8 b.toNat)=true:=by rw[<-hall,hpe,<-hsz,Cz]
  unfold D8;rw[hall',HI,hsz];have e:(decide (1<=(s.size:Int))&&decide ((s.size:Int)<=24))=(decide (1<=s.size)&&decide (s.size<=24)):=by
   rw[Fs];simp only[BU,HH];omega
  rw[<-e]
end Go.Ide
