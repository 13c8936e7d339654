/- The layer of own lemmas and contracts, part 7. -/
import Derived.Test.YteeceibhhdapaaaGreatDoorW5
import Derived.Test.YteeceibhhdapaaaGreatDoorW3
import Derived.Test.YteeceibhhdapaaaGreatDoorW6
import Derived.Lib.AppendIntMem
import Derived.Lib.SmallJoins
import Derived.Shelf.Spec.BitsCarry
import Derived.Laws.StandIn
import Derived.Lib.Bytealg
set_option linter.unusedVariables false
set_option linter.unusedSimpArgs false
namespace Go.Ide
open Go Go.Ide Go.Proofs Go.RowKit
set_option maxRecDepth 100000
def G0 (w:World):Prop:=Lib.TabIs Tryz.prog w "internal/strconv.uint64pow10" .u64 Lib.pow10Tab
theorem kQ:Tryz.prog.globalNamed "internal/strconv.uint64pow10" = some 5:=by kernel_rfl
theorem jZ {w w':World}(h:G0 w)(b:Below (5+1) w w'):G0 w':=by
 unfold G0 Lib.TabIs World.var? at h⊢;rw[kQ]at h⊢;simp only[Option.bind_some]at h⊢;rw[b.block _ (by decide)];exact h
noncomputable def C0:A8:={P:=Tryz.prog,G:=G0,nG:=5+1,hG:=λ_ _=>jZ}
theorem bo {ρ:Lk}{O:Nat->Prop}{w:World}{a b c:Value}{vs:Array Value}(hn:vs.size=3)(h:∀(i:Nat) (x:D),[D.prim a,.prim b,.prim c][i]?=some x->AU ρ O w x (vs.getD i undef)):vs = #[a,b,c]:=by
 match vs,hn with
 |⟨[u,v,x]⟩,_=>
  have h0:=h 0 _ rfl;have h1:=h 1 _ rfl;have h2:=h 2 _ rfl;simp at h0 h1 h2;cases h0;cases h1;cases h2;rfl
theorem gT (x y c:Nat)(hc:c<=1):KK C0 241 [.prim (.int .u64 x),.prim (.int .u64 y),.prim (.int .u64 c)]
  (.tup [.prim (.int .u64 (((x+y+c)%18446744073709551616:Nat):Int)),.prim (.int .u64 (((x+y+c)/18446744073709551616:Nat):Int))]):=λρ O w vs hn h=>by
 have:=bo hn h
 subst this;refine⟨.tuple #[.int .u64 (((x+y+c)%18446744073709551616:Nat):Int),.int .u64 (((x+y+c)/18446744073709551616:Nat):Int)],?_,.tup rfl λi d hd=>?_⟩
 ·show(callFunc 241 _).run Tryz.prog w=_
  rw[run_callFunc_extern Tryz.func241 (by kernel_rfl) (by kernel_rfl) (by kernel_rfl) (e:=add64Entry) (by kernel_rfl),run_add64 x y c (by omega) (by omega) (by omega) (by omega)];simp only[Result.andThen]
  congr 5<;>omega
 ·match i with
  | 0=>simp at hd;subst hd;exact .prim _
  | 1=>simp at hd;subst hd;exact .prim _
  |n+2=>simp at hd
theorem vR {ρ:Lk}{O:Nat->Prop}{w:World}{a b:Value}{vs:Array Value}(hn:vs.size=2)(h:∀(i:Nat) (x:D),[D.prim a,.prim b][i]?=some x->AU ρ O w x (vs.getD i undef)):vs = #[a,b]:=by
 match vs,hn with
 |⟨[u,v]⟩,_=>
  have h0:=h 0 _ rfl;have h1:=h 1 _ rfl;simp at h0 h1;cases h0;cases h1;rfl
theorem eC (s:ByteArray)(c:Int):KK C0 297 [.prim (.string s),.prim (.int .u8 c)] (.prim (.int .i64 (firstIdx s c.toNat.toUInt8))):=λρ O w vs hn h=>by
 have:=vR hn h
 subst this;refine⟨_,?_,.prim _⟩;show(callFunc 297 _).run Tryz.prog w=_;rw[run_callFunc_indexByte Tryz.func297 (by kernel_rfl) (by kernel_rfl) (by kernel_rfl) (by kernel_rfl),run_indexByte_string];rfl
theorem jG (x y b:Nat)(hb:b<=1):KK C0 243 [.prim (.int .u64 x),.prim (.int .u64 y),.prim (.int .u64 b)]
  (.tup [.prim (.int .u64 (((x+18446744073709551616-y-b)%18446744073709551616:Nat):Int)),.prim (.int .u64 ((if x<y+b then 1 else 0:Nat):Int))]):=λρ O w vs hn h=>by
 have:=bo hn h
 subst this;refine⟨.tuple #[.int .u64 (((x+18446744073709551616-y-b)%18446744073709551616:Nat):Int),.int .u64 ((if x<y+b then 1 else 0:Nat):Int)],?_,.tup rfl λi d hd=>?_⟩
 ·show(callFunc 243 _).run Tryz.prog w=_
  rw[run_callFunc_extern Tryz.func243 (by kernel_rfl) (by kernel_rfl) (by kernel_rfl) (e:=sub64Entry) (by kernel_rfl),run_sub64 x y b hb];rfl
 ·match i with
  | 0=>simp at hd;subst hd;exact .prim _
  | 1=>simp at hd;subst hd;exact .prim _
  |n+2=>simp at hd
theorem Pz {O:Nat->Prop}{w:World}{v:Value}{vs:Array Value}(hn:vs.size=1)(h:∀(i:Nat) (x:D),[D.prim v][i]?=some x->AU nol O w x (vs.getD i undef)):vs = #[v]:=by
 match vs,hn with
 |⟨[u]⟩,_=>
  have h0:=h 0 _ rfl;simp at h0;cases h0;rfl
theorem my (n:Int)(h0 : -9223372036854775808<=n)(h1:n<=9223372036854775807):AK C0 208 [i64 n] (str ⟨(Lib.itoa n).toArray⟩):=by
 refine⟨⟨_,_,Tryz.func208,rfl,by kernel_rfl⟩,λY w vs hG hnG hX hvs hr=>?_⟩
 have:=Pz hvs hr
 subst this;refine(Tryz.strconv_Itoa n h0 h1 w hG).mono ?_;rintro e w' ⟨rfl,k,os,rfl⟩;exact⟨_,_,rfl,Lib.below_grow _ _ (Ai _) _ _,rfl,.prim _⟩
theorem mE (s:ByteArray)(n:Int)(hl:s.size<=18)(h:Lib.atoi s.data.toList=some n):AK C0 191 [str s] (.tup [i64 n,.prim .nilIface]):=by
 refine⟨⟨_,_,Tryz.func191,rfl,by kernel_rfl⟩,λY w vs hG hnG hX hvs hr=>?_⟩
 have:=Pz hvs hr
 subst this;refine(Tryz.strconv_Atoi s n hl h w).mono ?_;rintro e w' ⟨rfl,t,rfl⟩;exact⟨_,_,rfl,Joins.below_bytesWorld _ _ _ _ (Ai _),rfl,.tup rfl λi d hd=>by
  match i with
  | 0=>simp at hd;subst hd;exact .prim _
  | 1=>simp at hd;subst hd;exact .prim _
  |n+2=>simp at hd⟩
def Kl (f:Nat)(ds:List D):Option D:=match Nat.beq f 241 with
 |true=>match ds with
  | [.prim (.int .u64 (.ofNat a)),.prim (.int .u64 (.ofNat b)),.prim (.int .u64 (.ofNat c))]=>match Nat.ble c 1 with
   |true=>some (.tup [.prim (.int .u64 (((a+b+c)%18446744073709551616:Nat):Int)),.prim (.int .u64 (((a+b+c)/18446744073709551616:Nat):Int))])
   |false=>none
  |_=>none
 |false=>match Nat.beq f 243 with
  |true=>match ds with
   | [.prim (.int .u64 (.ofNat a)),.prim (.int .u64 (.ofNat b)),.prim (.int .u64 (.ofNat c))]=>match Nat.ble c 1 with
    |true=>some (.tup [.prim (.int .u64 (((a+18446744073709551616-b-c)%18446744073709551616:Nat):Int)),.prim (.int .u64 ((if a<b+c then 1 else 0:Nat):Int))])
    |false=>none
   |_=>none
  |false=>match Nat.beq f 297 with
   |true=>match ds with
    | [.prim (.string s),.prim (.int .u8 c)]=>some (.prim (.int .i64 (firstIdx s c.toNat.toUInt8)))
    |_=>none
   |false=>none
theorem QF (f:Nat)(ds:List D)(d:D)(h:Kl f ds=some d):KK C0 f ds d:=by
 unfold Kl at h;split at h
 ·rename_i hf
  obtain rfl:=B4 hf;split at h<;>try(cases h;done)
  split at h<;>try(cases h;done)
  rename_i hc;cases h;exact gT _ _ _ (Bh hc)
 ·split at h
  ·rename_i hf
   obtain rfl:=B4 hf;split at h<;>try(cases h;done)
   split at h<;>try(cases h;done)
   rename_i hc;cases h;exact jG _ _ _ (Bh hc)
  ·split at h
   ·rename_i hf
    obtain rfl:=B4 hf;split at h<;>try(cases h;done)
    cases h;exact eC _ _
   ·cases h
noncomputable def X1:EV:=⟨PG.get,MB.get,NN.get,λ_=>false,λ_ _=>none,λ_ _=>none,Kl⟩
theorem DV:FF C0 X1:=⟨dm,RP,Ju,λ_ _ _ h=>by simp[X1]at h,by kernel_rfl,λ_ _ _ h=>by simp[X1]at h,QF⟩
theorem w1:DF C0 X1:=DV.w
theorem wI {z:Int}(h1 : -9223372036854775808<=z)(h2:z<=9223372036854775807):IntKind.i64.wrap z=z:=by
 have e1:(2:Int)^IntKind.i64.bits=18446744073709551616:=rfl;have e2:(2:Int)^(IntKind.i64.bits-1)=9223372036854775808:=rfl;unfold IntKind.wrap;simp only[e1,e2];have e3:IntKind.i64.signed=true:=rfl;rw[e3];simp only[Hj,Gk];split<;>omega
theorem wN {n:Nat}(h:n<=9223372036854775807):IntKind.i64.wrap (n:Int)=n:=wI (by omega) (by omega)
set_option maxRecDepth 20000
theorem OS (n:Int):AK C0 152 [i64 n] (Cw n):=by
 refine Ak.walk w1 Zs rfl λF=>?_
 refine fR 0 ?_;refine fR 100 ?_;refine Al ?_;exact AN rfl (AA.out (d:=Cw n))
theorem MC:∀(k u:Nat),u<10^(k+1)->(Lib.decDigits u).length<=k+1
 | 0,u,h=>by
  unfold Lib.decDigits;rw[dif_pos (by simpa using h)];simp
 |k+1,u,h=>by
  unfold Lib.decDigits;split
  ·simp
  ·rw[Bk]
   have:=MC k (u/10) (by
    rw[CL]at h;omega)
   simp only[Bo,Gg];omega
theorem Il (a b:List UInt8):(⟨a.toArray⟩:ByteArray)++⟨b.toArray⟩=⟨(a++b).toArray⟩:=by
 apply ByteArray.ext;simp[ByteArray.data_append]
theorem Nz (l:List UInt8):(⟨l.toArray⟩:ByteArray).size=l.length:=by simp[ByteArray.size]
def Sm (z:Int):Prop:=-9223372036854775808<z/\z<9223372036854775808
theorem wS {z:Int}(h:Sm z):IntKind.i64.wrap z=z:=wI (by have:=h.1;omega) (by have:=h.2;omega)
theorem bt {z:Int}(h:Sm z):(z != -9223372036854775808)=true:=by
 have:=h.1
 simp only[bne_iff_ne,ne_eq];omega
theorem wU {z:Int}(h1:0<=z)(h2:z<18446744073709551616):IntKind.u64.wrap z=z:=by
 have e1:(2:Int)^IntKind.u64.bits=18446744073709551616:=rfl;unfold IntKind.wrap;simp only[e1];have e3:IntKind.u64.signed=false:=rfl;rw[e3];simp only[I1,Hi,if_false];omega
theorem na (z:Int)(h:Sm z):AK C0 198 [i64 z] (u64 (z.natAbs:Nat)):=by
 refine Ak.walk w1 ZM rfl λF=>?_
 obtain⟨h1,h2⟩:=h;refine fR 0 ?_;refine AC.seq ?_;refine fR 100 ?_;refine AO ?_
 (refine Bv (λh4=>?_) (λh4=>?_))<;>(try simp only[Bi,Bs]at h4)<;>(try simp only[h4])
 ·have hz:z<0:=by simpa using h4
  have e1:IntKind.i64.wrap (0-z)=(z.natAbs:Nat):=by rw[wI (by omega) (by omega)];omega
  have e2:IntKind.u64.wrap ((z.natAbs:Nat):Int)=(z.natAbs:Nat):=wU (by omega) (by omega);refine sZ 200 ?_;refine Jw (Ac e1 e2) ?_;refine Al ?_;exact AN rfl AA.out
 ·have hz:¬z<0:=by simpa using h4
  have e2:IntKind.u64.wrap z=(z.natAbs:Nat):=by rw[wU (by omega) (by omega)];omega
  refine Ap ?_;refine sZ 300 ?_;refine Jw e2 ?_;refine Al ?_;exact AN rfl AA.out
theorem tJ (z:Int)(h:Sm z):AK C0 193 [Cw z] (Cw (-z)):=by
 refine Ak.walk w1 Tg rfl λF=>?_
 refine fR 0 ?_;refine AC.seq ?_;refine sZ 100 ?_
 repeat'(first|(refine And.intro (by exact B6) ?_;refine Aw ?_)|((refine Bv (λhb=>?_) (λhb=>?_))<;>(try simp only[Bi,Bs]at hb)<;>(try simp only[hb])<;>(refine Aw ?_)))
 rw[bt h];refine AO ?_;have e1:IntKind.i64.wrap (0-z) = -z:=by
  have:=h.1;have:=h.2
  rw[wI (by omega) (by omega)];omega
 refine sZ 200 ?_;refine Jw e1 ?_;refine Al ?_;exact AN rfl AA.out
theorem Nu (x y:Nat)(hx:x<18446744073709551616)(hy:y<18446744073709551616):AK C0 197 [u64 x,u64 y] (.tup [u64 (x*y/18446744073709551616:Nat),u64 (x*y%18446744073709551616:Nat)]):=by
 refine⟨⟨_,_,Tryz.func197,rfl,by kernel_rfl⟩,λY w vs hG hnG hX hvs hr=>?_⟩;obtain⟨v1,v2,rfl⟩:∃a b,vs = #[a,b]:=by
  match vs,hvs with
  |⟨[a,b]⟩,_=>exact⟨a,b,rfl⟩
 have h0:=hr 0 _ rfl;have h1:=hr 1 _ rfl;simp at h0 h1;cases h0;cases h1;refine(Tryz.bits_Mul64 x y hx hy w).mono ?_;rintro e w' ⟨rfl,rfl⟩;exact⟨_,_,rfl,.refl _ _,rfl,.tup rfl λi d hd=>by
  match i with
  | 0=>simp at hd;subst hd;exact .prim _
  | 1=>simp at hd;subst hd;exact .prim _
  |n+2=>simp at hd⟩
theorem nm {a b:Int}(hb:0<b):(a.tmod b<0->a.tdiv b-1=a/b/\a.tmod b+b=a%b)/\(¬a.tmod b<0->a.tdiv b=a/b/\a.tmod b=a%b):=by
 have h1:=Int.mul_tdiv_add_tmod a b;have h2:=Int.tmod_lt_of_pos a hb;have h3:=Int.lt_tmod_of_pos a hb;constructor
 ·intro h
  have:=(Int.ediv_emod_unique (a:=a) (r:=a.tmod b+b) (q:=a.tdiv b-1) hb).2 ⟨by rw[Int.mul_sub,Int.mul_one];omega,by omega,by omega⟩
  exact⟨this.1.symm,this.2.symm⟩
 ·intro h
  have:=(Int.ediv_emod_unique (a:=a) (r:=a.tmod b) (q:=a.tdiv b) hb).2 ⟨by omega,by omega,by omega⟩
  exact⟨this.1.symm,this.2.symm⟩
theorem Yf {a b:Int}(ha:Sm a):Sm (a.tdiv b):=by
 have h:(a.tdiv b).natAbs<=a.natAbs:=by rw[Int.natAbs_tdiv];exact Gi _ _
 have:=ha.1;have:=ha.2
 exact⟨by omega,by omega⟩
theorem iO (a b:Int)(hb0:0<b)(ha:Sm a)(hb:Sm b):AK C0 240 [Cw a,Cw b] (.tup [Cw (a/b),Cw (a%b)]):=by
 refine Ak.walk w1 Th rfl λF=>?_
 obtain⟨t1,t2⟩:=nm (a:=a) hb0;have h2:=Int.tmod_lt_of_pos a hb0;have h3:=Int.lt_tmod_of_pos a hb0;have q1:=wS (Yf (b:=b) ha);have q2:IntKind.i64.wrap (a.tmod b)=a.tmod b:=wI (by have:=hb.2;omega) (by have:=hb.2;omega);have q0:=Yf (b:=b) ha;refine fR 0 ?_;refine AC.seq ?_;refine sZ 100 ?_
 repeat'(first|(refine And.intro (by exact B6) ?_;refine Aw ?_)|((refine Bv (λhb=>?_) (λhb=>?_))<;>(try simp only[Bi,Bs]at hb)<;>(try simp only[hb])<;>(refine Aw ?_)))
 rw[bt ha];refine AO ?_;refine AC.seq ?_;refine B8 w1 200 [0,1,2,3,4,5,6,7,8,9,10] [11] (by kernel_rfl) ?_;refine And.intro (by(refine Aw ?_);(try simp only[q1,q2]);all_goals exact B6) ?_;refine Aw ?_
 try simp only[q1,q2]
 refine AC.seq ?_;refine fR 300 ?_;refine AO ?_
 (refine Bv (λh40=>?_) (λh40=>?_))<;>(try simp only[Bi,Bs]at h40)<;>(try simp only[h40])
 ·obtain⟨e1,e2⟩:=t1 (by simpa using h40)
  have q3:IntKind.i64.wrap (a.tdiv b-1)=a/b:=by rw[wI (by have:=q0.1;omega) (by have:=q0.2;omega)];exact e1
  have q4:IntKind.i64.wrap (a.tmod b+b)=a%b:=by rw[wI (by have:=hb.2;omega) (by have:=hb.2;omega)];exact e2
  refine B8 w1 400 [0,1,2,3,4,5,6] [7] (by kernel_rfl) ?_;refine And.intro (by(refine Aw ?_);(try simp only[q3,q4]);all_goals exact B6) ?_;refine Aw ?_
  try simp only[q3,q4]
  refine fR 500 ?_;refine Al ?_;exact AN rfl AA.out
 ·obtain⟨e1,e2⟩:=t2 (by simpa using h40)
  refine Ap ?_;refine AC.seq ?_;rw[e1,e2];refine fI 500 ?_;refine Al ?_;exact AN rfl AA.out
theorem lS (z:Int):AK C0 148 [Cw z] (MA z 1):=by
 refine Ak.walk w1 Tc rfl λF=>?_
 refine fR 0 ?_;refine AC.seq ?_;refine B8 w1 100 [0,1] [2,3] (by kernel_rfl) ?_;refine CC ?_;refine BX.same _ (OS 1) AJ ?_;refine CC ?_;refine Al ?_;exact AN rfl AA.out
theorem wR (z:Int):AK C0 105 [i64 z] (MA z 1):=by
 refine Ak.walk w1 Y2 rfl λF=>?_
 refine fR 0 ?_;refine fR 100 ?_;refine dI (OS z) ?_;refine dI (lS z) ?_;refine Al ?_;exact AN rfl AA.out
def Du (a b:Int):Int:=if a<b then -1 else if b<a then 1 else 0
theorem mn (a b:Int):AK C0 272 [Cw a,Cw b] (i64 (Du a b)):=by
 refine Ak.walk w1 Ti rfl λF=>?_
 unfold Du;refine fR 0 ?_;refine AC.seq ?_;refine sZ 100 ?_
 repeat'(first|(refine And.intro (by exact B6) ?_;refine Aw ?_)|((refine Bv (λhb=>?_) (λhb=>?_))<;>(try simp only[Bi,Bs]at hb)<;>(try simp only[hb])<;>(refine Aw ?_)))
 refine AO ?_;refine AC.seq ?_;refine AC.block ?_;refine fR 200 ?_;refine AO ?_
 (refine Bv (λh13=>?_) (λh13=>?_))<;>(try simp only[Bi,Bs]at h13)<;>(try simp only[h13])
 ·have h1:a<b:=by simpa using h13
  rw[AH h1];refine fR 300 ?_;refine Al ?_;exact AN rfl AA.out
 ·have h1:¬a<b:=by simpa using h13
  rw[AG h1];refine fR 400 ?_;refine AO ?_
  (refine Bv (λh19=>?_) (λh19=>?_))<;>(try simp only[Bi,Bs]at h19)<;>(try simp only[h19])
  ·have h2:b<a:=by simpa using h19
   rw[AH h2];refine fR 500 ?_;refine Al ?_;exact AN rfl AA.out
  ·have h2:¬b<a:=by simpa using h19
   rw[AG h2];refine Ap ?_;refine fR 600 ?_;refine Al ?_;exact AN rfl AA.out
theorem Yo {n k:Nat}(h:Nat.blt n k=true):n<k:=by rw[Nat.blt_eq]at h;exact h
def yG:Int->Bool
 | .ofNat n=>Nat.blt n 9223372036854775808
 | .negSucc n=>Nat.blt n 9223372036854775807
theorem tU {z:Int}(h:yG z=true):Sm z:=by
 cases z with
 |ofNat n=>have:=Yo h;exact⟨by rw[Int.ofNat_eq_natCast];omega,by rw[Int.ofNat_eq_natCast];omega⟩
 |negSucc n=>have:=Yo h;exact⟨by omega,by omega⟩
abbrev BB:Nat:=18446744073709551616
def Ag (n:Nat):List Nat:=if _h:n=0 then[]else(n%BB)::Ag (n/BB)
termination_by n
decreasing_by exact Hk (Dy _h) (by decide)
def AT:List Nat->Nat
 | []=>0
 |a::l=>a+BB*AT l
def Wd (l:List Nat):Prop:=∀a∈l,a<BB
theorem Fj:Ag 0=[]:=by unfold Ag;rfl
theorem F3 {n:Nat}(h:n≠0):Ag n=(n%BB)::Ag (n/BB):=by rw[Ag,dif_neg h]
theorem FA (n:Nat):Wd (Ag n):=by
 induction n using Nat.strongRecOn with
 |ind n ih=>
  by_cases h:n=0
  ·subst h;rw[Fj];intro a ha;cases ha
  ·rw[F3 h]
   intro a ha;rcases BA.1 ha with rfl|ha
   ·exact B5 _ (by decide)
   ·exact ih _ (Hk (Dy h) (by decide)) a ha
theorem En (n:Nat):AT (Ag n)=n:=by
 induction n using Nat.strongRecOn with
 |ind n ih=>
  by_cases h:n=0
  ·subst h;rw[Fj];rfl
  ·rw[F3 h,AT,ih _ (Hk (Dy h) (by decide))]
   exact El n BB
theorem J5 (l m:List Nat):AT (l++m)=AT l+BB^l.length*AT m:=by
 induction l with
 |nil=>simp[AT]
 |cons a l ih=>
  simp only[ES,AT,ih,Bo,CL,BM];rw[BS (BB^l.length) BB,Bw,EW]
theorem Wd.tail {a:Nat}{l:List Nat}(h:Wd (a::l)):Wd l:=λb hb=>h b (Cn _ hb)
theorem Wd.head {a:Nat}{l:List Nat}(h:Wd (a::l)):a<BB:=h a Cg
theorem Wd.append {l m:List Nat}(h:Wd l)(k:Wd m):Wd (l++m):=λa ha=>(List.mem_append.1 ha).elim (h a) (k a)
theorem Wd.take {l:List Nat}(h:Wd l)(n:Nat):Wd (l.take n):=λa ha=>h a (IT ha)
theorem HO:∀ {l:List Nat},Wd l->AT l<BB^l.length
 | [],_=>by simp[AT]
 |a::l,h=>by
  have h1:=HO h.tail;have h2:=h.head;rw[AT,Bo,CL]
  calc a+BB*AT l<BB+BB*AT l:=by omega
   _=BB*(AT l+1):=by rw[BM,EB,Kp]
   _<=BB*BB^l.length:=Cd _ h1
   _=_:=BS _ _
theorem Wc:∀ {l:List Nat},Wd l->(∀a∈l.getLast?,a≠0)->Ag (AT l)=l
 | [],_,_=>Fj
 | [a],h,hl=>by
  have ha:a≠0:=hl a (by simp);have hb:=h.head;rw[show AT [a]=a from by simp[AT],F3 ha,Dc hb,HE hb,Fj]
 |a::b::l,h,hl=>by
  have ih:=Wc h.tail (λx hx=>hl x (by simpa using hx));have hb:=h.head;have hv:AT (b::l)≠0:=by
   intro h0;rw[h0,Fj]at ih;cases ih
  have e1:AT (a::b::l)%BB=a:=by rw[AT,RW,Dc hb]
  have e2:AT (a::b::l)/BB=AT (b::l):=by
   rw[AT,Re _ _ (by decide),HE hb,BP]
  have hne:AT (a::b::l)≠0:=by
   intro h0;rw[h0]at e2;exact hv (by rw[<-e2];rfl)
  rw[F3 hne,e1,e2,ih]
theorem Pc:∀(k:Nat),AT (List.replicate k 0)=0
 | 0=>rfl
 |k+1=>by rw[List.replicate_succ,AT,Pc k,EX]
theorem Vx {l:List Nat}(h:Wd l)(n:Nat)(hz:∀j,n<=j->∀a,l[j]?=some a->a=0)(hn:n<=l.length)(hl:∀m,n=m+1->∀a,l[m]?=some a->a≠0):l.take n=Ag (AT l):=by
 have hd:l.drop n=List.replicate (l.length-n) 0:=by
  refine O3 λi=>?_
  rw[HH,List.getElem?_replicate];split
  ·rename_i hi
   rw[BI (by omega)]
   congr 1
   exact hz _ (Nat.le_add_right _ _) _ (BI (by omega))
  ·exact Dd (by omega)
 have hv:AT l=AT (l.take n):=by
  conv=>lhs;rw[<-Ez n l]
  rw[J5,hd,Pc,EX,DY]
 rw[hv];refine(Wc (h.take n) λa ha=>?_).symm
 match n,hl,hn with
 | 0,_,_=>simp at ha
 |m+1,hl,hn=>
  refine hl m rfl a ?_;rw[List.getLast?_eq_getElem?,Bf,E4 hn,Ej,AH (by omega)]at ha;simpa using ha
abbrev AS (n:Nat):D:=u64 (n:Int)
def wL (l:List Nat):D:=.sl false 1 (l.map AS)
def wD (n:Nat):D:=wL (Ag n)
theorem KH (l:List Nat):B7 (wL l):=.sl λe he d hd=>by
 obtain⟨a,_,rfl⟩:=List.mem_map.1 he;simp only[D.cells,BA,DM,or_false]at hd;subst hd;exact .prim _
instance  (l:List Nat):AA (wL l):=⟨KH l⟩
instance  (n:Nat):AA (wD n):=⟨KH _⟩
theorem DQ {l:List Nat}{i a:Nat}(h:l[i]?=some a):(l.map AS)[i]?=some (AS a):=by rw[A7,h];rfl
theorem trim_ok (l:List Nat)(h:Wd l)(hlen:l.length<4000000000):AK C0 242 [wL l] (wD (AT l)):=by
 refine Ak.walk w1 aV rfl λF=>?_
 unfold wL;refine sR 0 ?_;refine sR 100 ?_;refine AC.seq ?_;refine AC.block ?_;have hml:((l.map AS).length:Int)=(l.length:Int):=by rw[Am]
 rw[hml];refine AC.loop (α:=Nat×Nat) (λp=>⟨[(0,.sl false 1 (l.map AS)),(3,i64 p.1)],[],p.2⟩) (λp=>p.1)
  (λp=>p.1<=l.length/\∀j,p.1<=j->∀a,l[j]?=some a->a=0) (l.length,_) ⟨Ai _,λj hj a ha=>by rw[Dd hj]at ha;cases ha⟩ AL ?_
 rintro⟨n,m⟩ F ⟨h1,h2⟩;dsimp only at h1 h2⊢;refine AC.seq ?_;refine AC.seq ?_;rcases n with _|n
 ·have z0:decide (((0:Nat):Int)>0)=false:=rfl
  refine Aq w1 200 (by kernel_rfl) ?_;refine AE z0 ?_;refine AO ?_;refine CA ?_;have ht:=Vx h 0 h2 (BU _) (by simp);refine sR 400 ?_;refine Al ?_;refine AN (d0:=wL (l.take 0)) ?_ AA.out;rw[ht];rfl
 ·obtain⟨a,ha⟩:∃a,l[n]?=some a:=⟨l[n],BI (by omega)⟩
  have hx:=DQ ha;have z1:decide (((n+1:Nat):Int)>0)=true:=AY (by omega);have w2:IntKind.i64.wrap (((n+1:Nat):Int)-1)=(n:Int):=by rw[wI (by omega) (by omega)];omega
  refine Aq w1 200 (by kernel_rfl) ?_;refine AE (Ac z1 w2) ?_;refine Br z1 hx ?_;refine AE (Ac z1 w2) ?_;refine AO ?_
  (refine Bv (λh15=>?_) (λh15=>?_))<;>(try simp only[Bi,Bs]at h15)<;>(try simp only[h15])
  ·have ha0:a=0:=by
    have:(a:Int)=0:=by simpa using h15
    omega
   subst ha0;refine Ap ?_;refine AC.block ?_;refine Aq w1 300 (by kernel_rfl) ?_;refine AV w2 ?_;refine⟨(n,_),⟨by dsimp only;omega,λj hj b hb=>?_⟩,by dsimp only;omega,AL⟩;rcases Nat.eq_or_lt_of_le hj with rfl|hlt
   ·exact Fc (hb.symm.trans ha)
   ·exact h2 j hlt b hb
  ·have ha0:a≠0:=by
    intro h0;subst h0;simp at h15
   refine CA ?_;have ht:=Vx h (n+1) h2 h1 (λm hm b hb=>by
    obtain rfl:n=m:=by omega
    rw[ha]at hb;cases hb;exact ha0)
   refine sR 400 ?_;refine Al ?_;have e4:List.take ((((n+1:Nat):Int)).toNat-0) (List.drop 0 (l.map AS))=(l.take (n+1)).map AS:=by
    rw[List.map_take];simp
   rw[e4];refine AN (d0:=wL (l.take (n+1))) ?_ AA.out;rw[ht];rfl
theorem HL (b:Nat):∀a,b<=a->(Ag b).length<=(Ag a).length:=by
 induction b using Nat.strongRecOn with
 |ind b ih=>
  intro a h
  by_cases hb:b=0
  ·subst hb;rw[Fj];exact BU _
  ·rw[F3 hb,F3 (n:=a) (by omega),Bo,Bo]
   exact Nat.succ_le_succ (ih _ (Hk (Dy hb) (by decide)) _ (Nat.div_le_div_right h))
theorem VM {a b:Nat}(h:(Ag a).length<(Ag b).length):a<b:=by
 rcases BG a b with h1|h1
 ·exact h1
 ·have:=HL b a h1;omega
theorem KJ {l:List Nat}{k a:Nat}(h:l[k]?=some a):AT l=AT (l.take k)+BB^k*(a+BB*AT (l.drop (k+1))):=by
 have hk:k<l.length:=(List.getElem?_eq_some_iff.1 h).1
 conv=>lhs;rw[<-Ez k l]
 rw[J5,Bf,E4 (by omega)]
 have:l.drop k=a::l.drop (k+1):=by
  rw[EI hk]
  congr 1
  exact(List.getElem?_eq_some_iff.1 h).2
 rw[this,AT]
theorem WF {l m:List Nat}{k a b:Nat}(hl:Wd l)(ha:l[k]?=some a)(hb:m[k]?=some b)(hd:l.drop (k+1)=m.drop (k+1))(hab:a<b):AT l<AT m:=by
 have hk:k<l.length:=(List.getElem?_eq_some_iff.1 ha).1;rw[KJ ha,KJ hb,hd];have h1:=HO (hl.take k);rw[Bf,E4 (by omega)]at h1;generalize AT (m.drop (k+1))=r;have h2:BB^k*(a+BB*r)+BB^k<=BB^k*(b+BB*r):=by
  rw[<-Nat.mul_succ];exact Cd _ (by omega)
 omega
theorem QL (a b:Nat)(ha:(Ag a).length<4000000000)(hb:(Ag b).length<4000000000):AK C0 203 [wD a,wD b] (i64 (Du a b)):=by
 refine Ak.walk w1 ZR rfl λF=>?_
 have hwa:=FA a;have hwb:=FA b;have va:=En a;have vb:=En b;have hlt:=@VM a b;have hgt:=@VM b a;unfold wD wL Du;generalize Ag a=la at*;generalize Ag b=lb at*;have ea:(((la.map AS).length:Nat):Int)=(la.length:Int):=by rw[Am]
 have eb:(((lb.map AS).length:Nat):Int)=(lb.length:Int):=by rw[Am]
 refine sR 0 ?_;refine AC.seq ?_;refine sZ 100 ?_;refine AV (Ac ea eb) ?_;refine AO ?_
 (refine Bv (λh10=>?_) (λh10=>?_))<;>(try simp only[Bi,Bs]at h10)<;>(try simp only[h10])
 ·have hne:la.length≠lb.length:=by
   have:(la.length:Int)≠lb.length:=by simpa using h10
   omega
  refine AC.seq ?_;refine sZ 200 ?_;refine AV (Ac ea eb) ?_;refine AO ?_
  (refine Bv (λh15=>?_) (λh15=>?_))<;>(try simp only[Bi,Bs]at h15)<;>(try simp only[h15])
  ·have h1:la.length<lb.length:=by
    have:(la.length:Int)<lb.length:=by simpa using h15
    omega
   rw[AH (by have:=hlt h1;omega)];refine sR 300 ?_;refine Al ?_;exact AN rfl AA.out
  ·have h1:lb.length<la.length:=by
    have:¬(la.length:Int)<lb.length:=by simpa using h15
    omega
   have h2:=hgt h1;rw[AG (by omega),AH (by omega)];refine Ap ?_;refine sR 400 ?_;refine Al ?_;exact AN rfl AA.out
 ·have hl:la.length=lb.length:=by
   have:(la.length:Int)=lb.length:=by simpa using h10
   omega
  clear hlt hgt;refine Ap ?_;refine AC.seq ?_;refine sZ 500 ?_;refine AV ea ?_;refine AC.block ?_;have w0:IntKind.i64.wrap ((la.length:Int)-1)=(la.length:Int)-1:=wI (by omega) (by omega);rw[w0];refine AC.loop (α:=Nat×Nat) (λp=>⟨[(0,.sl false 1 (la.map AS)),(1,.sl false 1 (lb.map AS)),(5,i64 ((p.1:Int)-1))],[],p.2⟩) (λp=>p.1)
   (λp=>p.1<=la.length/\la.drop p.1=lb.drop p.1) (la.length,_) ⟨Ai _,by rw[IP,hl,IP]⟩ AL ?_
  rintro⟨k,m⟩ F ⟨h1,h2⟩;dsimp only at h1 h2⊢;refine AC.seq ?_;refine sR 600 ?_;refine AO ?_
  (refine Bv (λh20=>?_) (λh20=>?_))<;>(try simp only[Bi,Bs]at h20)<;>(try simp only[h20])
  ·obtain⟨j,rfl⟩:∃j,k=j+1:=⟨k-1,by
    have:(k:Int)-1>=0:=by simpa using h20
    omega⟩
   have wj:((j+1:Nat):Int)-1=(j:Int):=by omega
   obtain⟨x,hx⟩:∃x,la[j]?=some x:=⟨la[j],BI (by omega)⟩
   obtain⟨y,hy⟩:∃y,lb[j]?=some y:=⟨lb[j],BI (by omega)⟩
   have hx':=DQ hx;have hy':=DQ hy;rw[wj];refine Ap ?_;refine AC.seq ?_;refine AC.block ?_;refine AC.seq ?_;refine B8 w1 800 [0,1,2,3,4,5,6,7] [8] (by kernel_rfl) ?_;refine AE kN ?_;refine Br kT hx' ?_;refine AE kN ?_;refine Br kT hy' ?_;refine AE kN ?_;refine AE kN ?_;refine AO ?_
   (refine Bv (λh31=>?_) (λh31=>?_))<;>(try simp only[Bi,Bs]at h31)<;>(try simp only[h31])
   ·have hne:x≠y:=by
     intro h0;subst h0;simp at h31
    refine AC.seq ?_;refine AC.seq ?_;refine B8 w1 900 [0,1,2,3,4,5,6,7] [8] (by kernel_rfl) ?_;refine AE kN ?_;refine Br kT hx' ?_;refine AE kN ?_;refine Br kT hy' ?_;refine AE kN ?_;refine AE kN ?_;refine AO ?_
    (refine Bv (λh40=>?_) (λh40=>?_))<;>(try simp only[Bi,Bs]at h40)<;>(try simp only[h40])
    ·have hxy:x<y:=by
      have:(x:Int)<y:=by simpa using h40
      omega
     have:=WF hwa hx hy h2 hxy
     rw[AH (by omega)];refine sR 1000 ?_;refine Al ?_;exact AN rfl AA.out
    ·have hxy:y<x:=by
      have:¬(x:Int)<y:=by simpa using h40
      omega
     have:=WF hwb hy hx h2.symm hxy
     rw[AG (by omega),AH (by omega)];refine Ap ?_;refine sR 1100 ?_;refine Al ?_;exact AN rfl AA.out
   ·have hxy:x=y:=by
     have:(x:Int)=y:=by simpa using h31
     omega
    subst hxy;have w5:IntKind.i64.wrap ((j:Int)-1)=(j:Int)-1:=wI (by omega) (by omega);refine Ap ?_;refine Aq w1 700 (by kernel_rfl) ?_;refine AV w5 ?_;have hj:=(List.getElem?_eq_some_iff.1 hx)
    have hj':=(List.getElem?_eq_some_iff.1 hy)
    refine⟨(j,_),⟨by dsimp only;omega,?_⟩,by dsimp only;omega,AL⟩;dsimp only;rw[EI hj.1,EI hj'.1,hj.2,hj'.2,h2]
  ·have hk:k=0:=by
    have:¬((k:Int)-1>=0):=by simpa using h20
    omega
   subst hk;have hab:a=b:=by
    rw[<-va,<-vb]
    have:la=lb:=by simpa using h2
    rw[this]
   subst hab;rw[AG (by omega),AG (by omega)];refine CA ?_;refine sR 1200 ?_;refine Al ?_;exact AN rfl AA.out
theorem W9 {a b c:Nat}(hc:c<=1):Kl 241 [AS a,AS b,AS c]=some (.tup [AS ((a+b+c)%BB),AS ((a+b+c)/BB)]):=by
 show(match Nat.ble c 1 with
  |true=>some (D.tup [.prim (.int .u64 (((a+b+c)%18446744073709551616:Nat):Int)),.prim (.int .u64 (((a+b+c)/18446744073709551616:Nat):Int))])
  |false=>none)=_
 have h1:Nat.ble c 1=true:=by rw[Nat.ble_eq];exact hc
 rw[h1]
theorem E7 {l:List Nat}{i a:Nat}(h:l[i]?=some a):l.take (i+1)=l.take i++[a]:=by rw[Dh,h];rfl
theorem P1 {l:List Nat}{i a:Nat}(h:i<l.length):(l.set i a).take (i+1)=l.take i++[a]:=by
 rw[E7 (l:=l.set i a) (i:=i) (a:=a) (by simp[h]),List.take_set_of_le (Ai _)]
theorem GW {l:List Nat}{i a:Nat}(hi:l.length=i):AT (l++[a])=AT l+BB^i*a:=by rw[J5,hi];simp[AT]
theorem map_set {l:List Nat}{i a:Nat}:(l.map AS).set i (AS a)=(l.set i a).map AS:=List.map_set.symm
theorem Wd.set {l:List Nat}(h:Wd l){i a:Nat}(ha:a<BB):Wd (l.set i a):=λb hb=>by
 rcases O4 hb with h1|rfl
 ·exact h b h1
 ·exact ha
theorem MM (n:Nat):Wd (List.replicate n 0):=λa ha=>by rw[O5 ha];decide
theorem UB {env:Ar}{t K g n N:Nat}{z:List Nat}{T:Nat}(hl:z.length=N)(he:env.get t=.osl K g 1 0 N:=by exact rfl):Wk ⟨env,[⟨K,g,T,1,z.map AS⟩],n⟩ ⟨[(t,.sl false 1 (z.map AS))],[],n⟩:=by
 subst hl;refine⟨.drop .nil,⟨?_,trivial⟩,Ai _⟩;dsimp only;rw[he]
 have:=Qd K g T 1 (z.map AS)
 rwa [Am]at this
theorem mD (la lb:List Nat)(ha:Wd la)(hb:Wd lb)(hla:la.length<4000000)(hlb:lb.length<4000000):AK C0 202 [wL la,wL lb] (wD (AT la+AT lb)):=by
 refine Ak.walk w1 ZQ rfl λF=>?_
 unfold wL;have ea:(((la.map AS).length:Nat):Int)=(la.length:Int):=by rw[Am]
 have eb:(((lb.map AS).length:Nat):Int)=(lb.length:Int):=by rw[Am]
 obtain⟨x,y,hsw,hle,hx,hy,hlx,hv⟩:∃x y:List Nat,(la.length<lb.length/\x=lb/\y=la\/¬la.length<lb.length/\x=la/\y=lb)/\y.length<=x.length/\Wd x/\Wd y/\x.length<4000000/\AT la+AT lb=AT x+AT y:=by
  by_cases h:la.length<lb.length
  ·exact⟨lb,la,.inl ⟨h,rfl,rfl⟩,by omega,hb,ha,hlb,by omega⟩
  ·exact⟨la,lb,.inr ⟨h,rfl,rfl⟩,by omega,ha,hb,hla,rfl⟩
 rw[hv];refine sR 0 ?_;refine Dg ⟨[(0,.sl false 1 (x.map AS)),(1,.sl false 1 (y.map AS)),(4,CK)],[],20⟩ ?_ ?_
 ·refine sZ 100 ?_
  refine AV (Ac ea eb) ?_;refine AO ?_;rcases hsw with⟨h,rfl,rfl⟩|⟨h,rfl,rfl⟩
  ·have e1:decide ((y.length:Int)<(x.length:Int))=true:=AY (by omega)
   rw[e1];refine rI 200 ?_;exact And.intro (by trivial) (AL)
  ·have e1:decide ((x.length:Int)<(y.length:Int))=false:=Ah (by omega)
   rw[e1];refine Ap ?_;exact And.intro (by trivial) (AL)
 clear hsw ea eb;have ex:(((x.map AS).length:Nat):Int)=(x.length:Int):=by rw[Am]
 have ey:(((y.map AS).length:Nat):Int)=(y.length:Int):=by rw[Am]
 have w3:IntKind.i64.wrap ((x.length:Int)+1)=((x.length+1:Nat):Int):=by rw[wI (by omega) (by omega)];omega
 have r3:List.replicate (x.length+1) (ofV (.int .u64 0))=(List.replicate (x.length+1) 0).map AS:=by rw[Js];rfl
 refine sZ 300 ?_;refine AV (At ex w3 kN) ?_;refine sR 400 ?_;refine AC.seq ?_;refine sZ 500 ?_;refine AV ex ?_;refine AC.block ?_;refine AC.loop (α:=Nat×Nat×List Nat×Nat) (λp=>⟨[(0,.sl false 1 (x.map AS)),(1,.sl false 1 (y.map AS)),(4,CK),(5,.osl 303 23 1 0 (x.length+1)),(6,AS p.2.1),(21,i64 x.length),(22,i64 p.1)],[⟨303,23,225,1,p.2.2.1.map AS⟩],p.2.2.2⟩) (λp=>x.length-p.1)
  (λp=>p.1<=x.length/\p.2.1<=1/\p.2.2.1.length=x.length+1/\Wd p.2.2.1/\AT (p.2.2.1.take p.1)+BB^p.1*p.2.1=AT (x.take p.1)+AT (y.take p.1)) (0,0,List.replicate (x.length+1) 0,_)
  ⟨BU _,BU _,by simp,MM _,by simp[AT]⟩ (by rw[<-r3];exact AL) ?_
 rintro⟨i,c,o,m⟩ F ⟨h1,h2,h3,h4,h5⟩;dsimp only at h1 h2 h3 h4 h5⊢;refine sR 600 ?_;refine AC.seq ?_;refine AO ?_
 (refine Bv (λh23=>?_) (λh23=>?_))<;>(try simp only[Bi,Bs]at h23)<;>(try simp only[h23])
 ·have hi:i<x.length:=by simpa using h23
  obtain⟨a,hxa⟩:∃a,x[i]?=some a:=⟨x[i],BI hi⟩
  have ha:=DQ hxa;obtain⟨v,hvl,hvv⟩:∃v,v<BB/\(i<y.length/\y[i]?=some v\/y.length<=i/\v=0):=by
   by_cases h:i<y.length
   ·exact⟨y[i],hy _ (List.getElem_mem h),.inl ⟨h,BI h⟩⟩
   ·exact⟨0,by decide,.inr ⟨by omega,rfl⟩⟩
  have hal:a<BB:=hx a (A0 hxa);have hyv:AT (y.take (i+1))=AT (y.take i)+BB^i*v:=by
   rcases hvv with⟨h,hh⟩|⟨h,rfl⟩
   ·rw[E7 hh,GW (i:=i) (by rw[Bf];omega)]
   ·rw[B9 (by omega),B9 h];simp
  have hoi:i<o.length:=by omega
  obtain⟨oi,hoa⟩:∃a,o[i]?=some a:=⟨o[i],BI hoi⟩
  have hob:=DQ hoa;have hadd:=W9 (a:=a) (b:=v) h2;have wi:IntKind.i64.wrap ((i:Int)+1)=((i+1:Nat):Int):=wI (by omega) (by omega);refine Ap ?_;refine AC.seq ?_;refine AC.block ?_;refine sR 700 ?_;refine sR 800 ?_;refine Dg ⟨[(0,.sl false 1 (x.map AS)),(1,.sl false 1 (y.map AS)),(4,CK),(5,.osl 303 23 1 0 (x.length+1)),(6,AS c),(7,i64 i),(8,AS v),(21,i64 x.length),(22,i64 i)],[⟨303,23,225,1,o.map AS⟩],m+30⟩ ?_ ?_
  ·refine sZ 900 ?_
   refine AV ey ?_;refine AO ?_;rcases hvv with⟨h,hh⟩|⟨h,rfl⟩
   ·have hy':=DQ hh
    have e1:decide ((i:Int)<(y.length:Int))=true:=AY (by omega);rw[e1];refine rI 1000 ?_;refine AE kN ?_;refine Br kT hy' ?_;refine BO ?_;exact And.intro (by trivial) (AL)
   ·have e1:decide ((i:Int)<(y.length:Int))=false:=Ah (by omega)
    rw[e1];refine Ap ?_;exact And.intro (by trivial) (AL)
  refine rI 1100 ?_;refine AE kN ?_;refine Br kT ha ?_;refine AE kN ?_
  first|(refine D4 rfl rfl ?_;refine QV rfl rfl (hadd) ?_)|(refine Eb rfl rfl ?_;refine OC rfl rfl (hadd) ?_)
  refine AE (At kN BP hob) ?_;have hs:(a+v+c)%BB<BB:=B5 _ (by decide);have hc':(a+v+c)/BB<=1:=by
   have:a+v+c<2*BB:=by omega
   exact ND (E3 (by rw[BS];exact this))
  rw[map_set];refine Aq w1 1200 (by kernel_rfl) ?_;refine AV wi ?_;refine⟨(i+1,(a+v+c)/BB,o.set i ((a+v+c)%BB),_),⟨hi,hc',by dsimp only;rw[C9];exact h3,h4.set hs,?_⟩,by dsimp only;omega,AL⟩;dsimp only;rw[P1 hoi,GW (i:=i) (by rw[Bf];omega),E7 hxa,GW (i:=i) (by rw[Bf];omega),hyv];have hm:=El (a+v+c) BB;rw[CL,Bw,EW,<-BM,hm,BM,BM];omega
 ·have hi:i=x.length:=by
   have:¬i<x.length:=by simpa using h23
   omega
  subst hi;obtain⟨oi,hoa⟩:∃a,o[x.length]?=some a:=⟨o[x.length],BI (by omega)⟩
  have hob:=DQ hoa;refine CA ?_;refine sZ 1300 ?_;refine AE (BW ex kN BP hob) ?_;rw[map_set];have ho:o.set x.length c=o.take x.length++[c]:=by
   have:=P1 (l:=o) (i:=x.length) (a:=c) (by omega)
   rwa [B9 (by rw[C9];omega)]at this
  have hov:AT (o.set x.length c)=AT x+AT y:=by
   rw[ho,GW (i:=x.length) (by rw[Bf];omega),h5,B9 (Ai _),B9 hle]
  have how:Wd (o.set x.length c):=h4.set (DW h2 (by decide));have hol:(o.set x.length c).length=x.length+1:=by rw[C9];exact h3
  generalize o.set x.length c=z at*;refine AC.weak ⟨[(5,.sl false 1 (z.map AS))],[],_⟩ (UB hol) ?_;refine sR 1400 ?_;refine BF.same _ (trim_ok z how (by omega)) AJ ?_;refine BO ?_;refine Al ?_;exact AN (by rw[hov]) AA.out
theorem Sx {a b c:Nat}(hc:c<=1):Kl 243 [AS a,AS b,AS c]=some (.tup [AS ((a+BB-b-c)%BB),AS (if a<b+c then 1 else 0)]):=by
 show(match Nat.ble c 1 with
  |true=>some (D.tup [.prim (.int .u64 (((a+18446744073709551616-b-c)%18446744073709551616:Nat):Int)),.prim (.int .u64 ((if a<b+c then 1 else 0:Nat):Int))])
  |false=>none)=_
 have h1:Nat.ble c 1=true:=by rw[Nat.ble_eq];exact hc
 rw[h1]
theorem SQ {a v c:Nat}(ha:a<BB)(hv:v<BB)(hc:c<=1):(a+BB-v-c)%BB+v+c=a+BB*(if a<v+c then 1 else 0):=by
 by_cases h:a<v+c
 ·rw[AH h,Dc (by omega)];omega
 ·rw[AG h]
  have:a+BB-v-c=(a-v-c)+BB:=by omega
  rw[this,Nat.add_mod_right,Dc (by omega)];omega
theorem nk (x y:List Nat)(hx:Wd x)(hy:Wd y)(hlx:x.length<4000000)(hle:y.length<=x.length)(hv:AT y<=AT x):AK C0 204 [wL x,wL y] (wD (AT x-AT y)):=by
 refine Ak.walk w1 ZT rfl λF=>?_
 unfold wL;have ex:(((x.map AS).length:Nat):Int)=(x.length:Int):=by rw[Am]
 have ey:(((y.map AS).length:Nat):Int)=(y.length:Int):=by rw[Am]
 have r3:List.replicate x.length (ofV (.int .u64 0))=(List.replicate x.length 0).map AS:=by rw[Js];rfl
 refine sR 0 ?_;refine sZ 100 ?_;refine AV (Ac ex kN) ?_;refine sR 200 ?_;refine AC.seq ?_;refine sZ 300 ?_;refine AV ex ?_;refine AC.block ?_;refine AC.loop (α:=Nat×Nat×List Nat×Nat) (λp=>⟨[(0,.sl false 1 (x.map AS)),(1,.sl false 1 (y.map AS)),(4,CK),(5,.osl 102 3 1 0 x.length),(6,AS p.2.1),(13,i64 x.length),(14,i64 p.1)],[⟨102,3,225,1,p.2.2.1.map AS⟩],p.2.2.2⟩) (λp=>x.length-p.1)
  (λp=>p.1<=x.length/\p.2.1<=1/\p.2.2.1.length=x.length/\Wd p.2.2.1/\AT (p.2.2.1.take p.1)+AT (y.take p.1)=AT (x.take p.1)+BB^p.1*p.2.1) (0,0,List.replicate x.length 0,_)
  ⟨BU _,BU _,by simp,MM _,by simp[AT]⟩ (by rw[<-r3];exact AL) ?_
 rintro⟨i,c,o,m⟩ F ⟨h1,h2,h3,h4,h5⟩;dsimp only at h1 h2 h3 h4 h5⊢;refine sR 400 ?_;refine AC.seq ?_;refine AO ?_
 (refine Bv (λh23=>?_) (λh23=>?_))<;>(try simp only[Bi,Bs]at h23)<;>(try simp only[h23])
 ·have hi:i<x.length:=by simpa using h23
  obtain⟨a,hxa⟩:∃a,x[i]?=some a:=⟨x[i],BI hi⟩
  have ha:=DQ hxa;obtain⟨v,hvl,hvv⟩:∃v,v<BB/\(i<y.length/\y[i]?=some v\/y.length<=i/\v=0):=by
   by_cases h:i<y.length
   ·exact⟨y[i],hy _ (List.getElem_mem h),.inl ⟨h,BI h⟩⟩
   ·exact⟨0,by decide,.inr ⟨by omega,rfl⟩⟩
  have hal:a<BB:=hx a (A0 hxa);have hyv:AT (y.take (i+1))=AT (y.take i)+BB^i*v:=by
   rcases hvv with⟨h,hh⟩|⟨h,rfl⟩
   ·rw[E7 hh,GW (i:=i) (by rw[Bf];omega)]
   ·rw[B9 (by omega),B9 h];simp
  have hoi:i<o.length:=by omega
  obtain⟨oi,hoa⟩:∃a,o[i]?=some a:=⟨o[i],BI hoi⟩
  have hob:=DQ hoa;have hsub:=Sx (a:=a) (b:=v) h2;have hdig:=SQ hal hvl h2;have hc':(if a<v+c then 1 else 0)<=1:=by split<;>decide
  have hs:(a+BB-v-c)%BB<BB:=B5 _ (by decide);generalize(if a<v+c then 1 else 0)=c' at*;generalize(a+BB-v-c)%BB=d at*;have wi:IntKind.i64.wrap ((i:Int)+1)=((i+1:Nat):Int):=wI (by omega) (by omega);refine Ap ?_;refine AC.seq ?_;refine AC.block ?_;refine sR 500 ?_;refine sR 600 ?_;refine Dg ⟨[(0,.sl false 1 (x.map AS)),(1,.sl false 1 (y.map AS)),(4,CK),(5,.osl 102 3 1 0 x.length),(6,AS c),(7,i64 i),(8,AS v),(13,i64 x.length),(14,i64 i)],[⟨102,3,225,1,o.map AS⟩],m+30⟩ ?_ ?_
  ·refine sZ 700 ?_
   refine AV ey ?_;refine AO ?_;rcases hvv with⟨h,hh⟩|⟨h,rfl⟩
   ·have hy':=DQ hh
    have e1:decide ((i:Int)<(y.length:Int))=true:=AY (by omega);rw[e1];refine rI 800 ?_;refine AE kN ?_;refine Br kT hy' ?_;refine BO ?_;exact And.intro (by trivial) (AL)
   ·have e1:decide ((i:Int)<(y.length:Int))=false:=Ah (by omega)
    rw[e1];refine Ap ?_;exact And.intro (by trivial) (AL)
  refine rI 900 ?_;refine AE kN ?_;refine Br kT ha ?_;refine AE kN ?_
  first|(refine D4 rfl rfl ?_;refine QV rfl rfl (hsub) ?_)|(refine Eb rfl rfl ?_;refine OC rfl rfl (hsub) ?_)
  refine AE (At kN BP hob) ?_;rw[map_set];refine Aq w1 1000 (by kernel_rfl) ?_;refine AV wi ?_;refine⟨(i+1,c',o.set i d,_),⟨hi,hc',by dsimp only;rw[C9];exact h3,h4.set hs,?_⟩,by dsimp only;omega,AL⟩;dsimp only;rw[P1 hoi,GW (i:=i) (by rw[Bf];omega),E7 hxa,GW (i:=i) (by rw[Bf];omega),hyv];have h6:BB^i*d+BB^i*v+BB^i*c=BB^i*a+BB^(i+1)*c':=by
   rw[CL,Bw,<-BM,<-BM,<-BM,hdig]
  omega
 ·have hi:i=x.length:=by
   have:¬i<x.length:=by simpa using h23
   omega
  subst hi;rw[B9 (Nat.le_of_eq h3),B9 (Ai _),B9 hle]at h5;have hlt:=HO h4;rw[h3]at hlt;have hc0:c=0:=by
   rcases Db c with h|h
   ·exact h
   ·have:c=1:=by omega
    subst this;rw[EB]at h5;omega
  subst hc0;have hov:AT o=AT x-AT y:=by
   rw[EX]at h5;omega
  refine CA ?_;refine AC.weak ⟨[(5,.sl false 1 (o.map AS))],[],_⟩ (UB h3) ?_;refine sR 1100 ?_;refine BF.same _ (trim_ok o h4 (by omega)) AJ ?_;refine BO ?_;refine Al ?_;exact AN (by rw[hov]) AA.out
theorem JH:∀ {l:List Nat} {k o d:Nat},l[k]?=some o->AT (l.set k d)+BB^k*o=AT l+BB^k*d
 |a::l,0,o,d,h=>by
  simp only[RY,BL]at h;subst h;simp only[List.set_cons_zero,AT,L6,I3];omega
 |a::l,k+1,o,d,h=>by
  simp only[Jo]at h;have ih:=JH (d:=d) h;simp only[List.set_cons_succ,AT];have h1:BB^(k+1)*o=BB*(BB^k*o):=by rw[CL,BS (BB^k) BB,Bw]
  have h2:BB^(k+1)*d=BB*(BB^k*d):=by rw[CL,BS (BB^k) BB,Bw]
  have h3:BB*AT (l.set k d)+BB*(BB^k*o)=BB*AT l+BB*(BB^k*d):=by rw[<-BM,<-BM,ih]
  omega
theorem iW {x y o c:Nat}(hx:x<BB)(hy:y<BB)(ho:o<BB)(hc:c<BB):
  ∃hi lo c1 lo1 hi1 c2 lo2 c',hi=x*y/BB/\lo=x*y%BB/\lo1=(lo+o+0)%BB/\c1=(lo+o+0)/BB/\hi1=hi+c1/\hi1<BB/\lo2=(lo1+c+0)%BB/\c2=(lo1+c+0)/BB/\c'=hi1+c2/\c'<BB/\lo2<BB /\
   lo2+BB*c'=x*y+o+c:=by
 refine⟨_,_,_,_,_,_,_,_,rfl,rfl,rfl,rfl,rfl,?_,rfl,rfl,rfl,?_,B5 _ (by decide),?_⟩
 all_goals
  unfold BB at*;have e1:=El (x*y) 18446744073709551616;have e2:=El (x*y%18446744073709551616+o+0) 18446744073709551616;have e3:=El ((x*y%18446744073709551616+o+0)%18446744073709551616+c+0) 18446744073709551616;have hxy:x*y<=(18446744073709551616-1)*(18446744073709551616-1):=IU (by omega) (by omega);have hk:(18446744073709551616-1)*(18446744073709551616-1)=340282366920938463426481119284349108225:=by decide
  rw[hk]at hxy;have l1:=B5 (x*y) (show 18446744073709551616>0 by decide);have l2:=B5 (x*y%18446744073709551616+o+0) (show 18446744073709551616>0 by decide);have l3:=B5 ((x*y%18446744073709551616+o+0)%18446744073709551616+c+0) (show 18446744073709551616>0 by decide);generalize x*y=p at*;generalize hA:p/18446744073709551616=A at*;generalize hB:p%18446744073709551616=B at*;generalize hC:(B+o+0)/18446744073709551616=C at*;generalize hD:(B+o+0)%18446744073709551616=D at*;generalize hE:(D+c+0)/18446744073709551616=E at*;generalize hF:(D+c+0)%18446744073709551616=F at*;omega
theorem VA {n:Nat}(h:n<BB):IntKind.u64.wrap (n:Int)=(n:Int):=wU (by omega) (by unfold BB at h;omega)
theorem mN (a b:List Nat)(ha:Wd a)(hb:Wd b)(hla:a.length<1000000)(hlb:b.length<1000000):AK C0 201 [wL a,wL b] (wD (AT a*AT b)):=by
 refine Ak.walk w1 ZP rfl λF=>?_
 unfold wL;have ea:(((a.map AS).length:Nat):Int)=(a.length:Int):=by rw[Am]
 have eb:(((b.map AS).length:Nat):Int)=(b.length:Int):=by rw[Am]
 have wl:IntKind.i64.wrap ((a.length:Int)+(b.length:Int))=((a.length+b.length:Nat):Int):=by rw[wI (by omega) (by omega)];omega
 have r3:List.replicate (a.length+b.length) (ofV (.int .u64 0))=(List.replicate (a.length+b.length) 0).map AS:=by rw[Js];rfl
 refine sR 0 ?_;refine sZ 100 ?_;refine AV (BW ea eb wl kN) ?_;refine AC.seq ?_;refine sZ 200 ?_;refine AV ea ?_;refine AC.block ?_;refine AC.loop (α:=Nat×List Nat×Nat) (λp=>⟨[(0,.sl false 1 (a.map AS)),(1,.sl false 1 (b.map AS)),(4,CK),(5,.osl 105 6 1 0 (a.length+b.length)),(20,.sl false 1 (a.map AS)),(21,i64 a.length),(22,i64 p.1)],[⟨105,6,225,1,p.2.1.map AS⟩],p.2.2⟩) (λp=>a.length-p.1)
  (λp=>p.1<=a.length/\p.2.1.length=a.length+b.length/\Wd p.2.1/\AT p.2.1=AT (a.take p.1)*AT b/\∀k,p.1+b.length<=k->∀d,p.2.1[k]?=some d->d=0) (0,List.replicate (a.length+b.length) 0,_)
  ⟨BU _,by simp,MM _,by simp[AT,Pc],λk _ d hd=>O5 (A0 hd)⟩ (by rw[<-r3];exact AL) ?_
 rintro⟨i,o,m⟩ F ⟨h1,h2,h3,h4,h5⟩;dsimp only at h1 h2 h3 h4 h5⊢;refine sR 300 ?_;refine AC.seq ?_;refine AO ?_
 (refine Bv (λh23=>?_) (λh23=>?_))<;>(try simp only[Bi,Bs]at h23)<;>(try simp only[h23])
 ·have hi:i<a.length:=by simpa using h23
  obtain⟨x,hx⟩:∃x,a[i]?=some x:=⟨a[i],BI hi⟩
  have hx':=DQ hx;have hxl:x<BB:=ha x (A0 hx);have wi:IntKind.i64.wrap ((i:Int)+1)=((i+1:Nat):Int):=wI (by omega) (by omega);have hax:AT (a.take (i+1))=AT (a.take i)+BB^i*x:=by rw[E7 hx,GW (i:=i) (by rw[Bf];omega)]
  refine Ap ?_;refine AC.seq ?_;refine AC.block ?_;refine sR 400 ?_;refine Br kT hx' ?_;refine BO ?_;refine sR 500 ?_;refine AC.seq ?_;refine sZ 600 ?_;refine AV eb ?_;refine AC.block ?_;refine AC.loop (α:=Nat×Nat×List Nat×Nat) (λp=>⟨[(0,.sl false 1 (a.map AS)),(1,.sl false 1 (b.map AS)),(4,CK),(5,.osl 105 6 1 0 (a.length+b.length)),(6,i64 i),(7,AS x),(8,AS p.2.1),(20,.sl false 1 (a.map AS)),(21,i64 a.length),(22,i64 i),(27,.sl false 1 (b.map AS)),(28,i64 b.length),(29,i64 p.1)],[⟨105,6,225,1,p.2.2.1.map AS⟩],p.2.2.2⟩) (λp=>b.length-p.1)
   (λp=>p.1<=b.length/\p.2.1<BB/\p.2.2.1.length=a.length+b.length/\Wd p.2.2.1/\AT p.2.2.1+BB^(i+p.1)*p.2.1=AT (a.take i)*AT b+BB^i*x*AT (b.take p.1)/\∀k,i+b.length<=k->∀d,p.2.2.1[k]?=some d->d=0) (0,0,o,_)
   ⟨BU _,show 0<BB by decide,h2,h3,by simp[AT,h4],h5⟩ AL ?_
  rintro⟨j,c,q,m2⟩ F ⟨g1,g2,g3,g4,g5,g6⟩;dsimp only at g1 g2 g3 g4 g5 g6⊢;clear h2 h3 h4 h5 r3 wl;refine sR 700 ?_;refine AC.seq ?_;refine AO ?_
  (refine Bv (λh30=>?_) (λh30=>?_))<;>(try simp only[Bi,Bs]at h30)<;>(try simp only[h30])
  ·have hj:j<b.length:=by simpa using h30
   obtain⟨y,hy⟩:∃y,b[j]?=some y:=⟨b[j],BI hj⟩
   have hy':=DQ hy;have hyl:y<BB:=hb y (A0 hy);obtain⟨z,hz⟩:∃z,q[i+j]?=some z:=⟨q[i+j],BI (by omega)⟩
   have hz':=DQ hz;have hzl:z<BB:=g4 z (A0 hz);have wj:IntKind.i64.wrap ((j:Int)+1)=((j+1:Nat):Int):=wI (by omega) (by omega);have wij:IntKind.i64.wrap ((i:Int)+(j:Int))=((i+j:Nat):Int):=by rw[wI (by omega) (by omega)];omega
   have hbx:AT (b.take (j+1))=AT (b.take j)+BB^j*y:=by rw[E7 hy,GW (i:=j) (by rw[Bf];omega)]
   have cm:=Nu x y hxl hyl;obtain⟨hi',lo,c1,lo1,hi1,c2,lo2,c',e1,e2,e3,e4,e5,e6,e7,e8,e9,e10,e11,e12⟩:=iW hxl hyl hzl g2;rw[show x*y/18446744073709551616=hi' from e1.symm,show x*y%18446744073709551616=lo from e2.symm]at cm;have e3':(lo+z+0)%18446744073709551616=lo1:=e3.symm;have e4':(lo+z+0)/18446744073709551616=c1:=e4.symm;have e7':(lo1+c+0)%18446744073709551616=lo2:=e7.symm;have e8':(lo1+c+0)/18446744073709551616=c2:=e8.symm;have w6:IntKind.u64.wrap ((hi':Int)+(c1:Int))=(hi1:Int):=by rw[<-Int.natCast_add,<-e5];exact VA e6
   have w7:IntKind.u64.wrap ((hi1:Int)+(c2:Int))=(c':Int):=by rw[<-Int.natCast_add,<-e9];exact VA e10
   refine Ap ?_;refine AC.seq ?_;refine AC.block ?_;refine sR 800 ?_;refine Br kT hy' ?_;refine BO ?_;refine sR 900 ?_;refine BF.same _ cm AJ ?_;refine BO ?_;refine sR 1000 ?_;refine sZ 1100 ?_;refine AE (D2 wij kN BP hz' e3' e4') ?_;refine sZ 1200 ?_;refine AV w6 ?_;refine sZ 1300 ?_;refine AV (Ac e7' e8') ?_;refine Aq w1 1400 (by kernel_rfl) ?_;refine AE (CM wij w7 kN BP hz') ?_;rw[show(D.prim (Value.int IntKind.u64 (lo2:Int)))=AS lo2 from rfl,map_set];refine Aq w1 1500 (by kernel_rfl) ?_;refine AV wj ?_;refine⟨(j+1,c',q.set (i+j) lo2,_),⟨hj,e10,by dsimp only;rw[C9];exact g3,g4.set e11,?_,λk hk d hd=>?_⟩,by dsimp only;omega,AL⟩
   ·dsimp only
    have hs:=JH (d:=lo2) hz;rw[hbx,BM,<-EW (AT (a.take i)*AT b),<-g5];have h6:BB^(i+j)*lo2+BB^(i+(j+1))*c'=BB^i*x*(BB^j*y)+BB^(i+j)*z+BB^(i+j)*c:=by
     have:BB^i*x*(BB^j*y)=BB^(i+j)*(x*y):=by
      rw[Fw,Bw,Bw,IN x]
     rw[this,<-EW i j 1,CL,Bw,<-BM,<-BM,<-BM,e12]
    omega
   ·dsimp only at hk hd
    rw[IS (by omega)]at hd;exact g6 k hk d hd
  ·have hj:j=b.length:=by
    have:¬j<b.length:=by simpa using h30
    omega
   subst hj;obtain⟨z,hz⟩:∃z,q[i+b.length]?=some z:=⟨q[i+b.length],BI (by omega)⟩
   have hz0:z=0:=g6 _ (Ai _) _ hz;subst hz0;have hz':=DQ hz;have wij:IntKind.i64.wrap ((i:Int)+(b.length:Int))=((i+b.length:Nat):Int):=by rw[wI (by omega) (by omega)];omega
   have wij0:IntKind.i64.wrap ((i:Int)+(((b.map AS).length:Nat):Int))=((i+b.length:Nat):Int):=by rw[eb];exact wij
   refine CA ?_;refine Aq w1 1600 (by kernel_rfl) ?_;refine AE (CM eb wij kN BP hz') ?_;rw[map_set];refine Aq w1 1700 (by kernel_rfl) ?_;refine AV wi ?_;refine⟨(i+1,q.set (i+b.length) c,_),⟨hi,by dsimp only;rw[C9];exact g3,g4.set g2,?_,λk hk d hd=>?_⟩,by dsimp only;omega,AL⟩
   ·dsimp only
    have hs:=JH (d:=c) hz;rw[B9 (Ai _)]at g5;rw[hax,Bu];omega
   ·dsimp only at hk hd
    rw[IS (by omega)]at hd;exact g6 k (by omega) d hd
 ·have hi:i=a.length:=by
   have:¬i<a.length:=by simpa using h23
   omega
  subst hi;rw[B9 (Ai _)]at h4;refine CA ?_;refine AC.weak ⟨[(5,.sl false 1 (o.map AS))],[],_⟩ (UB h2) ?_;refine sR 1800 ?_;refine BF.same _ (trim_ok o h3 (by omega)) AJ ?_;refine BO ?_;refine Al ?_;exact AN (by rw[h4]) AA.out
structure GI where
 z:Int
 sm:Bool
def GI.wf (x:GI):Prop:=(x.sm=true→-9223372036854775808<=x.z/\x.z<9223372036854775808)/\(x.sm=false->¬Sm x.z)
def GI.s (x:GI):Int:=match x.sm with
 |true=>x.z
 |false=>if x.z<0 then -1 else 1
def GI.w (x:GI):D:=match x.sm with
 |true=>CK
 |false=>wD x.z.natAbs
abbrev GI.D (x:GI):D:=.agg [i64 x.s,x.w]
theorem sV (x:GI):B7 x.w:=by
 unfold GI.w;split
 ·exact .prim _
 ·exact KH _
instance  (x:GI):AA x.w:=⟨sV x⟩
instance  (z:Int):Decidable (Sm z):=inferInstanceAs (Decidable (_/\_))
def AX (z:Int):GI:=⟨z,decide (Sm z)⟩
theorem Cf (z:Int):(AX z).wf:=by
 refine⟨λh=>?_,λh=>?_⟩
 ·have h:Sm z:=DA h
  exact⟨Int.le_of_lt h.1,h.2⟩
 ·exact DN h
theorem JQ {z:Int}(h:Sm z):AX z=⟨z,true⟩:=by unfold AX;rw[AY h]
theorem Tn {z:Int}(h:¬Sm z):AX z=⟨z,false⟩:=by unfold AX;rw[Ah h]
theorem MF {n:Nat}(h0:n≠0)(h:n<BB):Ag n=[n]:=by
 rw[F3 h0,Dc h,HE h,Fj]
theorem HP {n:Nat}(h:n≠0):(Ag n).map AS≠[]:=by rw[F3 h];simp
theorem aJ (x:GI)(h:x.wf):(x.s<0)=(x.z<0):=by
 obtain⟨z,sm⟩:=x;cases sm with
 |true=>rfl
 |false=>
  unfold GI.s;dsimp only;split<;>simp<;>omega
theorem uS {H Hf:Hp}(n:Nat)(h0:n≠0)(h:n<BB):Fz H Hf (.sl true 1 [AS n]) (wD n):=by
 unfold wD wL;rw[MF h0 h];exact .nn true 1 _
theorem aS {H Hf:Hp}{a b c d:D}(h:Fz H Hf a c)(k:Fz H Hf b d):Fz H Hf (.tup [a,b]) (.tup [c,d]):=.tup rfl λi x y hx hy=>by
 match i with
 | 0=>simp at hx hy;subst hx;subst hy;exact h
 | 1=>simp at hx hy;subst hx;subst hy;exact k
 |i+2=>simp at hx
instance  (a b:Nat):AA (.tup [wD a,wD b]):=AJ
theorem lL:AK C0 198 [i64 (-9223372036854775808)] (AS 9223372036854775808):=CE DV 1000 40 (by kernel_rfl)
theorem OI {z:Int}(h1 : -9223372036854775808<=z)(h2:z<9223372036854775808):AK C0 198 [i64 z] (AS z.natAbs):=by
 by_cases h:z = -9223372036854775808
 ·subst h;exact lL
 ·exact na z ⟨by omega,h2⟩
theorem JG (x:GI)(h:x.wf):AK C0 199 [x.D] (.tup [As (decide (x.z<0)),wD x.z.natAbs]):=by
 refine Ak.walk w1 ZN rfl λF=>?_
 obtain⟨z,sm⟩:=x;obtain⟨h1,h2⟩:=h;unfold GI.D GI.s GI.w;cases sm with
 |true=>
  obtain⟨h3,h4⟩:=h1 rfl;dsimp only at h3 h4⊢;have cs:=OI h3 h4;refine sR 0 ?_;refine AC.seq ?_;refine AC.block ?_;refine sR 100 ?_;refine AO ?_;refine sR 300 ?_;refine AO ?_
  (refine Bv (λh13=>?_) (λh13=>?_))<;>(try simp only[Bi,Bs]at h13)<;>(try simp only[h13])
  ·have hz:z=0:=by simpa using h13
   subst hz;refine sR 400 ?_;refine Al ?_;refine⟨_,aS (.refl _) (c:=As (decide ((0:Int)<0))) (d:=wD (Int.natAbs 0)) ?_,AA.out,rfl⟩;show Fz _ _ CK (wD 0);unfold wD wL;rw[Fj];exact .nil 1
  ·have hz:z≠0:=by simpa using h13
   refine Ap ?_;refine AC.seq ?_;refine B8 w1 500 [0,1,2,3,4,5,6,7] [8] (by kernel_rfl) ?_;refine AE kN ?_;refine BX.same _ cs AJ ?_;refine BO ?_;refine Al ?_;refine⟨_,aS (.refl _) (c:=As (decide (z<0))) (uS z.natAbs (by omega) (by unfold BB;omega)),AA.out,rfl⟩
 |false=>
  have hb:=h2 rfl;have hs:=aJ ⟨z,false⟩ ⟨h1,h2⟩;unfold GI.s at hs;dsimp only at hb hs⊢;have hne:=HP (n:=z.natAbs) (by intro h0;apply hb;exact⟨by omega,by omega⟩);have hp:B7 (.sl false 1 ((Ag z.natAbs).map AS)):=KH _;unfold wD wL;generalize(Ag z.natAbs).map AS=l at*;generalize(if z<0 then(-1:Int)else 1)=sg at*;refine sR 0 ?_;refine AC.seq ?_;refine AC.block ?_;refine sZ 100 ?_;refine AV (At (@ne_eq (List D)) hne EP) ?_;refine AO ?_;refine AC.seq ?_;refine B8 w1 200 [0,1,2,3,4,5] [6] (by kernel_rfl) ?_;refine BO ?_;refine Al ?_;refine AN ?_ (.tup λd hd=>?_)
  ·simp only[hs]
  ·simp only[BA,DM,or_false]at hd
   rcases hd with rfl|rfl
   ·exact .prim _
   ·exact hp
def Dw (neg:Bool)(n:Nat):Int:=match neg with
 |true=>-(n:Int)
 |false=>n
theorem LP (neg:Bool)(n:Nat)(hlen:(Ag n).length<4000000):AK C0 200 [As neg,wD n] (AX (Dw neg n)).D:=by
 refine Ak.walk w1 ZO rfl λF=>?_
 by_cases h0:n=0
 ·subst h0
  have e:AX (Dw neg 0)=⟨0,true⟩:=by cases neg<;>exact JQ ⟨by decide,by decide⟩
  rw[e];unfold wD wL GI.D GI.s GI.w;rw[Fj];dsimp only[List.map];refine sR 0 ?_;refine AC.seq ?_;refine AC.block ?_;refine sR 100 ?_;refine AO ?_;refine sR 200 ?_;refine Al ?_;exact AN rfl AA.out
 ·by_cases h1:n<BB
  ·have hl:=MF h0 h1
   have b1:(((1:Nat):Int)==0)=false:=rfl;have b2:(((1:Nat):Int)==1)=true:=rfl;have hx:[AS n][(0:Int).toNat]?=some (AS n):=rfl
   by_cases h2:n<=9223372036854775807
   ·have b3:decide ((n:Int)<=9223372036854775807)=true:=AY (by omega)
    have hsm:Sm (Dw neg n):=by unfold Dw;split<;>exact⟨by omega,by omega⟩
    rw[JQ hsm];unfold wD wL GI.D GI.s GI.w;rw[hl];dsimp only[List.map];have w1':IntKind.i64.wrap (n:Int)=(n:Int):=wN h2;have w2':IntKind.i64.wrap (0-(n:Int)) = -(n:Int):=by rw[wI (by omega) (by omega)];omega
    cases neg with
    |true=>
     unfold Dw;dsimp only;refine sR 0 ?_;refine AC.seq ?_;refine AC.block ?_;refine sZ 100 ?_;refine AV b1 ?_;refine AO ?_;refine sZ 300 ?_;refine AE (Ac b2 b3) ?_;refine AE (Ac b2 b3) ?_;refine Br b2 hx ?_;refine AE (Ac b2 b3) ?_;refine AE (Ac b2 b3) ?_;refine AO ?_;refine sZ 400 ?_;refine AE b2 ?_;refine Br b2 hx ?_;refine AE (Ac w1' w2') ?_;refine Al ?_;exact AN rfl AA.out
    |false=>
     unfold Dw;dsimp only;refine sR 0 ?_;refine AC.seq ?_;refine AC.block ?_;refine sZ 100 ?_;refine AV b1 ?_;refine AO ?_;refine sZ 300 ?_;refine AE (Ac b2 b3) ?_;refine AE (Ac b2 b3) ?_;refine Br b2 hx ?_;refine AE (Ac b2 b3) ?_;refine AE (Ac b2 b3) ?_;refine AO ?_;refine sZ 500 ?_;refine AE (Ac b2 b3) ?_;refine AE (Ac b2 b3) ?_;refine Br b2 hx ?_;refine AE (Ac b2 b3) ?_;refine AE (Ac b2 b3) ?_;refine AO ?_;refine sZ 600 ?_;refine AE b2 ?_;refine Br b2 hx ?_;refine AE (Ac w1' w2') ?_;refine Al ?_;exact AN rfl AA.out
   ·have b3:decide ((n:Int)<=9223372036854775807)=false:=Ah (by omega)
    have hsm:¬Sm (Dw neg n):=by
     intro hs;have h3:=hs.1;have h4:=hs.2
     revert h3 h4
     unfold Dw;split<;>intro h3 h4<;>omega
    rw[Tn hsm];have ha:(Dw neg n).natAbs=n:=by unfold Dw;split<;>omega
    unfold GI.D GI.s GI.w;dsimp only;rw[ha];unfold wD wL;rw[hl];dsimp only[List.map];cases neg with
    |true=>
     have hs:(if Dw true n<0 then(-1:Int)else 1) = -1:=AH (by show -(n:Int)<0;omega);rw[hs];refine sR 0 ?_;refine AC.seq ?_;refine AC.block ?_;refine sZ 100 ?_;refine AV b1 ?_;refine AO ?_;refine sZ 300 ?_;refine AE (Ac b2 b3) ?_;refine AE (Ac b2 b3) ?_;refine Br b2 hx ?_;refine AE (Ac b2 b3) ?_;refine AE (Ac b2 b3) ?_;refine AO ?_;refine sZ 500 ?_;refine AE (Ac b2 b3) ?_;refine AE (Ac b2 b3) ?_;refine Br b2 hx ?_;refine AE (Ac b2 b3) ?_;refine AE (Ac b2 b3) ?_;refine AO ?_;refine sR 700 ?_;refine AO ?_;refine sR 800 ?_;refine Al ?_;exact AN rfl AA.out
    |false=>
     have hs:(if Dw false n<0 then(-1:Int)else 1)=1:=AG (by show ¬(n:Int)<0;omega);rw[hs];refine sR 0 ?_;refine AC.seq ?_;refine AC.block ?_;refine sZ 100 ?_;refine AV b1 ?_;refine AO ?_;refine sZ 300 ?_;refine AE (Ac b2 b3) ?_;refine AE (Ac b2 b3) ?_;refine Br b2 hx ?_;refine AE (Ac b2 b3) ?_;refine AE (Ac b2 b3) ?_;refine AO ?_;refine sZ 500 ?_;refine AE (Ac b2 b3) ?_;refine AE (Ac b2 b3) ?_;refine Br b2 hx ?_;refine AE (Ac b2 b3) ?_;refine AE (Ac b2 b3) ?_;refine AO ?_;refine sR 700 ?_;refine AO ?_;refine Ap ?_;refine sR 900 ?_;refine Al ?_;exact AN rfl AA.out
  ·have hl2:2<=(Ag n).length:=by
    rw[F3 h0,F3 (n:=n/BB) (by
     intro h
     have:=EU n BB
     have:=B5 n (show BB>0 by decide)
     rw[h]at*;omega)]
    simp
   have hsm:¬Sm (Dw neg n):=by
    intro hs;have h3:=hs.1;have h4:=hs.2;have h5:BB<=n:=by omega
    unfold BB at h5
    revert h3 h4
    unfold Dw;split<;>intro h3 h4<;>omega
   rw[Tn hsm];have ha:(Dw neg n).natAbs=n:=by unfold Dw;split<;>omega
   have hp:AA (.sl false 1 ((Ag n).map AS)):=⟨KH _⟩
   unfold GI.D GI.s GI.w;dsimp only;rw[ha];unfold wD wL;have hel:((((Ag n).map AS).length:Nat):Int)=((Ag n).length:Int):=by rw[Am]
   generalize(Ag n).map AS=l at*;generalize hL:(Ag n).length=L at*;have b1:((L:Int)==0)=false:=Bq.2 (by omega);have b2:((L:Int)==1)=false:=Bq.2 (by omega);cases neg with
   |true=>
    have hs:(if Dw true n<0 then(-1:Int)else 1) = -1:=AH (by show -(n:Int)<0;omega);rw[hs];refine sR 0 ?_;refine AC.seq ?_;refine AC.block ?_;refine sZ 100 ?_;refine AV (Ac hel b1) ?_;refine AO ?_;refine sZ 300 ?_;refine AV (Ac hel b2) ?_;refine AE (Ac hel b2) ?_;refine AE (Ac hel b2) ?_;refine AO ?_;refine sZ 500 ?_;refine AV (Ac hel b2) ?_;refine AE (Ac hel b2) ?_;refine AO ?_;refine sR 700 ?_;refine AO ?_;refine sR 800 ?_;refine Al ?_;exact AN rfl AA.out
   |false=>
    have hs:(if Dw false n<0 then(-1:Int)else 1)=1:=AG (by show ¬(n:Int)<0;omega);rw[hs];refine sR 0 ?_;refine AC.seq ?_;refine AC.block ?_;refine sZ 100 ?_;refine AV (Ac hel b1) ?_;refine AO ?_;refine sZ 300 ?_;refine AV (Ac hel b2) ?_;refine AE (Ac hel b2) ?_;refine AE (Ac hel b2) ?_;refine AO ?_;refine sZ 500 ?_;refine AV (Ac hel b2) ?_;refine AE (Ac hel b2) ?_;refine AO ?_;refine sR 700 ?_;refine AO ?_;refine Ap ?_;refine sR 900 ?_;refine Al ?_;exact AN rfl AA.out
theorem Ml (x:GI)(h:x.wf):AK C0 194 [x.D] (i64 (max (-1) (min 1 x.z))):=by
 refine Ak.walk w1 ZJ rfl λF=>?_
 have e:max (-1) (min 1 x.s)=max (-1) (min 1 x.z):=by
  obtain⟨z,sm⟩:=x;cases sm with
  |true=>rfl
  |false=>
   have hb:=h.2 rfl;unfold GI.s;dsimp only at hb⊢;unfold Sm at hb;split<;>omega
 refine fR 0 ?_;refine fR 100 ?_;rw[e];refine Al ?_;exact AN rfl AA.out
theorem lK (z:Int):Dw (!decide (z<0)) z.natAbs = -z:=by
 by_cases h:z<0
 ·rw[AY h];show((z.natAbs:Nat):Int) = -z;omega
 ·rw[Ah h];show -((z.natAbs:Nat):Int) = -z;omega
def GI.few (x:GI):Prop:=(Ag x.z.natAbs).length<1000000
theorem OR (x:GI)(h:x.wf)(hf:x.few):AK C0 193 [x.D] (AX (-x.z)).D:=by
 by_cases hs:x.sm=true/\x.z ≠ -9223372036854775808
 ·obtain⟨z,sm⟩:=x
  obtain⟨rfl,hz⟩:=hs;have h1:=h.1 rfl;dsimp only at h1 hz⊢;have hsm:Sm z:=⟨by omega,h1.2⟩
  have:=tJ z hsm
  rw[JQ ⟨by have:=hsm.2;omega,by have:=hsm.1;omega⟩];exact this
 ·refine Ak.walk w1 Tg rfl λF=>?_
  have cp:=JG x h;have cm:=LP (!decide (x.z<0)) x.z.natAbs (Ft hf (by decide));rw[lK]at cm;have hpr:AA (AX (-x.z)).w:=AJ;dsimp only[GI.D]at cp cm⊢;generalize(AX (-x.z)).s=rs at*;generalize(AX (-x.z)).w=rw at*;obtain⟨z,sm⟩:=x;unfold GI.s GI.w at*;cases sm with
  |true=>
   have hz:z = -9223372036854775808:=Cy λh0=>hs ⟨rfl,h0⟩
   subst hz;dsimp only at cp cm⊢;refine fR 0 ?_;refine AC.seq ?_;refine sZ 100 ?_
   repeat'(first|(refine And.intro (by exact B6) ?_;refine Aw ?_)|((refine Bv (λhb=>?_) (λhb=>?_))<;>(try simp only[Bi,Bs]at hb)<;>(try simp only[hb])<;>(refine Aw ?_)))
   refine AO ?_;refine Ap ?_;refine fR 300 ?_;refine dI cp ?_;refine fR 400 ?_;refine dI cm ?_;refine Al ?_;exact AN rfl AA.out
  |false=>
   have hne:=HP (n:=z.natAbs) (by
    intro h0
    have:=h.2 rfl
    apply this;exact⟨by dsimp only;omega,by dsimp only;omega⟩)
   dsimp only at cp cm⊢;unfold wD wL at*;have hp:AA (.sl false 1 ((Ag z.natAbs).map AS)):=⟨KH _⟩
   generalize(Ag z.natAbs).map AS=l at*;generalize(if z<0 then(-1:Int)else 1)=sg at*;generalize decide (z<0)=nb at*;refine fR 0 ?_;refine AC.seq ?_;refine AC.seq ?_;refine Aq w1 100 (by kernel_rfl) ?_;refine AV (At (@ne_eq (List D)) hne EP) ?_;refine AE kT ?_;refine AE kT ?_;refine AO ?_;refine Ap ?_;refine fR 300 ?_;refine dI cp ?_;refine fR 400 ?_;refine dI cm ?_;refine Al ?_;exact AN rfl AA.out
theorem wE (a b:Nat)(ha:(Ag a).length<1000000)(hb:(Ag b).length<1000000):AK C0 202 [wD a,wD b] (wD (a+b)):=by
 have:=mD (Ag a) (Ag b) (FA a) (FA b) (Ft ha (by decide)) (Ft hb (by decide))
 rwa [En,En]at this
theorem dB (a b:Nat)(h:b<=a)(ha:(Ag a).length<1000000):AK C0 204 [wD a,wD b] (wD (a-b)):=by
 have:=nk (Ag a) (Ag b) (FA a) (FA b) (Ft ha (by decide)) (HL b a h) (by rw[En,En];exact h)
 rwa [En,En]at this
theorem vg (a b:Nat)(ha:(Ag a).length<1000000)(hb:(Ag b).length<1000000):AK C0 201 [wD a,wD b] (wD (a*b)):=by
 have:=mN (Ag a) (Ag b) (FA a) (FA b) ha hb
 rwa [En,En]at this
theorem Gq {n k:Nat}(h:n<BB^k):(Ag n).length<=k:=by
 induction k generalizing n with
 |zero=>
  have:n=0:=by simpa using h
  subst this;rw[Fj];exact Ai _
 |succ k ih=>
  by_cases h0:n=0
  ·subst h0;rw[Fj];exact BU _
  ·rw[F3 h0,Bo]
   exact Nat.succ_le_succ (ih (E3 (by rw[BS,<-CL];exact h)))
theorem JF (n:Nat):n<BB^(Ag n).length:=by
 have:=HO (FA n)
 rwa [En]at this
theorem Wa (a b:Nat):(Ag (a+b)).length<=max (Ag a).length (Ag b).length+1:=by
 refine Gq ?_;have h1:=JF a;have h2:=JF b;have m1:BB^(Ag a).length<=BB^max (Ag a).length (Ag b).length:=FN (by decide) (Nat.le_max_left _ _);have m2:BB^(Ag b).length<=BB^max (Ag a).length (Ag b).length:=FN (by decide) (Nat.le_max_right _ _);rw[CL];generalize BB^max (Ag a).length (Ag b).length=q at*;unfold BB;omega
theorem Wb (a b:Nat):(Ag (a-b)).length<=(Ag a).length:=HL _ _ (Nat.sub_le _ _)
def D8 (x y:GI):GI:=if x.sm=true/\y.sm=true/\x.z+y.z = -9223372036854775808 then⟨x.z+y.z,true⟩else AX (x.z+y.z)
theorem Me (x y:GI):(D8 x y).z=x.z+y.z:=by unfold D8;split<;>rfl
theorem MV (x y:GI):(D8 x y).wf:=by
 unfold D8;split
 ·rename_i h
  refine⟨λ_=>?_,λh=>by cases h⟩;dsimp only;rw[h.2.2];decide
 ·exact Cf _
theorem gU (x y:GI)(hx:x.sm=true)(hy:y.sm=true)(h1 : -9223372036854775808<=x.z+y.z)(h2:x.z+y.z<9223372036854775808):AK C0 154 [x.D,y.D] (D8 x y).D:=by
 obtain⟨a,sa⟩:=x;obtain⟨b,sb⟩:=y;dsimp only at hx hy h1 h2;subst hx;subst hy;have e:(D8 ⟨a,true⟩ ⟨b,true⟩).D=Cw (a+b):=by
  unfold D8;dsimp only;split
  ·rfl
  ·rename_i h
   have h3:¬a+b = -9223372036854775808:=λh0=>h ⟨rfl,rfl,h0⟩
   rw[JQ ⟨by omega,h2⟩];rfl
 rw[e];show AK C0 _ [Cw a,Cw b] _;refine Ak.walk w1 Te rfl λF=>?_
 refine fR 0 ?_;refine AC.seq ?_;refine sZ 100 ?_
 repeat'(first|(refine And.intro (by exact B6) ?_;refine Aw ?_)|((refine Bv (λhb=>?_) (λhb=>?_))<;>(try simp only[Bi,Bs]at hb)<;>(try simp only[hb])<;>(refine Aw ?_)))
 refine AO ?_;have e1:IntKind.i64.wrap (a+b)=a+b:=wI (by omega) (by omega);have e2:(decide (a+b>a)==decide (b>0))=true:=by
  rw[EA,Cz];omega
 refine sZ 200 ?_;refine Jw e1 ?_;refine fR 300 ?_;rw[e2];refine AO ?_;refine fR 400 ?_;refine Al ?_;exact AN rfl AA.out
theorem mC (x y:GI)(hx:x.wf)(hy:y.wf)(fx:x.few)(fy:y.few)(hn:¬(x.sm=true/\y.sm=true∧-9223372036854775808<=x.z+y.z/\x.z+y.z<9223372036854775808)):AK C0 154 [x.D,y.D] (AX (x.z+y.z)).D:=by
 refine Ak.walk w1 Te rfl λF=>?_
 have cx:=JG x hx;have cy:=JG y hy;have hpr:AA (AX (x.z+y.z)).w:=AJ;have hpx:AA x.w:=AJ;have hpy:AA y.w:=AJ;have la:=Wa x.z.natAbs y.z.natAbs;have ls:=Wb x.z.natAbs y.z.natAbs;have ls':=Wb y.z.natAbs x.z.natAbs;unfold GI.few at fx fy;dsimp only[GI.D]at*;refine fR 0 ?_;refine Dg ⟨[(2,.optr 0 0 2 0 0),(3,.optr 1 1 2 0 0),(4,.optr 2 2 2 0 0)],[⟨2,2,139,2,[Cw 0]⟩,⟨1,1,139,2,[.agg [i64 y.s,y.w]]⟩,⟨0,0,139,2,[.agg [i64 x.s,x.w]]⟩],60⟩ ?_ ?_
 ·obtain⟨a,sa⟩:=x
  obtain⟨b,sb⟩:=y;clear cx cy la ls ls' hpr;have nx:sa=false->(Ag a.natAbs).map AS≠[]:=λh=>HP (by
   intro h0;subst h;exact hx.2 rfl ⟨by dsimp only;omega,by dsimp only;omega⟩)
  have ny:sb=false->(Ag b.natAbs).map AS≠[]:=λh=>HP (by
   intro h0;subst h;exact hy.2 rfl ⟨by dsimp only;omega,by dsimp only;omega⟩)
  unfold GI.s GI.w wD wL at*;dsimp only at*;generalize(Ag a.natAbs).map AS=ka at*;generalize(Ag b.natAbs).map AS=kb at*;cases sa with
  |false=>
   have nx:=nx rfl;dsimp only at*;generalize(if a<0 then(-1:Int)else 1)=sg at*;generalize(match sb with|true=>b|false=>if b<0 then(-1:Int)else 1)=sh at*;generalize(match sb with|true=>CK|false=>D.sl false 1 kb)=wy at*;refine AC.seq ?_;refine Aq w1 100 (by kernel_rfl) ?_;refine AV (At (@ne_eq (List D)) nx EP) ?_;refine AE kT ?_;refine AE kT ?_;refine AO ?_;refine Ap ?_;exact And.intro (by trivial) (AL)
  |true=>
   dsimp only at*;cases sb with
   |false=>
    have ny:=ny rfl;dsimp only at*;generalize(if b<0 then(-1:Int)else 1)=sh at*;refine AC.seq ?_;refine Aq w1 100 (by kernel_rfl) ?_;refine AV (At (@ne_eq (List D)) ny EP) ?_;refine AE (BW kT (@ne_eq (List D)) ny EP) ?_;refine AE (BW kT (@ne_eq (List D)) ny EP) ?_;refine AO ?_;refine Ap ?_;exact And.intro (by trivial) (AL)
   |true=>
    have ra:=hx.1 rfl;have rb:=hy.1 rfl;dsimp only at*;have e2:(decide (IntKind.i64.wrap (a+b)>a)==decide (b>0))=false:=by
     have hov:¬(-9223372036854775808<=a+b/\a+b<9223372036854775808):=λh=>hn ⟨rfl,rfl,h.1,h.2⟩
     have ew:IntKind.i64.wrap (a+b)=a+b-18446744073709551616/\9223372036854775808<=a+b\/IntKind.i64.wrap (a+b)=a+b+18446744073709551616/\a+b < -9223372036854775808:=by
      have e1:(2:Int)^IntKind.i64.bits=18446744073709551616:=rfl;have e2:(2:Int)^(IntKind.i64.bits-1)=9223372036854775808:=rfl;have e3:IntKind.i64.signed=true:=rfl;unfold IntKind.wrap;simp only[e1,e2,e3,Hj,Gk];split<;>omega
     rw[Bq,ne_eq,Cz];omega
    refine sZ 100 ?_
    repeat'(first|(refine And.intro (by exact B6) ?_;refine Aw ?_)|((refine Bv (λhb=>?_) (λhb=>?_))<;>(try simp only[Bi,Bs]at hb)<;>(try simp only[hb])<;>(refine Aw ?_)))
    refine AO ?_;refine fR 200 ?_;refine fR 300 ?_;rw[e2];refine AO ?_;refine Ap ?_;exact And.intro (by trivial) (AL)
 ·refine fR 500 ?_
  refine dI cx ?_;refine fR 600 ?_;refine dI cy ?_;refine AC.seq ?_;refine AC.block ?_;refine fR 700 ?_
  by_cases hs:(decide (x.z<0))=(decide (y.z<0))
  ·have e1:(decide (x.z<0)==decide (y.z<0))=true:=EA.2 hs
   rw[e1];have ca:=wE x.z.natAbs y.z.natAbs fx fy;have cm:=LP (decide (x.z<0)) (x.z.natAbs+y.z.natAbs) (by omega);have ez:Dw (decide (x.z<0)) (x.z.natAbs+y.z.natAbs)=x.z+y.z:=by
    rw[Cz]at hs
    by_cases h:x.z<0
    ·rw[AY h];have:=hs.1 h;show -(((x.z.natAbs+y.z.natAbs:Nat)):Int)=_;omega
    ·rw[Ah h];have:¬y.z<0:=λh0=>h (hs.2 h0);show(((x.z.natAbs+y.z.natAbs:Nat)):Int)=_;omega
   rw[ez]at cm;dsimp only[GI.D]at cm;refine AO ?_;refine fR 800 ?_;refine dI ca ?_;refine dI cm ?_;refine Al ?_;exact AN rfl AA.out
  ·have e1:(decide (x.z<0)==decide (y.z<0))=false:=Bq.2 hs
   rw[e1];have cc:=QL x.z.natAbs y.z.natAbs (by omega) (by omega);refine AO ?_;refine fR 900 ?_;refine dI cc ?_
   by_cases hc:y.z.natAbs<=x.z.natAbs
   ·have e2:decide (Du (x.z.natAbs:Nat) (y.z.natAbs:Nat)>=0)=true:=AY (by unfold Du;split<;>(try split)<;>omega)
    rw[e2];have ca:=dB x.z.natAbs y.z.natAbs hc fx;have cm:=LP (decide (x.z<0)) (x.z.natAbs-y.z.natAbs) (by omega);have ez:Dw (decide (x.z<0)) (x.z.natAbs-y.z.natAbs)=x.z+y.z:=by
     rw[Cz]at hs
     by_cases h:x.z<0
     ·rw[AY h];have:¬y.z<0:=λh0=>hs ⟨λ_=>h0,λ_=>h⟩;show -(((x.z.natAbs-y.z.natAbs:Nat)):Int)=_;omega
     ·rw[Ah h];have:y.z<0:=Cy λh0=>hs ⟨λh1=>AZ h1 h,λh1=>AZ h1 h0⟩;show(((x.z.natAbs-y.z.natAbs:Nat)):Int)=_;omega
    rw[ez]at cm;dsimp only[GI.D]at cm;refine AO ?_;refine fR 1000 ?_;refine dI ca ?_;refine dI cm ?_;refine Al ?_;exact AN rfl AA.out
   ·have e2:decide (Du (x.z.natAbs:Nat) (y.z.natAbs:Nat)>=0)=false:=Ah (by unfold Du;split<;>(try split)<;>omega)
    rw[e2];have ca:=dB y.z.natAbs x.z.natAbs (by omega) fy;have cm:=LP (decide (y.z<0)) (y.z.natAbs-x.z.natAbs) (by omega);have ez:Dw (decide (y.z<0)) (y.z.natAbs-x.z.natAbs)=x.z+y.z:=by
     rw[Cz]at hs
     by_cases h:y.z<0
     ·rw[AY h];have:¬x.z<0:=λh0=>hs ⟨λ_=>h,λ_=>h0⟩;show -(((y.z.natAbs-x.z.natAbs:Nat)):Int)=_;omega
     ·rw[Ah h];have:x.z<0:=Cy λh0=>hs ⟨λh1=>AZ h1 h0,λh1=>AZ h1 h⟩;show(((y.z.natAbs-x.z.natAbs:Nat)):Int)=_;omega
    rw[ez]at cm;dsimp only[GI.D]at cm;refine AO ?_;refine Ap ?_;refine fR 1100 ?_;refine dI ca ?_;refine dI cm ?_;refine Al ?_;exact AN rfl AA.out
theorem OO (x y:GI)(hx:x.wf)(hy:y.wf)(fx:x.few)(fy:y.few):AK C0 154 [x.D,y.D] (D8 x y).D:=by
 by_cases h:x.sm=true/\y.sm=true∧-9223372036854775808<=x.z+y.z/\x.z+y.z<9223372036854775808
 ·exact gU x y h.1 h.2.1 h.2.2.1 h.2.2.2
 ·have:=mC x y hx hy fx fy h
  have e:D8 x y=AX (x.z+y.z):=by
   unfold D8;rw[AG];rintro⟨h1,h2,h3⟩;exact h ⟨h1,h2,by omega,by omega⟩
  rw[e];exact this
theorem Xo {z:Int}(h:(Ag z.natAbs).length<1000000):(AX (-z)).few:=by
 show(Ag (-z).natAbs).length<1000000;rw[L2];exact h
def IJ (x y:GI):GI:=D8 x (AX (-y.z))
theorem aO (x y:GI):(IJ x y).z=x.z-y.z:=by unfold IJ;rw[Me];show x.z + -y.z=_;omega
theorem YU (x y:GI):(IJ x y).wf:=MV _ _
theorem bx (x y:GI)(hx:x.wf)(hy:y.wf)(fx:x.few)(fy:y.few):AK C0 282 [x.D,y.D] (IJ x y).D:=by
 refine Ak.walk w1 ab rfl λF=>?_
 have c1:=OR y hy fy;have c2:=OO x (AX (-y.z)) hx (Cf _) fx (Xo fy);unfold IJ;refine fR 0 ?_;refine AC.seq ?_;refine B8 w1 100 [0,1,2] [3,4] (by kernel_rfl) ?_;refine CC ?_;refine BX.same _ (c1) AJ ?_;refine CC ?_;refine dI c2 ?_;refine Al ?_;exact AN rfl AA.out
theorem uZ (x y:GI)(hx:x.wf)(hy:y.wf)(fx:x.few)(fy:y.few):AK C0 272 [x.D,y.D] (i64 (Du x.z y.z)):=by
 by_cases h:x.sm=true/\y.sm=true
 ·obtain⟨a,sa⟩:=x
  obtain⟨b,sb⟩:=y;obtain⟨h1,h2⟩:=h;dsimp only at h1 h2;subst h1;subst h2;exact mn a b
 ·have cs:=bx x y hx hy fx fy
  have cg:=Ml (IJ x y) (YU x y);rw[aO]at cg;have e:max (-1) (min 1 (x.z-y.z))=Du x.z y.z:=by unfold Du;split<;>(try split)<;>omega
  rw[e]at cg;have hpr:AA (IJ x y).w:=AJ;have hpx:AA x.w:=AJ;have hpy:AA y.w:=AJ;dsimp only[GI.D]at*;generalize(IJ x y).s=rs at*;generalize(IJ x y).w=rw at*;generalize Du x.z y.z=r at*;refine Ak.walk w1 Ti rfl λF=>?_
  obtain⟨a,sa⟩:=x;obtain⟨b,sb⟩:=y;have nx:sa=false->(Ag a.natAbs).map AS≠[]:=λh=>HP (by
   intro h0;subst h;exact hx.2 rfl ⟨by dsimp only;omega,by dsimp only;omega⟩)
  have ny:sb=false->(Ag b.natAbs).map AS≠[]:=λh=>HP (by
   intro h0;subst h;exact hy.2 rfl ⟨by dsimp only;omega,by dsimp only;omega⟩)
  unfold GI.s GI.w wD wL at*;dsimp only at*;generalize(Ag a.natAbs).map AS=ka at*;generalize(Ag b.natAbs).map AS=kb at*;cases sa with
  |false=>
   have nx:=nx rfl;dsimp only at*;generalize(if a<0 then(-1:Int)else 1)=sg at*;generalize(match sb with|true=>b|false=>if b<0 then(-1:Int)else 1)=sh at*;generalize(match sb with|true=>CK|false=>D.sl false 1 kb)=wy at*;refine fR 0 ?_;refine AC.seq ?_;refine AC.seq ?_;refine Aq w1 100 (by kernel_rfl) ?_;refine AV (At (@ne_eq (List D)) nx EP) ?_;refine AE kT ?_;refine AE kT ?_;refine AO ?_;refine Ap ?_;refine fR 700 ?_;refine dI cs ?_;refine dI cg ?_;refine Al ?_;exact AN rfl AA.out
  |true=>
   dsimp only at*;cases sb with
   |false=>
    have ny:=ny rfl;dsimp only at*;generalize(if b<0 then(-1:Int)else 1)=sh at*;refine fR 0 ?_;refine AC.seq ?_;refine AC.seq ?_;refine Aq w1 100 (by kernel_rfl) ?_;refine AV (At (@ne_eq (List D)) ny EP) ?_;refine AE (BW kT (@ne_eq (List D)) ny EP) ?_;refine AE (BW kT (@ne_eq (List D)) ny EP) ?_;refine AO ?_;refine Ap ?_;refine fR 700 ?_;refine dI cs ?_;refine dI cg ?_;refine Al ?_;exact AN rfl AA.out
   |true=>exact AZ ⟨rfl,rfl⟩ h
theorem LH (a b:Nat):(Ag (a*b)).length<=(Ag a).length+(Ag b).length:=by
 refine Gq ?_;rw[Fw];exact Nat.mul_lt_mul'' (JF a) (JF b)
theorem lJ (a b:Int):Dw (decide (a<0) != decide (b<0)) (a.natAbs*b.natAbs)=a*b:=by
 rw[<-NE]
 by_cases h1:a<0<;>by_cases h2:b<0
 ·rw[AY h1,AY h2]
  have:0<=a*b:=Int.mul_nonneg_of_nonpos_of_nonpos (by omega) (by omega)
  show(((a*b).natAbs:Nat):Int)=a*b;omega
 ·rw[AY h1,Ah h2]
  have:a*b<=0:=Int.mul_nonpos_of_nonpos_of_nonneg (by omega) (by omega)
  show -(((a*b).natAbs:Nat):Int)=a*b;omega
 ·rw[Ah h1,AY h2]
  have:a*b<=0:=Int.mul_nonpos_of_nonneg_of_nonpos (by omega) (by omega)
  show -(((a*b).natAbs:Nat):Int)=a*b;omega
 ·rw[Ah h1,Ah h2]
  have:0<=a*b:=Int.mul_nonneg (by omega) (by omega)
  show(((a*b).natAbs:Nat):Int)=a*b;omega
theorem mM (x y:GI)(hx:x.wf)(hy:y.wf)(fx:(Ag x.z.natAbs).length<400000)(fy:(Ag y.z.natAbs).length<400000)(hn:¬(x.sm=true/\y.sm=true/\(x.z*y.z).natAbs<=9223372036854775807)):AK C0 151 [x.D,y.D] (AX (x.z*y.z)).D:=by
 refine Ak.walk w1 Td rfl λF=>?_
 have cx:=JG x hx;have cy:=JG y hy;have hpr:AA (AX (x.z*y.z)).w:=AJ;have hpx:AA x.w:=AJ;have hpy:AA y.w:=AJ;have lm:=LH x.z.natAbs y.z.natAbs;have ca:=vg x.z.natAbs y.z.natAbs (by omega) (by omega);have cm:=LP (decide (x.z<0) != decide (y.z<0)) (x.z.natAbs*y.z.natAbs) (by omega);rw[lJ]at cm;dsimp only[GI.D]at*;refine fR 0 ?_;refine Dg ⟨[(2,.optr 0 0 2 0 0),(3,.optr 1 1 2 0 0),(4,.optr 2 2 2 0 0)],[⟨2,2,139,2,[Cw 0]⟩,⟨1,1,139,2,[.agg [i64 y.s,y.w]]⟩,⟨0,0,139,2,[.agg [i64 x.s,x.w]]⟩],90⟩ ?_ ?_
 ·obtain⟨a,sa⟩:=x
  obtain⟨b,sb⟩:=y;clear cx cy lm ca cm hpr;have nx:sa=false->(Ag a.natAbs).map AS≠[]:=λh=>HP (by
   intro h0;subst h;exact hx.2 rfl ⟨by dsimp only;omega,by dsimp only;omega⟩)
  have ny:sb=false->(Ag b.natAbs).map AS≠[]:=λh=>HP (by
   intro h0;subst h;exact hy.2 rfl ⟨by dsimp only;omega,by dsimp only;omega⟩)
  unfold GI.s GI.w wD wL at*;dsimp only at*;generalize(Ag a.natAbs).map AS=ka at*;generalize(Ag b.natAbs).map AS=kb at*;cases sa with
  |false=>
   have nx:=nx rfl;dsimp only at*;generalize(if a<0 then(-1:Int)else 1)=sg at*;generalize(match sb with|true=>b|false=>if b<0 then(-1:Int)else 1)=sh at*;generalize(match sb with|true=>CK|false=>D.sl false 1 kb)=wy at*;refine AC.seq ?_;refine Aq w1 100 (by kernel_rfl) ?_;refine AV (At (@ne_eq (List D)) nx EP) ?_;refine AE kT ?_;refine AE kT ?_;refine AO ?_;refine Ap ?_;exact And.intro (by trivial) (AL)
  |true=>
   dsimp only at*;cases sb with
   |false=>
    have ny:=ny rfl;dsimp only at*;generalize(if b<0 then(-1:Int)else 1)=sh at*;refine AC.seq ?_;refine Aq w1 100 (by kernel_rfl) ?_;refine AV (At (@ne_eq (List D)) ny EP) ?_;refine AE (BW kT (@ne_eq (List D)) ny EP) ?_;refine AE (BW kT (@ne_eq (List D)) ny EP) ?_;refine AO ?_;refine Ap ?_;exact And.intro (by trivial) (AL)
   |true=>
    have ra:=hx.1 rfl;have rb:=hy.1 rfl;dsimp only at*;have sa:=OI ra.1 ra.2;have sb:=OI rb.1 rb.2;have la:a.natAbs<BB:=by unfold BB;omega
    have lb:b.natAbs<BB:=by unfold BB;omega
    have c0:=Nu a.natAbs b.natAbs la lb;have hab:a.natAbs*b.natAbs=(a*b).natAbs:=(NE a b).symm;have hbig:9223372036854775807<(a*b).natAbs:=Cy λh=>hn ⟨rfl,rfl,by omega⟩
    rw[hab]at c0;generalize(a*b).natAbs=p at*;refine sZ 100 ?_
    repeat'(first|(refine And.intro (by exact B6) ?_;refine Aw ?_)|((refine Bv (λhb=>?_) (λhb=>?_))<;>(try simp only[Bi,Bs]at hb)<;>(try simp only[hb])<;>(refine Aw ?_)))
    refine AO ?_;refine AC.seq ?_;refine B8 w1 200 [0,1,2,3,4,5,6,7,8,9,10] [11] (by kernel_rfl) ?_;refine CC ?_;refine BX.same _ (sa) AJ ?_;refine CC ?_;refine BX.same _ (sb) AJ ?_;refine CC ?_;refine BX.same _ (c0) AJ ?_;refine CC ?_;refine AC.seq ?_
    by_cases h0:p/18446744073709551616=0
    ·rw[h0]
     have h1:p%18446744073709551616=p:=by omega
     rw[h1];have e3:decide ((p:Int)<=9223372036854775807)=false:=Ah (by omega);refine Aq w1 300 (by kernel_rfl) ?_
     repeat'(first|(refine And.intro (by exact B6) ?_;refine Aw ?_)|((refine Bv (λhb=>?_) (λhb=>?_))<;>(try simp only[Bi,Bs]at hb)<;>(try simp only[hb])<;>(refine Aw ?_)))
     rw[e3];refine AO ?_;refine Ap ?_;exact And.intro (by trivial) (AL)
    ·have e3:(((p/18446744073709551616:Nat):Int)==0)=false:=Bq.2 (by omega)
     refine Aq w1 300 (by kernel_rfl) ?_;refine AV e3 ?_;refine AE e3 ?_;refine AE e3 ?_;refine AO ?_;refine Ap ?_;exact And.intro (by trivial) (AL)
 ·refine fR 700 ?_
  refine dI cx ?_;refine fR 800 ?_;refine dI cy ?_;refine fR 900 ?_;refine dI ca ?_;refine dI cm ?_;refine Al ?_;exact AN rfl AA.out
theorem iX (a b:Int)(hc:Sm (a*b))(ha : -9223372036854775808<=a/\a<9223372036854775808)(hb : -9223372036854775808<=b/\b<9223372036854775808):AK C0 151 [Cw a,Cw b] (Cw (a*b)):=by
 refine Ak.walk w1 Td rfl λF=>?_
 have hab:a.natAbs*b.natAbs=(a*b).natAbs:=(NE a b).symm;have h1:a.natAbs*b.natAbs/18446744073709551616=0:=by rw[hab];have:=hc.1;have:=hc.2;omega
 have h2:a.natAbs*b.natAbs%18446744073709551616=(a*b).natAbs:=by rw[hab];have:=hc.1;have:=hc.2;omega
 have c0:=Nu a.natAbs b.natAbs (by omega) (by omega);rw[h1,h2]at c0;refine fR 0 ?_;refine AC.seq ?_;refine sZ 100 ?_
 repeat'(first|(refine And.intro (by exact B6) ?_;refine Aw ?_)|((refine Bv (λhb=>?_) (λhb=>?_))<;>(try simp only[Bi,Bs]at hb)<;>(try simp only[hb])<;>(refine Aw ?_)))
 refine AO ?_;refine AC.seq ?_;refine B8 w1 200 [0,1,2,3,4,5,6,7,8,9,10] [11] (by kernel_rfl) ?_;refine CC ?_;refine BX.same _ (OI ha.1 ha.2) AJ ?_;refine CC ?_;refine BX.same _ (OI hb.1 hb.2) AJ ?_;refine CC ?_;refine BX.same _ (c0) AJ ?_;refine CC ?_;refine sZ 300 ?_
 repeat'(first|(refine And.intro (by exact B6) ?_;refine Aw ?_)|((refine Bv (λhb=>?_) (λhb=>?_))<;>(try simp only[Bi,Bs]at hb)<;>(try simp only[hb])<;>(refine Aw ?_)))
 have e3:decide ((((a*b).natAbs:Nat):Int)<=9223372036854775807)=true:=AY (by have:=hc.1;have:=hc.2;omega);rw[e3];refine AO ?_;refine AC.seq ?_;refine fR 400 ?_;refine AO ?_;have e4:IntKind.i64.wrap (((a*b).natAbs:Nat):Int)=((a*b).natAbs:Nat):=wN (by have:=hc.1;have:=hc.2;omega)
 (refine Bv (λh41=>?_) (λh41=>?_))<;>(try simp only[Bi,Bs]at h41)<;>(try simp only[h41])
 ·have e5:IntKind.i64.wrap (0-(((a*b).natAbs:Nat):Int)) = -((a*b).natAbs:Nat):=by
   rw[wI (by have:=hc.1;have:=hc.2;omega) (by have:=hc.1;have:=hc.2;omega)];omega
  have e6 : -(((a*b).natAbs:Nat):Int)=a*b:=by
   have hs:(a<0)≠(b<0):=by simpa using h41
   have:a*b<=0:=by
    by_cases h1:a<0
    ·have h2:¬b<0:=λh2=>hs (by simp[h1,h2])
     exact Int.mul_nonpos_of_nonpos_of_nonneg (by omega) (by omega)
    ·have h2:b<0:=Cy λh2=>hs (by simp[h1,h2])
     exact Int.mul_nonpos_of_nonneg_of_nonpos (by omega) (by omega)
   omega
  refine sZ 500 ?_;refine Jw (At e4 e5 e6) ?_;refine Al ?_;exact AN rfl AA.out
 ·have e6:(((a*b).natAbs:Nat):Int)=a*b:=by
   have hs:¬((a<0)≠(b<0)):=by simpa using h41
   have:0<=a*b:=by
    by_cases h1:a<0
    ·have h2:b<0:=Cy λh2=>hs (by simp[h1,h2])
     exact Int.mul_nonneg_of_nonpos_of_nonpos (by omega) (by omega)
    ·have h2:¬b<0:=λh2=>hs (by simp[h1,h2])
     exact Int.mul_nonneg (by omega) (by omega)
   omega
  rw[e6]at e4;refine Ap ?_;refine sZ 600 ?_;refine Jw (Ac e6 e4) ?_;refine Al ?_;exact AN rfl AA.out
theorem bu (x y:GI)(hx:x.wf)(hy:y.wf)(fx:(Ag x.z.natAbs).length<400000)(fy:(Ag y.z.natAbs).length<400000):AK C0 151 [x.D,y.D] (AX (x.z*y.z)).D:=by
 by_cases h:x.sm=true/\y.sm=true/\(x.z*y.z).natAbs<=9223372036854775807
 ·obtain⟨a,sa⟩:=x
  obtain⟨b,sb⟩:=y;obtain⟨h1,h2,h3⟩:=h;dsimp only at h1 h2 h3;subst h1;subst h2;have hs:Sm (a*b):=⟨by omega,by omega⟩
  dsimp only;rw[JQ hs];exact iX a b hs (hx.1 rfl) (hy.1 rfl)
 ·exact mM x y hx hy fx fy h
def Lq (x:GI):GI:=if x.z<0 then AX (-x.z)else x
theorem oX (x:GI):(Lq x).z=(x.z.natAbs:Nat):=by
 unfold Lq;split
 ·show -x.z=_;omega
 ·omega
theorem lz (x:GI)(h:x.wf):(Lq x).wf:=by
 unfold Lq;split
 ·exact Cf _
 ·exact h
theorem bE (x:GI)(h:x.wf)(hf:x.few):AK C0 239 [x.D] (Lq x).D:=by
 refine Ak.walk w1 Zf rfl λF=>?_
 have hs:=aJ x h;have cn:=OR x h hf;have hpx:AA x.w:=AJ;have hpr:AA (AX (-x.z)).w:=AJ;unfold Lq
 by_cases hz:x.z<0
 ·have e:decide (x.s<0)=true:=AY (by rw[hs];exact hz)
  rw[AH hz];dsimp only[GI.D]at*;refine fR 0 ?_;refine AC.seq ?_;refine fR 100 ?_;rw[e];refine AO ?_;refine fR 200 ?_;refine dI cn ?_;refine Al ?_;exact AN rfl AA.out
 ·have e:decide (x.s<0)=false:=Ah (by rw[hs];exact hz)
  rw[AG hz];dsimp only[GI.D]at*;refine fR 0 ?_;refine AC.seq ?_;refine fR 100 ?_;rw[e];refine AO ?_;refine Ap ?_;refine fR 300 ?_;refine Al ?_;exact AN rfl AA.out
structure LB (B Y u1 u0:Nat)(q r:Nat):Prop where
 eq:q*(Y/B)+r=u1
 up:u1*B+u0<(q+1)*Y
 q2:q<=B+1
theorem Va {B Y u1 u0:Nat}(hB:0<B)(hY:B*B<=2*Y)(hY2:Y<B*B)(hev:B%2=0)(hu:u1<Y)(h0:u0<B):
  LB B Y u1 u0 (u1/(Y/B)) (u1-u1/(Y/B)*(Y/B))/\u1-u1/(Y/B)*(Y/B)<B:=by
 have e:=EU Y B;have m:=B5 Y hB;generalize hg:Y/B=y1 at*;generalize Y%B=y0 at*;have hy1:y1<B:=by
  rcases BG y1 B with h|h
  ·exact h
  ·have:=Cd B h
   omega
 have hy2:B<=2*y1:=by
  rcases BG (2*y1) B with h|h
  ·exfalso
   have h1:2*y1+2<=B:=by omega
   have h2:=Cd B h1;have h3:B*(2*y1+2)=2*(B*y1)+2*B:=by
    rw[BM,IN,BS B 2]
   omega
  ·exact h
 have e1:=EU u1 y1;have m1:=B5 u1 (show 0<y1 by omega);have c1:y1*(u1/y1)=u1/y1*y1:=BS _ _;refine⟨⟨by rw[hg];omega,?_,?_⟩,by omega⟩
 ·generalize hq:u1/y1=q at*
  have h1:u1+1<=(q+1)*y1:=by rw[Bu];omega
  have h2:=CI B h1;have h3:(q+1)*Y=(q+1)*y1*B+(q+1)*y0:=by
   rw[<-e,BM,BS B y1,Bw]
  rw[Bu]at h2;omega
 ·rcases BG (B+1) (u1/y1)with h|h
  ·exfalso
   have h1:=Cd y1 (show B+2<=u1/y1 by omega);have h2:y1*(B+2)=B*y1+2*y1:=by rw[BM,BS y1 B,BS y1 2]
   omega
  ·exact h
theorem WB {B Y u1 u0 q r:Nat}(hB:0<B)(hu:u1<Y)(h0:u0<B)(I:LB B Y u1 u0 q r)
  (c:B<=q\/B*r+u0<q*(Y%B)):0<q/\LB B Y u1 u0 (q-1) (r+Y/B):=by
 have e:=EU Y B;obtain⟨i1,i2,i3⟩:=I;generalize hg:Y/B=y1 at*;generalize Y%B=y0 at*;have hq:0<q:=by
  rcases c with c|c
  ·omega
  ·rcases Db q with h|h
   ·subst h;omega
   ·exact h
 obtain⟨p,rfl⟩:∃p,q=p+1:=⟨q-1,by omega⟩
 refine⟨hq,⟨?_,?_,?_⟩⟩
 ·rw[IM,hg,BS p];rw[Bu,BS p]at i1;omega
 ·rw[IM]
  rcases c with c|c
  ·have h1:=CI Y c
   have h2:(u1+1)*B<=Y*B:=CI B hu;rw[Bu]at h2;rw[BS Y B]at h2;omega
  ·have h3:(p+1)*Y=(p+1)*y1*B+(p+1)*y0:=by
    rw[<-e,BM,BS B y1,Bw]
   have h4:u1*B=(p+1)*y1*B+r*B:=by rw[<-i1,Bu]
   rw[BS r B]at h4;omega
 ·omega
theorem SJ {B Y u1 u0 q r:Nat}(I:LB B Y u1 u0 q r)
  (c:q*(Y%B)<=B*r+u0):q=(u1*B+u0)/Y:=by
 have e:=EU Y B;obtain⟨i1,i2,i3⟩:=I;have h3:q*Y=q*(Y/B)*B+q*(Y%B):=by
  conv=>lhs;rw[<-e]
  rw[BM,BS B (Y/B),Bw]
 have h4:u1*B=q*(Y/B)*B+r*B:=by rw[<-i1,Bu]
 rw[BS r B]at h4;have h5:0<Y:=by
  rcases Db Y with h|h
  ·subst h;omega
  ·exact h
 symm
 apply Nat.div_eq_of_lt_le
 ·omega
 ·exact i2
theorem VZ {B Y u1 u0 q r:Nat}(hB:0<B)(I:LB B Y u1 u0 q r)(hq:q<=B)(hr:B<=r):
  q=(u1*B+u0)/Y:=by
 refine SJ I ?_;have m:=B5 Y hB;have h1:q*(Y%B)<=B*B:=IU hq (by omega);have h2:=Cd B hr;omega
theorem gz {B N S y u32 u1 u0 v:Nat}(hS:0<S)(hy:0<y)(hN:N*S=u32*(B*B)+(u1*B+u0))(hv:v=(u32*B+u1)%(y*S)):
  (u32*B+u1)/(y*S)*B+(v*B+u0)/(y*S)=N/y/\(v*B+u0)%(y*S)/S=N%y:=by
 have hY0:0<y*S:=HI hy hS;have e1:=EU (u32*B+u1) (y*S);have e2:=EU (v*B+u0) (y*S);have m2:=B5 (v*B+u0) hY0;rw[<-hv]at e1;have dY:N*S/(y*S)=N/y:=PA _ _ hS;have mY:N*S%(y*S)=N%y*S:=PB _ _ _;generalize(u32*B+u1)/(y*S)=q1 at*;generalize(v*B+u0)/(y*S)=q0 at*;generalize(v*B+u0)%(y*S)=r at*;generalize y*S=Y at*;have hT:N*S=r+Y*(q1*B+q0):=by
  have c1:u32*(B*B)+u1*B=Y*q1*B+v*B:=by
   rw[<-Bw,<-Bu,<-e1,Bu]
  rw[hN,BM,<-Bw Y q1 B];omega
 refine⟨?_,?_⟩
 ·rw[<-dY,hT,Re _ _ hY0,HE m2,BP]
 ·rw[hT,RW,Dc m2]at mY
  rw[mY,Nat.mul_div_cancel _ hS]
theorem kG {hi lo y s:Nat}(hs:s<=63)(h1:hi<y)(hlo:lo<18446744073709551616):
  lo/2^(64-s)<2^s/\hi*2^s+lo/2^(64-s)<y*2^s /\
   (hi*18446744073709551616+lo)*2^s=(hi*2^s+lo/2^(64-s))*18446744073709551616+lo*2^s%18446744073709551616:=by
 have hp:0<2^s:=Gj s;have hpp:2^(64-s)*2^s=18446744073709551616:=by
  rw[<-Fw,show 64-s+s=64 by omega]
 have hl:lo*2^s/18446744073709551616=lo/2^(64-s):=by
  rw[<-hpp,PA _ _ hp]
 have hl2:lo/2^(64-s)<2^s:=E3 (by rw[hpp];exact hlo);refine⟨hl2,?_,?_⟩
 ·have:(hi+1)*2^s<=y*2^s:=CI _ h1
  rw[Bu]at this;omega
 ·have e:=EU (lo*2^s) 18446744073709551616
  rw[hl]at e;rw[Bu,Bu,Nat.mul_right_comm];omega
theorem Tu {a b s:Nat}(h:b<2^s):(a*2^s) ||| b=a*2^s+b:=by
 rw[BS,Nat.two_pow_add_eq_or_of_lt h]
theorem bs (x:Nat)(hx:x<BB):AK C0 255 [AS x] (i64 (64-(Lib.bitLen x:Int))):=by
 refine⟨⟨_,_,Tryz.func255,rfl,by kernel_rfl⟩,λY w vs hG hnG hX hvs hr=>?_⟩
 have:=Pz hvs hr
 subst this;refine(Tryz.bits_LeadingZeros64 x w (by omega) (by unfold BB at hx;omega)).mono ?_;rintro e w' ⟨rfl,rfl⟩;exact⟨_,_,rfl,.refl _ _,rfl,.prim _⟩
theorem V7 {x:Nat}(h0:x≠0)(hx:x<BB):∃s,s<=63/\(64-(Lib.bitLen x:Int))=(s:Nat)/\9223372036854775808<=x*2^s/\x*2^s<18446744073709551616:=by
 obtain⟨h1,h2,h3⟩:=Lib.bitLenAux_bounds 64 x hx h0;have h4:=Lib.bitLen_le x 64 (Ai _) hx;have h5:Lib.bitLenAux 64 x=Lib.bitLen x:=rfl;rw[h5]at h1 h2 h3;refine⟨64-Lib.bitLen x,by omega,by omega,?_,?_⟩
 ·have:=CI (2^(64-Lib.bitLen x)) h2
  rw[<-Fw,show Lib.bitLen x-1+(64-Lib.bitLen x)=63 by omega]at this;exact this
 ·have:=(Nat.mul_lt_mul_right (Gj (64-Lib.bitLen x))).2 h3
  rw[<-Fw,show Lib.bitLen x+(64-Lib.bitLen x)=64 by omega]at this;exact this
theorem If (n:Nat):IntKind.u64.wrap (n:Int)=((n%18446744073709551616:Nat):Int):=by
 have e1:(2:Int)^IntKind.u64.bits=18446744073709551616:=rfl;unfold IntKind.wrap;simp only[e1];have e3:IntKind.u64.signed=false:=rfl;rw[e3];simp only[I1,Hi,if_false];omega
theorem OX (x s:Nat)(hs:s<=63):Kh .u64 (x:Int) (s:Int)=((x*2^s%18446744073709551616:Nat):Int):=by
 have hm:min ((s:Int)).toNat (IntKind.bits .u64)=s:=by
  have:IntKind.bits .u64=64:=rfl
  rw[this];omega
 unfold Kh;rw[hm]
 have:(x:Int)*2^s=((x*2^s:Nat):Int):=by simp
 rw[this];exact If _
theorem M0 (x s:Nat)(hs:s<=64):Lx .u64 (x:Int) (s:Int)=((x/2^s:Nat):Int):=by
 have hm:min ((s:Int)).toNat (IntKind.bits .u64)=s:=by
  have:IntKind.bits .u64=64:=rfl
  rw[this];omega
 unfold Lx;rw[hm]
 have:(2:Int)^s=((2^s:Nat):Int):=by simp
 rw[this,Int.fdiv_eq_ediv_of_nonneg _ (Int.natCast_nonneg _)];exact(Int.natCast_ediv _ _).symm
theorem RC (a:Nat)(ha:a<18446744073709551616):(BitVec.ofInt (IntKind.bits .u64) (a:Int)).toNat=a:=by
 rw[show IntKind.bits .u64=64 from rfl,BitVec.ofInt_natCast,BitVec.toNat_ofNat];exact Dc ha
theorem Ur (a b:Nat)(ha:a<18446744073709551616)(hb:b<18446744073709551616):Gu .or .u64 (a:Int) (b:Int)=((a ||| b:Nat):Int):=by
 have h:a ||| b<2^64:=Nat.or_lt_two_pow ha hb;show IntKind.u64.wrap ((BitVec.ofInt (IntKind.bits .u64) (a:Int) ||| BitVec.ofInt (IntKind.bits .u64) (b:Int)).toNat:Int)=_;rw[BitVec.toNat_or,RC a ha,RC b hb,If];exact congrArg Nat.cast (Dc h)
theorem bF (a:Nat)(ha:a<18446744073709551616):Gu .and .u64 (a:Int) 4294967295=((a%4294967296:Nat):Int):=by
 show IntKind.u64.wrap ((BitVec.ofInt (IntKind.bits .u64) (a:Int) &&& BitVec.ofInt (IntKind.bits .u64) ((4294967295:Nat):Int)).toNat:Int)=_;rw[BitVec.toNat_and,RC a ha,RC _ (by decide),If,show(4294967295:Nat)=2^32-1 from rfl,Nat.and_two_pow_sub_one_eq_mod];exact congrArg Nat.cast (Dc (by omega))
theorem T8 (a b:Nat):IntKind.u64.wrap ((a:Int).tdiv (b:Int))=((a/b%18446744073709551616:Nat):Int):=by
 rw[<-Int.ofNat_tdiv];exact If _
theorem aP {a b:Nat}(h:b<=a)(ha:a<18446744073709551616):IntKind.u64.wrap ((a:Int)-(b:Int))=((a-b:Nat):Int):=by
 rw[<-Int.natCast_sub h,If];exact congrArg Nat.cast (Dc (by omega))
section
variable {C:A8} {B F:Ab} {s:St} {rd:Option Nat} {Q:Exit->Ab->St->Prop}
theorem dR {a b:Code}(S:Nat->St)(h1:AC C B rd F a s (λe F1 s1=>Is (F1=F/\∃n,Wk s1 (S n)) (λe=>Q e F1 s1) e))(h2:∀n,AC C B rd F b (S n) Q):AC C B rd F (.seq a b) s Q:=
 AC.seq (h1.mono λe F1 s1 h=>by
  cases e with
  |normal=>
   obtain⟨h0,n,h3⟩:=(show F1=F/\∃n,Wk s1 (S n)from h)
   rw[h0];exact AC.weak (S n) h3 (h2 n)
  |ret=>exact h
  |exit j=>exact h
  |goto l=>exact h
  |panic c=>exact h
  |outgrown=>exact h)
end
theorem MT (z:Int):IntKind.u64.wrap z=z%18446744073709551616:=by
 have e1:(2:Int)^IntKind.u64.bits=18446744073709551616:=rfl;unfold IntKind.wrap;simp only[e1];have e3:IntKind.u64.signed=false:=rfl;rw[e3];simp only[I1,Hi,if_false]
theorem fK (a b:Nat)(ha:a<4294967296)(hb:b<4294967296):IntKind.u64.wrap (IntKind.u64.wrap ((a:Int)*4294967296)+(b:Int))=((a*4294967296+b:Nat):Int):=by
 rw[MT,MT];omega
theorem WZ (a c q Y:Nat)(hY:0<Y)(hY2:Y<18446744073709551616)(hq:q=(a*4294967296+c)/Y):
  IntKind.u64.wrap (IntKind.u64.wrap (IntKind.u64.wrap ((a:Int)*4294967296)+(c:Int))-IntKind.u64.wrap ((q:Int)*(Y:Int)))=(((a*4294967296+c)%Y:Nat):Int):=by
 have e:=EU (a*4294967296+c) Y;have m:=B5 (a*4294967296+c) hY;rw[<-hq,BS Y q]at e;generalize(a*4294967296+c)%Y=v at*;rw[<-Fv q Y];generalize q*Y=Q at*;rw[MT,MT,MT,MT];omega
structure oS (hi lo y s Y u u10:Nat):Prop where
 s63:s<=63
 eY:Y=y*2^s
 big:9223372036854775808<=Y
 Yl:Y<18446744073709551616
 uY:u<Y
 u10l:u10<18446744073709551616
 N:(hi*BB+lo)*2^s=u*18446744073709551616+u10
 e8:Kh .u64 (y:Int) (s:Int)=(Y:Int)
 e9:Lx .u64 (Y:Int) 32=((Y/4294967296:Nat):Int)
 e10:Gu .and .u64 (Y:Int) 4294967295=((Y%4294967296:Nat):Int)
 ew:IntKind.u64.wrap (64-(s:Int))=((64-s:Nat):Int)
 e11:Gu .or .u64 (Kh .u64 (hi:Int) (s:Int)) (Lx .u64 (lo:Int) ((64-s:Nat):Int))=(u:Int)
 e12:Kh .u64 (lo:Int) (s:Int)=(u10:Int)
 e13:Lx .u64 (u10:Int) 32=((u10/4294967296:Nat):Int)
 e14:Gu .and .u64 (u10:Int) 4294967295=((u10%4294967296:Nat):Int)
theorem jy {hi lo y s:Nat}(h1:hi<y)(hlo:lo<BB)(hs:s<=63)(t1:9223372036854775808<=y*2^s)(t2:y*2^s<18446744073709551616):
  ∃Y u u10,oS hi lo y s Y u u10:=by
 obtain⟨m1,m2,m3⟩:=kG hs h1 hlo;have hpos:0<2^s:=Gj s;have hh:hi*2^s<18446744073709551616:=DW (Nat.le_add_right _ _) (Ft m2 t2);have hl:lo/2^(64-s)<18446744073709551616:=DW (Gi _ _) hlo;refine⟨_,_,_,hs,rfl,t1,t2,m2,B5 _ (by decide),m3,?_,M0 _ 32 (by decide),bF _ t2,?_,?_,OX lo s hs,M0 _ 32 (by decide),bF _ (B5 _ (by decide))⟩
 ·rw[OX y s hs,Dc t2]
 ·rw[wU (by omega) (by omega)];omega
 ·rw[OX hi s hs,Dc hh,M0 lo (64-s) (by omega),Ur _ _ hh hl,Tu m1]
theorem XH (hi lo y:Nat)(h1:hi<y)(hlo:lo<BB)(hy:y<BB):AK C0 254 [AS hi,AS lo,AS y] (.tup [AS ((hi*BB+lo)/y),AS ((hi*BB+lo)%y)]):=by
 refine Ak.walk w1 aW rfl λF=>?_
 have y0:¬(y:Int)=0:=by omega
 have c1:((y:Int)==0)=false:=by simp;omega
 have c2:decide ((y:Int)<=(hi:Int))=false:=Ah (by omega);refine sR 0 ?_;refine AC.seq ?_;refine sZ 100 ?_;refine AV c1 ?_;refine AO ?_;refine Ap ?_;refine AC.seq ?_;refine sZ 300 ?_;refine AV c2 ?_;refine AO ?_;refine Ap ?_;refine AC.seq ?_;refine sR 500 ?_;refine AO ?_
 (refine Bv (λh27=>?_) (λh27=>?_))<;>(try simp only[Bi,Bs]at h27)<;>(try simp only[h27])
 ·have hi0:hi=0:=by simpa using h27
  subst hi0;refine AC.seq ?_;refine B8 w1 600 [0,1,2,3,4,5,6] [7] (by kernel_rfl) ?_;refine BO ?_;refine Al ?_;refine AN ?_ AA.out;have l1:lo/y<18446744073709551616:=DW (Gi _ _) hlo;rw[T8,Dc l1,Gm,BP];rfl
 ·obtain⟨s,hs,es,t1,t2⟩:=V7 (x:=y) (by omega) hy
  have cl:=bs y hy;rw[es]at cl;have ws:IntKind.u64.wrap (s:Int)=(s:Int):=wU (by omega) (by omega);obtain⟨Y,u,u10,L⟩:=jy h1 hlo hs t1 t2;have ew0:(0:Int)<=IntKind.u64.wrap (64-(s:Int)):=by rw[L.ew];omega
  refine Ap ?_;refine sR 700 ?_;refine cI cl ?_;rw[ws];refine sZ 800 ?_;refine AV L.e8 ?_;refine sZ 900 ?_;refine AV L.e9 ?_;refine sZ 1000 ?_;refine AV L.e10 ?_;refine sZ 1100 ?_;refine AE (Ac L.ew L.e11) ?_;refine sZ 1200 ?_;refine AV L.e12 ?_;refine sZ 1300 ?_;refine AV L.e13 ?_;refine sZ 1400 ?_;refine AV L.e14 ?_;have hB:2147483648<=Y/4294967296:=by have:=L.big;omega
  have hB2:Y/4294967296<4294967296:=by have:=L.Yl;omega
  have n0:¬((Y/4294967296:Nat):Int)=0:=by omega
  obtain⟨I0,r0⟩:=Va (B:=4294967296) (u0:=u10/4294967296) (by decide) (by have:=L.big;omega) L.Yl (by decide) L.uY (by have:=L.u10l;omega);have q0l:=I0.q2;have hu64:u<18446744073709551616:=Ft L.uY L.Yl;have hqy:=Nat.div_mul_le_self u (Y/4294967296);have e15:IntKind.u64.wrap ((u:Int).tdiv ((Y/4294967296:Nat):Int))=((u/(Y/4294967296):Nat):Int):=by
   rw[T8,Dc (by omega)]
  have e16:IntKind.u64.wrap ((u:Int)-IntKind.u64.wrap (((u/(Y/4294967296):Nat):Int)*((Y/4294967296:Nat):Int)))=((u-u/(Y/4294967296)*(Y/4294967296):Nat):Int):=by
   rw[<-Fv,If,Dc (by omega),aP hqy hu64]
  refine sZ 1500 ?_;refine AV e15 ?_;refine sZ 1600 ?_;refine AV e16 ?_;have hu1:u10/4294967296<4294967296:=by have:=L.u10l;omega
  have hy0:Y%4294967296<4294967296:=B5 _ (by decide);generalize hu1e:u10/4294967296=u1 at*;generalize hu0e:u10%4294967296=u0 at*;refine dR (λn=>⟨[(2,AS Y),(6,u64 0),(7,u64 0),(8,AS s),(9,AS (Y/4294967296)),(10,AS (Y%4294967296)),(11,AS u),(13,AS u1),(14,AS u0),(15,AS ((u*4294967296+u1)/Y))],[],n⟩) ?_ λn=>?_
  ·refine AC.block ?_
   refine GL (α:=Nat×Nat×Nat) (λp=>⟨[(2,AS Y),(6,u64 0),(7,u64 0),(8,AS s),(9,AS (Y/4294967296)),(10,AS (Y%4294967296)),(11,AS u),(13,AS u1),(14,AS u0),(15,AS p.1),(16,AS p.2.1)],[],p.2.2⟩) (λp=>p.1)
    (λp F'=>F'=F/\LB 4294967296 Y u u1 p.1 p.2.1/\p.2.1<4294967296) (_,_,_)
    ⟨rfl,I0,r0⟩ AL ?_
   rintro⟨q,r,m⟩ F' ⟨rfl,I,hr⟩;dsimp only at I hr⊢;have hq2:=I.q2;refine AC.seq ?_;obtain⟨b,hbt⟩:∃b:Bool,b=decide (4294967296<=q\/4294967296*r+u1<q*(Y%4294967296)):=⟨_,rfl⟩
   refine Dg ⟨[(2,AS Y),(6,u64 0),(7,u64 0),(8,AS s),(9,AS (Y/4294967296)),(10,AS (Y%4294967296)),(11,AS u),(13,AS u1),(14,AS u0),(15,AS q),(16,AS r),(78,As b)],[],m+30⟩ ?_ ?_
   ·rcases BG q 4294967296 with hq|hq
    ·have e1:decide ((q:Int)>=4294967296)=false:=Ah (by omega)
     have hqy:q*(Y%4294967296)<=4294967295*4294967295:=IU (by omega) (by omega);have k1:IntKind.u64.wrap ((q:Int)*((Y%4294967296:Nat):Int))=((q*(Y%4294967296):Nat):Int):=by
      rw[<-Fv,If,Dc (by omega)]
     have k2:IntKind.u64.wrap (4294967296*(r:Int))=((4294967296*r:Nat):Int):=by rw[wU (by omega) (by omega)];omega
     have k3:IntKind.u64.wrap (((4294967296*r:Nat):Int)+(u1:Int))=((4294967296*r+u1:Nat):Int):=by rw[wU (by omega) (by omega)];omega
     have k4:decide (((q*(Y%4294967296):Nat):Int)>((4294967296*r+u1:Nat):Int))=b:=by
      rw[hbt];exact Cz.2 ⟨λh=>Or.inr (by omega),λh=>by rcases h with h|h<;>omega⟩
     refine Aq w1 1700 (by kernel_rfl) ?_;refine AE e1 ?_;refine AE (CM kF k1 k2 k3 k4) ?_;exact And.intro (by trivial) (AL)
    ·have e1:decide ((q:Int)>=4294967296)=true:=AY (by omega)
     have hb:b=true:=by rw[hbt];exact AY (Or.inl hq)
     subst hb;refine Aq w1 1700 (by kernel_rfl) ?_;refine AE e1 ?_;refine AE kT ?_;exact And.intro (by trivial) (AL)
   ·cases b
    ·have hc:=DN hbt.symm
     have hq:=SJ I (by omega);subst hq;refine AO ?_;refine CA ?_;exact⟨rfl,_,AL⟩
    ·have hc:=DA hbt.symm
     obtain⟨hq0,I2⟩:=WB (by decide) L.uY hu1 I hc;have hq3:=I2.q2;have k1:IntKind.u64.wrap ((q:Int)-1)=((q-1:Nat):Int):=by rw[wU (by omega) (by omega)];omega
     have k2:IntKind.u64.wrap ((r:Int)+((Y/4294967296:Nat):Int))=((r+Y/4294967296:Nat):Int):=by rw[wU (by omega) (by omega)];omega
     refine AO ?_;refine Ap ?_;refine AC.block ?_;refine sZ 1800 ?_;refine AV k1 ?_;refine sZ 1900 ?_;refine AV k2 ?_;refine sR 2000 ?_;refine AO ?_
     (refine Bv (λh85=>?_) (λh85=>?_))<;>(try simp only[Bi,Bs]at h85)<;>(try simp only[h85])
     ·have hq:=VZ (by decide) I2 (by omega) (by have:=DA h85;omega)
      rw[hq];refine CA ?_;exact⟨rfl,_,AL⟩
     ·refine Ap ?_
      refine⟨(q-1,r+Y/4294967296,_),⟨rfl,I2,by have:=DN h85;dsimp only;omega⟩,by dsimp only;omega,AL⟩
  ·have hY0:0<Y:=by have:=L.big;omega
   have e21:=WZ u u1 _ Y hY0 L.Yl rfl;have q1l:(u*4294967296+u1)/Y<4294967296:=by
    refine E3 ?_
    have:(u+1)*4294967296<=Y*4294967296:=CI _ L.uY
    rw[Bu]at this;omega
   have hvY:(u*4294967296+u1)%Y<Y:=B5 _ hY0;have tr:=gz (B:=4294967296) (N:=hi*BB+lo) (S:=2^s) (y:=y) (u32:=u) (u1:=u1) (u0:=u0) (v:=(u*4294967296+u1)%Y) (Gj s) (by omega) (by rw[L.N];omega) (by rw[L.eY]);rw[<-L.eY]at tr;clear e15 e16 I0 r0 q0l hqy;obtain⟨q1,hq1e⟩:∃x,x=(u*4294967296+u1)/Y:=⟨_,rfl⟩
   rw[<-hq1e]at e21 q1l tr⊢;obtain⟨v,hve⟩:∃x,x=(u*4294967296+u1)%Y:=⟨_,rfl⟩
   rw[<-hve]at e21 hvY tr;have hu0:u0<4294967296:=by rw[<-hu0e];exact B5 _ (by decide)
   obtain⟨J0,s0⟩:=Va (B:=4294967296) (u0:=u0) (by decide) (by have:=L.big;omega) L.Yl (by decide) hvY hu0;have q0l:=J0.q2;have hv64:v<18446744073709551616:=Ft hvY L.Yl;have hqy:=Nat.div_mul_le_self v (Y/4294967296);have e22:IntKind.u64.wrap ((v:Int).tdiv ((Y/4294967296:Nat):Int))=((v/(Y/4294967296):Nat):Int):=by
    rw[T8,Dc (by omega)]
   have e23:IntKind.u64.wrap ((v:Int)-IntKind.u64.wrap (((v/(Y/4294967296):Nat):Int)*((Y/4294967296:Nat):Int)))=((v-v/(Y/4294967296)*(Y/4294967296):Nat):Int):=by
    rw[<-Fv,If,Dc (by omega),aP hqy hv64]
   refine sZ 2100 ?_;refine AV e21 ?_;refine sZ 2200 ?_;refine AV e22 ?_;refine sZ 2300 ?_;refine AV e23 ?_;refine dR (λn=>⟨[(2,AS Y),(6,u64 0),(7,u64 0),(8,AS s),(9,AS (Y/4294967296)),(10,AS (Y%4294967296)),(11,AS u),(13,AS u1),(14,AS u0),(15,AS q1),(17,AS v),(18,AS ((v*4294967296+u0)/Y))],[],n⟩) ?_ λn=>?_
   ·refine AC.block ?_
    refine GL (α:=Nat×Nat×Nat) (λp=>⟨[(2,AS Y),(6,u64 0),(7,u64 0),(8,AS s),(9,AS (Y/4294967296)),(10,AS (Y%4294967296)),(11,AS u),(13,AS u1),(14,AS u0),(15,AS q1),(17,AS v),(18,AS p.1),(16,AS p.2.1)],[],p.2.2⟩) (λp=>p.1)
     (λp F'=>F'=F/\LB 4294967296 Y v u0 p.1 p.2.1/\p.2.1<4294967296) (_,_,_)
     ⟨rfl,J0,s0⟩ AL ?_
    rintro⟨q,r,m⟩ F' ⟨rfl,I,hr⟩;dsimp only at I hr⊢;have hq2:=I.q2;refine AC.seq ?_;obtain⟨b,hbt⟩:∃b:Bool,b=decide (4294967296<=q\/4294967296*r+u0<q*(Y%4294967296)):=⟨_,rfl⟩
    refine Dg ⟨[(2,AS Y),(6,u64 0),(7,u64 0),(8,AS s),(9,AS (Y/4294967296)),(10,AS (Y%4294967296)),(11,AS u),(13,AS u1),(14,AS u0),(15,AS q1),(17,AS v),(18,AS q),(16,AS r),(113,As b)],[],m+30⟩ ?_ ?_
    ·rcases BG q 4294967296 with hq|hq
     ·have e1:decide ((q:Int)>=4294967296)=false:=Ah (by omega)
      have hqy:q*(Y%4294967296)<=4294967295*4294967295:=IU (by omega) (by omega);have k1:IntKind.u64.wrap ((q:Int)*((Y%4294967296:Nat):Int))=((q*(Y%4294967296):Nat):Int):=by
       rw[<-Fv,If,Dc (by omega)]
      have k2:IntKind.u64.wrap (4294967296*(r:Int))=((4294967296*r:Nat):Int):=by rw[wU (by omega) (by omega)];omega
      have k3:IntKind.u64.wrap (((4294967296*r:Nat):Int)+(u0:Int))=((4294967296*r+u0:Nat):Int):=by rw[wU (by omega) (by omega)];omega
      have k4:decide (((q*(Y%4294967296):Nat):Int)>((4294967296*r+u0:Nat):Int))=b:=by
       rw[hbt];exact Cz.2 ⟨λh=>Or.inr (by omega),λh=>by rcases h with h|h<;>omega⟩
      refine Aq w1 2400 (by kernel_rfl) ?_;refine AE e1 ?_;refine AE (CM kF k1 k2 k3 k4) ?_;exact And.intro (by trivial) (AL)
     ·have e1:decide ((q:Int)>=4294967296)=true:=AY (by omega)
      have hb:b=true:=by rw[hbt];exact AY (Or.inl hq)
      subst hb;refine Aq w1 2400 (by kernel_rfl) ?_;refine AE e1 ?_;refine AE kT ?_;exact And.intro (by trivial) (AL)
    ·cases b
     ·have hc:=DN hbt.symm
      have hq:=SJ I (by omega);subst hq;refine AO ?_;refine CA ?_;exact⟨rfl,_,AL⟩
     ·have hc:=DA hbt.symm
      obtain⟨hq0,I2⟩:=WB (by decide) hvY hu0 I hc;have hq3:=I2.q2;have k1:IntKind.u64.wrap ((q:Int)-1)=((q-1:Nat):Int):=by rw[wU (by omega) (by omega)];omega
      have k2:IntKind.u64.wrap ((r:Int)+((Y/4294967296:Nat):Int))=((r+Y/4294967296:Nat):Int):=by rw[wU (by omega) (by omega)];omega
      refine AO ?_;refine Ap ?_;refine AC.block ?_;refine sZ 2500 ?_;refine AV k1 ?_;refine sZ 2600 ?_;refine AV k2 ?_;refine sR 2700 ?_;refine AO ?_
      (refine Bv (λh120=>?_) (λh120=>?_))<;>(try simp only[Bi,Bs]at h120)<;>(try simp only[h120])
      ·have hq:=VZ (by decide) I2 (by omega) (by have:=DA h120;omega)
       rw[hq];refine CA ?_;exact⟨rfl,_,AL⟩
      ·refine Ap ?_
       refine⟨(q-1,r+Y/4294967296,_),⟨rfl,I2,by have:=DN h120;dsimp only;omega⟩,by dsimp only;omega,AL⟩
   ·have e28:=WZ v u0 _ Y hY0 L.Yl rfl
    have hm28:(v*4294967296+u0)%Y<Y:=B5 _ hY0;have q2l:(v*4294967296+u0)/Y<4294967296:=by
     refine E3 ?_
     have:(v+1)*4294967296<=Y*4294967296:=CI _ hvY
     rw[Bu]at this;omega
    have k1:=fK q1 ((v*4294967296+u0)/Y) q1l q2l;have k2:=M0 ((v*4294967296+u0)%Y) s (by omega);rw[tr.1]at k1;rw[tr.2]at k2;refine sZ 2800 ?_;refine AE (At k1 e28 k2) ?_;refine Al ?_;exact AN rfl AA.out
theorem Vg {n2 v1 P U V q:Nat}(hU:U<(n2+1)*P)(hV:v1*P<=V)(hq:n2+1<=(q+1)*v1):U<(q+1)*V:=by
 have h1:=CI P hq;have h2:=Cd (q+1) hV;rw[Bw]at h1;omega
theorem Vt {n3 D P U V q:Nat}(hU:U<(n3+1)*P)(hV:D*P<=V)(hq:n3<q*D):U<q*V:=by
 have h1:=CI P (show n3+1<=q*D from hq);have h2:=Cd q hV;rw[Bw]at h1;omega
theorem WP {n3 D P U V q B v:Nat}(hU:n3*P<=U)(hV:V=D*P+v)(hv:v<P)(hq:q*D<=n3)(hqB:q<=B)(hD:B<=D):q*V<=U+V:=by
 have h1:=CI P hq;rw[Bw]at h1;have h2:q*v<=B*P:=IU hqB (by omega);have h3:=CI P hD;have h4:q*V=q*(D*P)+q*v:=by rw[hV,BM]
 omega
theorem Vc {c x s:Nat}(hs:s<=63)(hc:c<2^s)(hx:x<18446744073709551616):
  c |||(x*2^s%18446744073709551616)=c+x*2^s%18446744073709551616/\c+x*2^s%18446744073709551616<18446744073709551616 /\
   c+x*2^s%18446744073709551616+18446744073709551616*(x/2^(64-s))=c+x*2^s/\x/2^(64-s)<2^s:=by
 have hp:0<2^s:=Gj s;have hpp:2^(64-s)*2^s=18446744073709551616:=by
  rw[<-Fw,show 64-s+s=64 by omega]
 have hl:x*2^s/18446744073709551616=x/2^(64-s):=by
  rw[<-hpp,PA _ _ hp]
 have hm:x*2^s%18446744073709551616=x%2^(64-s)*2^s:=by
  rw[<-hpp,PB]
 have hl2:x/2^(64-s)<2^s:=E3 (by rw[hpp];exact hx);have e:=EU (x*2^s) 18446744073709551616;rw[hl]at e;have ho:c |||(x*2^s%18446744073709551616)=c+x*2^s%18446744073709551616:=by
  rw[hm,Nat.or_comm,Tu hc,Kp]
 have hlt:c+x*2^s%18446744073709551616<18446744073709551616:=by
  rw[hm]
  have:(x%2^(64-s)+1)*2^s<=2^(64-s)*2^s:=CI _ (B5 _ (Gj _))
  rw[hpp,Bu]at this;omega
 exact⟨ho,hlt,by omega,hl2⟩
structure Qy (w out:List Nat)(s i c:Nat):Prop where
 le:i<=w.length
 len:out.length=w.length+1
 wd:Wd out
 val:AT out=AT (w.take i)*2^s
 at_:out[i]?=some c
 cl:c<2^s
 zero:∀k,i<k->∀d,out[k]?=some d->d=0
theorem nv {w out:List Nat}{s i c x:Nat}(hs:s<=63)(hw:Wd w)(hi:i<w.length)(hx:w[i]?=some x)(I:Qy w out s i c):
  Qy w ((out.set i (c+x*2^s%18446744073709551616)).set (i+1) (x/2^(64-s))) s (i+1) (x/2^(64-s)):=by
 have hxl:x<BB:=hw x (A0 hx);obtain⟨_,d2,d3,d4⟩:=Vc hs I.cl hxl;obtain⟨z,hz⟩:∃z,out[i+1]?=some z:=⟨out[i+1]'(by have:=I.len;omega),BI _⟩
 have hz0:=I.zero _ (HF i) z hz;subst hz0;have s1:=JH (d:=c+x*2^s%18446744073709551616) I.at_;have hz1:(out.set i (c+x*2^s%18446744073709551616))[i+1]?=some 0:=by rw[IS (by omega)];exact hz
 have s2:=JH (d:=x/2^(64-s)) hz1;have hbx:AT (w.take (i+1))=AT (w.take i)+BB^i*x:=by rw[E7 hx,GW (i:=i) (by rw[Bf];omega)]
 have hhi:x/2^(64-s)<BB:=DW (Gi _ _) hxl;refine⟨by omega,by rw[C9,C9];exact I.len,(I.wd.set d2).set hhi,?_,?_,d4,λk hk d hd=>?_⟩
 ·have e1:BB^(i+1)*(x/2^(64-s))=BB^i*(18446744073709551616*(x/2^(64-s))):=by rw[CL,Bw]
  have e2:BB^i*(c+x*2^s%18446744073709551616+18446744073709551616*(x/2^(64-s)))=BB^i*(c+x*2^s):=by rw[d3]
  rw[BM,BM _ c (x*2^s)]at e2;rw[hbx,Bu,<-I.val,Bw];omega
 ·rw[O8 (by rw[C9];have:=I.len;omega)]
 ·rw[IS (by omega),IS (by omega)]at hd
  exact I.zero k (by omega) d hd
def Up (w:List Nat)(s:Nat)(H:Hp)(n:Nat)(d:D)(H':Hp)(n':Nat):Prop:=
 ∃(out:List Nat) (g:Nat),out.length=w.length+1/\Wd out/\AT out=AT w*2^s/\d=.osl 103 g 1 0 (w.length+1)/\H'=⟨103,g,225,1,out.map AS⟩::H/\n<=n'
theorem WD (w:List Nat)(s:Nat)(hs:s<=63)(hw:Wd w)(hl:w.length<4000000)(H:Hp)(n:Nat):CO C0 256 [wL w,i64 s] H n (Up w s H n):=by
 refine CO.walk w1 aX rfl λF=>?_
 unfold wL;have ew:(((w.map AS).length:Nat):Int)=(w.length:Int):=by rw[Am]
 have wl:IntKind.i64.wrap ((w.length:Int)+1)=((w.length+1:Nat):Int):=by rw[wI (by omega) (by omega)];omega
 have r3:List.replicate (w.length+1) (ofV (.int .u64 0))=(List.replicate (w.length+1) 0).map AS:=by rw[Js];rfl
 refine sR 0 ?_;refine sZ 100 ?_;refine AV (At ew wl kN) ?_;refine AC.seq ?_;refine sZ 200 ?_;refine AV ew ?_;obtain⟨g,hg⟩:∃g,g=n+1+1+1+1:=⟨_,rfl⟩
 rw[<-hg];have I0:Qy w (List.replicate (w.length+1) 0) s 0 0:=⟨BU _,by simp,MM _,by simp[AT,Pc],by simp,Gj s,λk _ d hd=>O5 (A0 hd)⟩
 refine AC.weak ⟨[(0,.sl false 1 (w.map AS)),(1,i64 s),(4,CK),(5,.osl 103 g 1 0 (w.length+1)),(12,.sl false 1 (w.map AS)),(13,i64 w.length),(14,i64 0)],⟨103,g,225,1,(List.replicate (w.length+1) 0).map AS⟩::H,n+30⟩ (by rw[<-r3];exact AL) ?_;refine AC.block ?_;refine AC.loop (α:=Nat×Nat×List Nat×Nat) (λp=>⟨[(0,.sl false 1 (w.map AS)),(1,i64 s),(4,CK),(5,.osl 103 g 1 0 (w.length+1)),(12,.sl false 1 (w.map AS)),(13,i64 w.length),(14,i64 p.1)],⟨103,g,225,1,p.2.2.1.map AS⟩::H,p.2.2.2⟩) (λp=>w.length-p.1)
  (λp=>Qy w p.2.2.1 s p.1 p.2.1/\n<=p.2.2.2) (0,0,List.replicate (w.length+1) 0,n+30)
  ⟨I0,Nat.le_add_right _ _⟩ AL ?_
 rintro⟨i,c,o,m⟩ F ⟨I,hm⟩;dsimp only at I hm⊢;refine sR 300 ?_;refine AC.seq ?_;refine AO ?_
 (refine Bv (λh15=>?_) (λh15=>?_))<;>(try simp only[Bi,Bs]at h15)<;>(try simp only[h15])
 ·have hi:i<w.length:=by simpa using h15
  obtain⟨x,hx⟩:∃x,w[i]?=some x:=⟨w[i],BI hi⟩
  have hx':=DQ hx;have hc':=DQ I.at_;have hxl:x<BB:=hw x (A0 hx);obtain⟨d1,d2,d3,d4⟩:=Vc hs I.cl hxl;have J:=nv hs hw hi hx I;have e5:Gu .or .u64 (c:Int) (Kh .u64 (x:Int) (s:Int))=((c+x*2^s%18446744073709551616:Nat):Int):=by
   rw[OX x s hs,Ur _ _ (by omega) (B5 _ (by decide)),d1]
  refine Ap ?_;refine AC.seq ?_;refine AC.block ?_;refine sR 400 ?_;refine Br kT hx' ?_;refine BO ?_;refine AC.seq ?_;refine B8 w1 500 [0,1,2,3,4,5,6] [7,8,9] (by kernel_rfl) ?_;refine AE (BW e5 kN BP hc') ?_;refine D4 rfl rfl ?_;refine Mp rfl rfl rfl hc' ?_;refine AE @map_set ?_;refine AC.seq ?_;obtain⟨z,hz⟩:∃z,o[i+1]?=some z:=⟨o[i+1]'(by have:=I.len;omega),BI _⟩
  have hz0:=I.zero _ (HF i) z hz;subst hz0;have hz1:(o.set i (c+x*2^s%18446744073709551616))[i+1]?=some 0:=by rw[IS (by omega)];exact hz
  have hz':=DQ hz1;have wi:IntKind.i64.wrap ((i:Int)+1)=((i+1:Nat):Int):=wI (by omega) (by omega);rcases Db s with hs0|hs0
  ·have e1:decide ((s:Int)>0)=false:=Ah (by omega)
   have hx0:x/2^(64-s)=0:=by rw[hs0];exact HE hxl
   have hset:(o.set i (c+x*2^s%18446744073709551616)).set (i+1) 0=o.set i (c+x*2^s%18446744073709551616):=by
    refine O3 λk=>?_
    rcases Nat.decEq (i+1) k with hk|hk
    ·rw[IS hk]
    ·subst hk
     rw[O8 (by have:=(List.getElem?_eq_some_iff.1 hz1).1;exact this),hz1]
   rw[hx0,hset]at J;refine Aq w1 600 (by kernel_rfl) ?_;refine AV e1 ?_;refine AO ?_;refine Ap ?_;refine Aq w1 800 (by kernel_rfl) ?_;refine AV wi ?_;refine⟨(i+1,0,o.set i (c+x*2^s%18446744073709551616),m+200),⟨J,by dsimp only;omega⟩,by dsimp only;omega,AL⟩
  ·have e1:decide ((s:Int)>0)=true:=AY (by omega)
   have w64:IntKind.i64.wrap (64-(s:Int))=((64-s:Nat):Int):=by rw[wI (by omega) (by omega)];omega
   have w640:(0:Int)<=IntKind.i64.wrap (64-(s:Int)):=by rw[w64];omega
   have e36:=M0 x (64-s) (by omega);refine Aq w1 600 (by kernel_rfl) ?_;refine AV e1 ?_;refine AO ?_;refine Aq w1 700 (by kernel_rfl) ?_;refine AE (D2 wi w64 e36 kN BP hz') ?_
   try rw[map_set]
   refine Aq w1 800 (by kernel_rfl) ?_;refine AV wi ?_;refine⟨(i+1,x/2^(64-s),(o.set i (c+x*2^s%18446744073709551616)).set (i+1) (x/2^(64-s)),m+200),⟨J,by dsimp only;omega⟩,by dsimp only;omega,AL⟩
 ·have hi:i=w.length:=by
   have:¬i<w.length:=by simpa using h15
   have:=I.le
   omega
  subst hi;have hv:=I.val;rw[B9 (Ai _)]at hv;refine CA ?_;refine sR 900 ?_;refine Al ?_;exact⟨o,g,I.len,I.wd,hv,rfl,rfl,by omega⟩
section
variable {C:A8} {B F:Ab} {s:St} {rd:Option Nat} {Q:Exit->Ab->St->Prop}
theorem Cu {a b:Code}{α:Type}(S:α->St)(J:α->Prop)(h1:AC C B rd F a s (λe F1 s1=>Is (F1=F/\∃x,J x/\Wk s1 (S x)) (λe=>Q e F1 s1) e))(h2:∀x,J x->AC C B rd F b (S x) Q):AC C B rd F (.seq a b) s Q:=
 AC.seq (h1.mono λe F1 s1 h=>by
  cases e with
  |normal=>
   obtain⟨h0,x,hx,h3⟩:=(show F1=F/\∃x,J x/\Wk s1 (S x)from h)
   rw[h0];exact AC.weak (S x) h3 (h2 x hx)
  |ret=>exact h
  |exit j=>exact h
  |goto l=>exact h
  |panic c=>exact h
  |outgrown=>exact h)
end
theorem g8 {q v c:Nat}(hq:q<BB)(hv:v<BB)(hc:c<BB):
  (q*v%BB+c)%BB+BB*(q*v/BB+(q*v%BB+c)/BB)=q*v+c/\q*v/BB+(q*v%BB+c)/BB<BB:=by
 have hqv:q*v<=(18446744073709551616-1)*(18446744073709551616-1):=IU (by unfold BB at hq;omega) (by unfold BB at hv;omega);have hk:(18446744073709551616-1)*(18446744073709551616-1)=340282366920938463426481119284349108225:=by decide
 rw[hk]at hqv;generalize q*v=p at*;have e1:=El p BB;have e2:=El (p%BB+c) BB;have l1:=B5 p (show BB>0 by decide);have l2:=B5 (p%BB+c) (show BB>0 by decide);unfold BB at*;generalize p/18446744073709551616=A at*;generalize p%18446744073709551616=D at*;generalize(D+c)/18446744073709551616=E at*;generalize(D+c)%18446744073709551616=G at*;omega
theorem CS {l:List Nat}{i:Nat}(h:i<l.length):∃a,l[i]?=some a:=⟨l[i],BI h⟩
theorem Uk {l:List Nat}{k a:Nat}(hl:l.length=k+1)(ha:l[k]?=some a):AT l=AT (l.take k)+BB^k*a:=by
 rw[KJ ha,HG (by omega)];simp[AT]
theorem xO {l:List Nat}{k a b:Nat}(hl:l.length=k+2)(ha:l[k]?=some a)(hb:l[k+1]?=some b):AT l=AT (l.take k)+BB^k*(a+BB*b):=by
 rw[KJ ha]
 have:l.drop (k+1)=[b]:=by
  rw[EI (by omega),HG (by omega)]
  congr 1
  exact(List.getElem?_eq_some_iff.1 hb).2
 rw[this];simp[AT]
theorem xP {l:List Nat}{k a b c:Nat}(hl:l.length=k+3)(ha:l[k]?=some a)(hb:l[k+1]?=some b)(hc:l[k+2]?=some c):AT l=AT (l.take k)+BB^k*(a+BB*(b+BB*c)):=by
 rw[KJ ha];have h1:=Uk (l:=l.drop (k+1)) (k:=1) (a:=c) (by rw[Dz];omega) (by rw[HH,EW];exact hc);have h2:(l.drop (k+1)).take 1=[b]:=by
  rw[EI (by omega)];simp only[List.take_succ_cons,NF]
  congr 1
  exact(List.getElem?_eq_some_iff.1 hb).2
 rw[h1,h2];simp[AT]
structure Mb (P v:List Nat)(m p0 p1 p2 v2 v1:Nat):Prop where
 lP:P.length=m+3
 lv:v.length=m+2
 wP:Wd P
 wv:Wd v
 h0:P[m]?=some p0
 h1:P[m+1]?=some p1
 h2:P[m+2]?=some p2
 g2:v[m]?=some v2
 g1:v[m+1]?=some v1
 top:0<v1
 less:AT P<AT v*BB
namespace Mb
variable {P v:List Nat} {m p0 p1 p2 v2 v1:Nat} (S:Mb P v m p0 p1 p2 v2 v1)
include S
theorem valP:AT P=AT (P.take m)+BB^m*(p0+BB*(p1+BB*p2)):=xP S.lP S.h0 S.h1 S.h2
theorem valv:AT v=AT (v.take m)+BB^m*(v2+BB*v1):=xO S.lv S.g2 S.g1
theorem lowP:AT (P.take m)<BB^m:=by
 have:=HO (S.wP.take m)
 rwa [Bf,E4 (by have:=S.lP;omega)]at this
theorem lowv:AT (v.take m)<BB^m:=by
 have:=HO (S.wv.take m)
 rwa [Bf,E4 (by have:=S.lv;omega)]at this
theorem p0l:p0<BB:=S.wP _ (A0 S.h0)
theorem p1l:p1<BB:=S.wP _ (A0 S.h1)
theorem p2l:p2<BB:=S.wP _ (A0 S.h2)
theorem v1l:v1<BB:=S.wv _ (A0 S.g1)
theorem v2l:v2<BB:=S.wv _ (A0 S.g2)
theorem below3:AT P<(p0+BB*(p1+BB*p2)+1)*BB^m:=by
 rw[S.valP,Bu,I3,BS (BB^m)]
 have:=S.lowP
 omega
theorem below2:AT P<(p1+BB*p2+1)*BB^(m+1):=by
 have h:=S.below3;have h1:=S.p0l;generalize p1+BB*p2=t at*;have h2:(p0+BB*t+1)*BB^m<=(BB*(t+1))*BB^m:=CI _ (by rw[BM BB t 1];omega);have h3:(t+1)*BB^(m+1)=(BB*(t+1))*BB^m:=by rw[CL,BS (BB^m) BB,<-Bw,BS (t+1) BB]
 omega
theorem abovev:v1*BB^(m+1)<=AT v:=by
 rw[S.valv,CL,BM]
 have:v1*(BB^m*BB)=BB^m*(BB*v1):=by rw[BS v1,Bw]
 omega
theorem abovev2:(v2+BB*v1)*BB^m<=AT v:=by
 rw[S.valv,BS];omega
theorem pos:0<AT v:=CV (HI S.top (Nat.pow_pos (by decide))) S.abovev
theorem p2v1:p2<=v1:=by
 rcases BG v1 p2 with h|h
 ·exfalso
  have e1:BB^(m+2)*p2<=AT P:=by
   rw[S.valP,BM,BM,BM]
   have:BB^(m+2)*p2=BB^m*(BB*(BB*p2)):=by rw[CL,CL,Bw,Bw]
   omega
  have e2:AT v<BB^(m+1)*(v1+1):=by
   have h1:=S.lowv;have h2:=S.v2l;have e3:BB^(m+1)*(v1+1)=BB^m*(BB*v1+BB):=by rw[CL,Bw,BM,EB]
   have e4:BB^m*(v2+BB*v1+1)<=BB^m*(BB*v1+BB):=Cd _ (by omega);rw[BM _ _ 1,EB]at e4;rw[S.valv,e3];omega
  have e5:BB^(m+1)*(v1+1)*BB=BB^(m+2)*(v1+1):=by rw[Nat.mul_right_comm,<-CL]
  have e6:BB^(m+2)*(v1+1)<=BB^(m+2)*p2:=Cd _ h;have e7:(AT v)*BB<=BB^(m+1)*(v1+1)*BB:=CI _ (Jr e2)
  have:=S.less
  omega
 ·exact h
end Mb
theorem i7 {B q v2 r c p0:Nat}(hq:q<B)(hv:v2<B)(h:0<c\/q*v2<=r*B+p0):q*v2<=(r+B*c)*B+p0:=by
 rcases h with h|h
 ·have h2:q*v2<=B*B:=IU (by omega) (by omega)
  have h4:B*1<=B*c:=Cd _ h;have h3:B*B<=(r+B*c)*B:=CI _ (by omega);omega
 ·have h3:r*B<=(r+B*c)*B:=CI _ (by omega)
  omega
structure LY (U V n2 v1 q r c:Nat):Prop where
 eq:q*v1+(r+BB*c)=n2
 up:U<(q+1)*V
 qB:q<BB
 rB:r<BB
 c1:c<=1
section
variable {P v:List Nat} {m p0 p1 p2 v2 v1:Nat} (S:Mb P v m p0 p1 p2 v2 v1)
include S
theorem i8 (h:v1<=p2):LY (AT P) (AT v) (p1+BB*p2) v1 18446744073709551615 ((p1+v1+0)%BB) ((p1+v1+0)/BB):=by
 have h1:p2=v1:=Nat.le_antisymm S.p2v1 h;have h2:=S.less;have h3:=S.p1l;have h4:=S.v1l;have e:=El (p1+v1+0) BB;refine⟨?_,?_,by decide,B5 _ (by decide),?_⟩
 ·rw[e,h1]
  show 18446744073709551615*v1+(p1+v1+0)=p1+18446744073709551616*v1;omega
 ·rw[BS];exact h2
 ·have:p1+v1+0<2*BB:=by omega
  exact ND (E3 (by rw[BS];exact this))
theorem fY (h:p2<v1):LY (AT P) (AT v) (p1+BB*p2) v1 ((p2*BB+p1)/v1) ((p2*BB+p1)%v1) 0:=by
 have c0:p2*BB+p1=p1+BB*p2:=by rw[BS,Kp]
 rw[c0];have e:=EU (p1+BB*p2) v1;have l:=B5 (p1+BB*p2) S.top;have h3:=S.p1l;have h4:=S.v1l;have c1:=BS v1 ((p1+BB*p2)/v1);refine⟨by omega,Vg S.below2 S.abovev ?_,?_,by omega,by decide⟩
 ·rw[Bu];omega
 ·refine E3 ?_
  have:BB*(p2+1)<=BB*v1:=Cd _ h
  rw[BM]at this;rw[BS v1];omega
theorem gH {q r:Nat}(G:LY (AT P) (AT v) (p1+BB*p2) v1 q r 0)(h:r*BB+p0<q*v2):
  0<q/\LY (AT P) (AT v) (p1+BB*p2) v1 (q-1) ((r+v1+0)%BB) ((r+v1+0)/BB):=by
 obtain⟨e,u,b,rb,_⟩:=G;rcases Db q with h0|h0
 ·subst h0;omega
 obtain⟨k,rfl⟩:∃k,q=k+1:=⟨q-1,by omega⟩
 have e1:=El (r+v1+0) BB;have h4:=S.v1l;have e2:(k+1)*(v2+BB*v1)=(k+1)*v2+BB*((k+1)*v1):=by rw[BM,IN]
 have hn3:p0+BB*(p1+BB*p2)<(k+1)*(v2+BB*v1):=by
  rw[e2,<-e,BM BB,EX,DY r,BS BB r];omega
 refine⟨by omega,⟨?_,?_,by omega,B5 _ (by decide),?_⟩⟩
 ·rw[IM,e1,<-e,Bu];omega
 ·rw[IM];exact Vt S.below3 S.abovev2 hn3
 ·have:r+v1+0<2*BB:=by omega
  exact ND (E3 (by rw[BS];exact this))
theorem Vs {q r c:Nat}(G:LY (AT P) (AT v) (p1+BB*p2) v1 q r c)(h:0<c\/q*v2<=r*BB+p0):q*AT v<=AT P+AT v:=by
 obtain⟨e,u,b,rb,c1⟩:=G;have h5:=S.v2l;have hq:q*v2<=(r+BB*c)*BB+p0:=i7 b h5 h;have e2:q*(v2+BB*v1)=q*v2+BB*(q*v1):=by rw[BM,IN]
 refine WP (n3:=p0+BB*(p1+BB*p2)) (D:=v2+BB*v1) (P:=BB^m) (B:=BB) (v:=AT (v.take m)) ?_ ?_ S.lowv ?_ (by omega) ?_
 ·rw[S.valP,BS];omega
 ·rw[S.valv,BS];omega
 ·rw[e2,<-e,BM BB]
  have:BB*(r+BB*c)=(r+BB*c)*BB:=BS _ _
  omega
 ·have:=S.top
  have h1:=Cd BB (show 1<=v1 from this);omega
end
theorem gI {x r p0:Nat}(hp:p0<BB):(x/BB<r\/x/BB=r/\x%BB<=p0)↔x<=r*BB+p0:=by
 have e:=EU x BB;have l:=B5 x (show 0<BB by decide);generalize x/BB=h at*;generalize x%BB=d at*;unfold BB at*;omega
theorem SO {U V q N:Nat}(h:N+q*V=U+0)(hu:U<(q+1)*V):U/V=q/\U%V=N:=by
 have h1:U=N+V*q:=by rw[BS];omega
 have h2:N<V:=by rw[Bu]at hu;omega
 subst h1;exact⟨by rw[Re _ _ (by omega),HE h2,BP],by rw[RW,Dc h2]⟩
theorem WS {U V q N N3 T c:Nat}(h:N+q*V=U+T)(hN:N<T)(hu:q*V<=U+V)(h3:N3+T*c=N+V)(hc:c<=1)(h3l:N3<T):0<q/\U/V=q-1/\U%V=N3:=by
 rcases Db q with h0|h0
 ·subst h0;omega
 obtain⟨k,rfl⟩:∃k,q=k+1:=⟨q-1,by omega⟩
 rw[Bu,I3]at h hu;have hc1:c=1:=by
  rcases Db c with h4|h4
  ·subst h4;omega
  ·omega
 subst hc1;have h5:N3+k*V=U+0:=by omega
 have h6:U<(k+1)*V:=by rw[Bu];omega
 obtain⟨a,b⟩:=SO h5 h6;exact⟨by omega,by rw[a];omega,b⟩
theorem eO {A P v:List Nat}{q i z x d b c b' c' lo:Nat}(hz:A[i]?=some z)(hx:v[i]?=some x)(hI:AT A+q*AT (v.take i)=AT P+BB^i*(c+b))
  (h1:lo+BB*c'=q*x+c) (h2:d+lo+b=z+BB*b'):AT (A.set i d)+q*AT (v.take (i+1))=AT P+BB^(i+1)*(c'+b'):=by
 have hs:=JH (d:=d) hz;have hi:i<v.length:=(List.getElem?_eq_some_iff.1 hx).1;rw[E7 hx,GW (i:=i) (by rw[Bf];omega),BM,IN q,CL,Bw];have e:BB^i*(d+q*x+(c+b))=BB^i*(z+BB*(c'+b')):=by congr 1;rw[BM BB];omega
 rw[BM,BM,BM (BB^i) z]at e;omega
theorem eQ {A P:List Nat}{i z d X b c b':Nat}(hz:A[i]?=some z)(hI:AT A+X=AT P+BB^i*(c+b))(h2:d+c+b=z+BB*b'):AT (A.set i d)+X=AT P+BB^(i+1)*b':=by
 have hs:=JH (d:=d) hz;rw[CL,Bw];have e:BB^i*(d+(c+b))=BB^i*(z+BB*b'):=by congr 1;omega
 rw[BM,BM (BB^i) z]at e;omega
theorem dx {A P v:List Nat}{i z x c:Nat}(hz:A[i]?=some z)(hx:v[i]?=some x)(hI:AT A+BB^i*c=AT P+AT (v.take i)):
  AT (A.set i ((z+x+c)%BB))+BB^(i+1)*((z+x+c)/BB)=AT P+AT (v.take (i+1)):=by
 have hs:=JH (d:=(z+x+c)%BB) hz;have hi:i<v.length:=(List.getElem?_eq_some_iff.1 hx).1;rw[E7 hx,GW (i:=i) (by rw[Bf];omega),CL,Bw];have e:BB^i*((z+x+c)%BB+BB*((z+x+c)/BB))=BB^i*(z+x+c):=by rw[El]
 rw[BM,BM,BM (BB^i) z]at e;omega
theorem eF {A:List Nat}{i z c X:Nat}(hz:A[i]?=some z)(hI:AT A+BB^i*c=X):
  AT (A.set i ((z+c)%BB))+BB^(i+1)*((z+c)/BB)=X:=by
 have hs:=JH (d:=(z+c)%BB) hz;rw[CL,Bw];have e:BB^i*((z+c)%BB+BB*((z+c)/BB))=BB^i*(z+c):=by rw[El]
 rw[BM,BM (BB^i) z]at e;omega
theorem LS {A P Z:List Nat}{i z:Nat}(h:P[i]?=some z):((A++(P++Z)).map AS)[A.length+i]?=some (AS z):=by
 have hi:i<P.length:=(List.getElem?_eq_some_iff.1 h).1;refine DQ ?_;rw[Ey (by omega),Ko,GO hi];exact h
theorem QR {A P Z:List Nat}{i d:Nat}(hi:i<P.length):((A++(P++Z)).map AS).set (A.length+i) (AS d)=(A++(P.set i d++Z)).map AS:=by
 rw[map_set,NH _ _ (by omega),Ko,List.set_append_left _ _ hi]
set_option maxHeartbeats 2000000
def ly (A P Z v:List Nat)(gq Tq gu:Nat)(qs:List D)(d:D)(H':Hp)(_:Nat):Prop:=
 ∃P':List Nat,P'.length=P.length/\Wd P'/\AT P'=AT P%AT v/\d=AS (AT P/AT v)/\H'=[⟨1505,gq,Tq,1,qs⟩,⟨103,gu,225,1,(A++(P'++Z)).map AS⟩]
theorem nj (A P Z v:List Nat)(m p0 p1 p2 v2 v1:Nat)(S:Mb P v m p0 p1 p2 v2 v1)(hm:A.length+m<4000000)(gq Tq gu:Nat)(qs:List D)(n:Nat):
  CO C0 257 [.osl 103 gu 1 A.length (m+3),wL v] [⟨1505,gq,Tq,1,qs⟩,⟨103,gu,225,1,(A++(P++Z)).map AS⟩] n (ly A P Z v gq Tq gu qs):=by
 refine CO.walk w1 aY rfl λF=>?_
 unfold wL;have hPl:=S.lP;have hvl:=S.lv;have ev:(((v.map AS).length:Nat):Int)=((m+2:Nat):Int):=by rw[Am,hvl]
 have k1:IntKind.i64.wrap (((m+2:Nat):Int)-1)=((m+1:Nat):Int):=by rw[wI (by omega) (by omega)];omega
 have k2:IntKind.i64.wrap (((m+2:Nat):Int)-2)=(m:Int):=by rw[wI (by omega) (by omega)];omega
 have hp0:=LS (A:=A) (Z:=Z) S.h0;have hp1:=LS (A:=A) (Z:=Z) S.h1;have hp2:=LS (A:=A) (Z:=Z) S.h2;have hv1:=DQ S.g1;have hv2:=DQ S.g2;have l0:=S.p0l;have l1:=S.p1l;have l2:=S.p2l;have lv1:=S.v1l;have lv2:=S.v2l;refine sR 0 ?_;refine sZ 100 ?_;refine AV ev ?_;refine sR 200 ?_;refine sR 300 ?_;refine Cu (α:=Nat×Nat×Nat×Nat) (λp=>⟨[(0,.osl 103 gu 1 A.length (m+3)),(1,.sl false 1 (v.map AS)),(5,i64 ((m+2:Nat):Int)),(6,AS p.1),(7,AS p.2.1),(8,AS p.2.2.1)],[⟨1505,gq,Tq,1,qs⟩,⟨103,gu,225,1,(A++(P++Z)).map AS⟩],p.2.2.2⟩)
  (λp=>LY (AT P) (AT v) (p1+BB*p2) v1 p.1 p.2.1 p.2.2.1) ?_ ?_
 ·refine AC.seq ?_
  refine B8 w1 400 [0,1,2,3,4,5,6,7,8] [9] (by kernel_rfl) ?_;refine AE (At kN k1 hp2) ?_;refine Br kT hv1 ?_;refine AE (At kN k1 hp2) ?_;rcases BG p2 v1 with h|h
  ·have e1:decide ((p2:Int)>=(v1:Int))=false:=Ah (by omega)
   have G:=fY S h;rw[e1];refine AO ?_;refine B8 w1 700 [0,1,2,3,4,5,6,7,8,9,10,11,12,13,14,15,16,17,18] [19] (by kernel_rfl) ?_;refine AE (BW kN k1 hp2 hp1) ?_;refine Br kT hv1 ?_;refine AE (BW kN k1 hp2 hp1) ?_;refine BX.same _ (XH p2 p1 v1 h l1 lv1) AJ ?_;refine BO ?_;exact⟨trivial,⟨(p2*BB+p1)/v1,(p2*BB+p1)%v1,0,_⟩,G,AL⟩
  ·have e1:decide ((p2:Int)>=(v1:Int))=true:=AY (by omega)
   have G:=i8 S h;rw[e1];refine AO ?_;refine sR 500 ?_;refine B8 w1 600 [0,1,2,3,4,5,6,7,8,9,10,11,12,13,14] [15] (by kernel_rfl) ?_;refine AE (BW kN k1 hp2 hp1) ?_;refine Br kT hv1 ?_;refine AE (BW kN k1 hp2 hp1) ?_;exact⟨trivial,⟨18446744073709551615,(p1+v1+0)%BB,(p1+v1+0)/BB,_⟩,G,AL⟩
 rintro⟨q0,r0,c0,n0⟩ G0;dsimp only at G0⊢;refine Cu (α:=Nat×Nat) (λp=>⟨[(0,.osl 103 gu 1 A.length (m+3)),(1,.sl false 1 (v.map AS)),(5,i64 ((m+2:Nat):Int)),(6,AS p.1)],[⟨1505,gq,Tq,1,qs⟩,⟨103,gu,225,1,(A++(P++Z)).map AS⟩],p.2⟩)
  (λp=>p.1<BB/\AT P<(p.1+1)*AT v/\p.1*AT v<=AT P+AT v) ?_ ?_
 ·refine AC.block ?_
  refine GL (α:=Nat×Nat×Nat×Nat) (λp=>⟨[(0,.osl 103 gu 1 A.length (m+3)),(1,.sl false 1 (v.map AS)),(5,i64 ((m+2:Nat):Int)),(6,AS p.1),(7,AS p.2.1),(8,AS p.2.2.1)],[⟨1505,gq,Tq,1,qs⟩,⟨103,gu,225,1,(A++(P++Z)).map AS⟩],p.2.2.2⟩)
   (λp=>p.1) (λp F'=>F'=F/\LY (AT P) (AT v) (p1+BB*p2) v1 p.1 p.2.1 p.2.2.1) (q0,r0,c0,n0) ⟨rfl,G0⟩ AL ?_
  rintro⟨q,r,c,n1⟩ F' ⟨rfl,G⟩;dsimp only at G⊢;refine AC.seq ?_;refine AC.seq ?_;rcases Db c with hc|hc
  ·subst hc
   have e8:(((0:Nat):Int)==0)=true:=rfl;refine Aq w1 800 (by kernel_rfl) ?_;refine AV e8 ?_;refine AO ?_;refine Ap ?_;refine AC.block ?_;have lq:=G.qB;have cm:=Nu q v2 lq lv2;refine sZ 900 ?_;refine AE (Ac kN k2) ?_;refine Br kT hv2 ?_;refine AE (Ac kN k2) ?_;refine BF.same _ cm AJ ?_;refine BO ?_;have ht:=gI (x:=q*v2) (r:=r) l0;obtain⟨b,hb⟩:∃b:Bool,b=decide (q*v2<=r*BB+p0):=⟨_,rfl⟩
   refine AC.seq ?_;refine Dg ⟨[(0,.osl 103 gu 1 A.length (m+3)),(1,.sl false 1 (v.map AS)),(5,i64 ((m+2:Nat):Int)),(6,AS q),(7,AS r),(91,As b)],[⟨1505,gq,Tq,1,qs⟩,⟨103,gu,225,1,(A++(P++Z)).map AS⟩],n1+100⟩ ?_ ?_
   ·change(q*v2/18446744073709551616<r\/q*v2/18446744073709551616=r/\q*v2%18446744073709551616<=p0)↔_ at ht
    generalize q*v2/18446744073709551616=hi at*;generalize q*v2%18446744073709551616=lo at*;rcases BG hi r with h|h
    ·have e1:decide ((hi:Int)<(r:Int))=true:=AY (by omega)
     have hb1:b=true:=by rw[hb];exact AY (ht.1 (.inl h))
     subst hb1;refine Aq w1 1000 (by kernel_rfl) ?_;refine AE e1 ?_;refine AE kT ?_;exact And.intro (by trivial) (AL)
    ·have e1:decide ((hi:Int)<(r:Int))=false:=Ah (by omega)
     rcases Nat.eq_or_lt_of_le h with h2|h2
     ·have e2:((hi:Int)==(r:Int))=true:=EA.2 (by omega)
      have e3:decide ((lo:Int)<=(p0:Int))=b:=by
       rw[hb];exact Cz.2 ⟨λh3=>ht.1 (.inr ⟨h2.symm,by omega⟩),λh3=>by rcases ht.2 h3 with h4|h4<;>omega⟩
      refine Aq w1 1000 (by kernel_rfl) ?_;refine AE e1 ?_;refine AE (Ac kF e2) ?_;refine AE (D2 kF e2 kN k2 hp0 e3) ?_;exact And.intro (by trivial) (AL)
     ·have e2:((hi:Int)==(r:Int))=false:=Bq.2 (by omega)
      have hb1:b=false:=by rw[hb];exact Ah λh3=>by rcases ht.2 h3 with h4|h4<;>omega
      subst hb1;refine Aq w1 1000 (by kernel_rfl) ?_;refine AE e1 ?_;refine AE kF ?_;simp only[e2];refine AE (Ac kF Hi) ?_;exact And.intro (by trivial) (AL)
   ·cases b
    ·have hn:=DN hb.symm
     obtain⟨hq0,G2⟩:=gH S G (by omega);have j1:IntKind.u64.wrap ((q:Int)-1)=((q-1:Nat):Int):=by rw[wU (by omega) (by have:=G.qB;unfold BB at this;omega)];omega
     refine AO ?_;refine Ap ?_;refine sZ 1100 ?_;refine AV j1 ?_;refine Aq w1 1200 (by kernel_rfl) ?_;refine AE (Ac kN k1) ?_;refine Br kT hv1 ?_;refine AE (Ac kN k1) ?_;exact⟨(q-1,(r+v1+0)%BB,(r+v1+0)/BB,_),⟨trivial,G2⟩,by dsimp only;omega,AL⟩
    ·have hn:=DA hb.symm
     refine AO ?_;refine CA ?_;exact⟨rfl,⟨q,_⟩,⟨G.qB,G.up,Vs S G (.inr hn)⟩,AL⟩
  ·have e8:((c:Int)==0)=false:=Bq.2 (by omega)
   refine Aq w1 800 (by kernel_rfl) ?_;refine AV e8 ?_;refine AO ?_;refine CA ?_;exact⟨rfl,⟨q,_⟩,⟨G.qB,G.up,Vs S G (.inl hc)⟩,AL⟩
 rintro⟨q,n1⟩ ⟨hq,hup,hdn⟩;dsimp only at hq hup hdn⊢;clear hp0 hp1 hp2;refine sR 1300 ?_;refine AC.seq ?_;refine sR 1400 ?_;refine AC.block ?_;refine AC.loop (α:=Nat×Nat×Nat×List Nat×Nat) (λp=>⟨[(0,.osl 103 gu 1 A.length (m+3)),(1,.sl false 1 (v.map AS)),(5,i64 ((m+2:Nat):Int)),(6,AS q),(11,AS p.2.1),(12,AS p.2.2.1),(104,i64 ((m+2:Nat):Int)),(105,i64 p.1)],[⟨1505,gq,Tq,1,qs⟩,⟨103,gu,225,1,(A++(p.2.2.2.1++Z)).map AS⟩],p.2.2.2.2⟩) (λp=>m+2-p.1)
  (λp=>p.1<=m+2/\p.2.1<=1/\p.2.2.1<BB/\p.2.2.2.1.length=m+3/\Wd p.2.2.2.1/\AT p.2.2.2.1+q*AT (v.take p.1)=AT P+BB^p.1*(p.2.2.1+p.2.1)) (0,0,0,P,_) ⟨BU _,BU _,(show 0<BB by decide),hPl,S.wP,by simp[AT]⟩ AL ?_
 rintro⟨i,b,c,p,n2⟩ F ⟨hi,hb,hc,hpl,hpw,hI⟩;dsimp only at hi hb hc hpl hpw hI⊢;have hv1':=hv1;clear hv1 hv2;refine sR 1500 ?_;refine AC.seq ?_;refine AO ?_
 (refine Bv (λhlt=>?_) (λhlt=>?_))<;>(try simp only[Bi,Bs]at hlt)<;>(try simp only[hlt])
 ·have hi2:i<m+2:=by
   have:=DA hlt
   omega
  obtain⟨x,hx⟩:=CS (l:=v) (i:=i) (by omega);have hx':=DQ hx;have hxl:x<BB:=S.wv x (A0 hx);obtain⟨z,hz⟩:=CS (l:=p) (i:=i) (by omega);have hz':=LS (A:=A) (Z:=Z) hz;have hzl:z<BB:=hpw z (A0 hz);have cm:=Nu q x hq hxl;have md:=g8 hq hxl hc;obtain⟨h,l,lo,k,c',eh,el,elo,ek,ec,hlo,hc',hmd⟩:∃h l lo k c',q*x/18446744073709551616=h/\q*x%18446744073709551616=l/\(l+c+0)%18446744073709551616=lo/\(l+c+0)/18446744073709551616=k/\h+k=c'/\lo<BB/\c'<BB/\lo+BB*c'=q*x+c:=
   ⟨_,_,_,_,_,rfl,rfl,rfl,rfl,rfl,B5 _ (by decide),md.2,md.1⟩
  rw[eh,el]at cm;have j1:IntKind.u64.wrap ((h:Int)+(k:Int))=(c':Int):=by rw[<-Int.natCast_add,ec];exact VA hc'
  have hsub:=Sx (a:=z) (b:=lo) hb;have hdig:=SQ hzl hlo hb;have hb':(if z<lo+b then 1 else 0)<=1:=by split<;>decide
  have hd:(z+BB-lo-b)%BB<BB:=B5 _ (by decide);generalize(if z<lo+b then 1 else 0)=b' at*;generalize(z+BB-lo-b)%BB=d at*;have wi:IntKind.i64.wrap ((i:Int)+1)=((i+1:Nat):Int):=wI (by omega) (by omega);refine Ap ?_;refine AC.seq ?_;refine AC.block ?_;refine sR 1600 ?_;refine sZ 1700 ?_;refine AE kN ?_;refine Br kT hx' ?_;refine AE kN ?_;refine BF.same _ cm AJ ?_;refine BO ?_;refine sR 1800 ?_;refine sZ 1900 ?_;refine AV (Ac elo ek) ?_;refine sZ 2000 ?_;refine AV j1 ?_;refine Aq w1 2100 (by kernel_rfl) ?_;refine AE (Ac kN hz') ?_
  first|(refine D4 rfl rfl ?_;refine QV rfl rfl (hsub) ?_)|(refine Eb rfl rfl ?_;refine OC rfl rfl (hsub) ?_)
  refine AE (Ac kN hz') ?_;rw[QR (by omega)];refine Aq w1 2200 (by kernel_rfl) ?_;refine AV wi ?_;exact⟨(i+1,b',c',p.set i d,_),⟨hi2,hb',hc',by dsimp only;rw[C9];exact hpl,hpw.set hd,eO hz hx hI hmd hdig⟩,by dsimp only;omega,AL⟩
 ·have hi2:i=m+2:=by
   have:=DN hlt
   omega
  subst hi2;rw[B9 (by omega)]at hI;obtain⟨z,hz⟩:=CS (l:=p) (i:=m+2) (by omega);have hz':=LS (A:=A) (Z:=Z) hz;have hzl:z<BB:=hpw z (A0 hz);have hsub:=Sx (a:=z) (b:=c) hb;have hdig:=SQ hzl hc hb;have hb':(if z<c+b then 1 else 0)<=1:=by split<;>decide
  have hd:(z+BB-c-b)%BB<BB:=B5 _ (by decide);generalize(if z<c+b then 1 else 0)=b' at*;generalize(z+BB-c-b)%BB=d at*;have hT:=eQ hz hI hdig;have hml:m+2<p.length:=by omega
  refine CA ?_;refine sZ 2300 ?_;refine AE (Ac kN hz') ?_
  first|(refine D4 rfl rfl ?_;refine QV rfl rfl (hsub) ?_)|(refine Eb rfl rfl ?_;refine OC rfl rfl (hsub) ?_)
  refine AE (Ac kN hz') ?_;rw[QR hml];have hpl2:(p.set (m+2) d).length=m+3:=by rw[C9];exact hpl
  have hpw2:=hpw.set (i:=m+2) hd;clear hz' hz hdig hsub hI;generalize p.set (m+2) d=p2 at*;refine AC.seq ?_;refine AC.seq ?_;rcases Db b' with hb0|hb0
  ·subst hb0
   have e24:(((0:Nat):Int)==0)=true:=rfl;obtain⟨ed,em⟩:=SO hT hup;refine Aq w1 2400 (by kernel_rfl) ?_;refine AV e24 ?_;refine AO ?_;refine sR 2500 ?_;refine Al ?_;exact⟨p2,by omega,hpw2,em.symm,by rw[ed],rfl⟩
  ·have hb1:b'=1:=by omega
   subst hb1;have e24:(((1:Nat):Int)==0)=false:=rfl;have hpL:=HO hpw2;rw[hpl2]at hpL;refine Aq w1 2400 (by kernel_rfl) ?_;refine AV e24 ?_;refine AO ?_;refine Ap ?_;refine sR 2600 ?_;refine AC.seq ?_;refine sR 2700 ?_;refine AC.block ?_;refine AC.loop (α:=Nat×Nat×List Nat×Nat) (λp=>⟨[(0,.osl 103 gu 1 A.length (m+3)),(1,.sl false 1 (v.map AS)),(5,i64 ((m+2:Nat):Int)),(6,AS q),(17,AS p.2.1),(156,i64 ((m+2:Nat):Int)),(157,i64 p.1)],[⟨1505,gq,Tq,1,qs⟩,⟨103,gu,225,1,(A++(p.2.2.1++Z)).map AS⟩],p.2.2.2⟩) (λp=>m+2-p.1)
    (λp=>p.1<=m+2/\p.2.1<=1/\p.2.2.1.length=m+3/\Wd p.2.2.1/\AT p.2.2.1+BB^p.1*p.2.1=AT p2+AT (v.take p.1)) (0,0,p2,_) ⟨BU _,BU _,hpl2,hpw2,by simp[AT]⟩ AL ?_
   rintro⟨i,c3,p3,n3⟩ F ⟨hi,hc3,hpl3,hpw3,hI⟩;dsimp only at hi hc3 hpl3 hpw3 hI⊢;refine sR 2800 ?_;refine AC.seq ?_;refine AO ?_
   (refine Bv (λhlt=>?_) (λhlt=>?_))<;>(try simp only[Bi,Bs]at hlt)<;>(try simp only[hlt])
   ·have hi2:i<m+2:=by
     have:=DA hlt
     omega
    obtain⟨x,hx⟩:=CS (l:=v) (i:=i) (by omega);have hx':=DQ hx;have hxl:x<BB:=S.wv x (A0 hx);obtain⟨z,hz⟩:=CS (l:=p3) (i:=i) (by omega);have hz':=LS (A:=A) (Z:=Z) hz;have hzl:z<BB:=hpw3 z (A0 hz);have hadd:=W9 (a:=z) (b:=x) hc3;have J:=dx hz hx hI;have hs:(z+x+c3)%BB<BB:=B5 _ (by decide);have hc':(z+x+c3)/BB<=1:=by
     have:z+x+c3<2*BB:=by omega
     exact ND (E3 (by rw[BS];exact this))
    generalize(z+x+c3)%BB=d at*;generalize(z+x+c3)/BB=c' at*;have wi:IntKind.i64.wrap ((i:Int)+1)=((i+1:Nat):Int):=wI (by omega) (by omega);refine Ap ?_;refine AC.seq ?_;refine AC.block ?_;refine sR 2900 ?_;refine Ov w1 3000 [0,1,2,3,4,5,6,7,8,9,10,11,12,13,14,15,16] [17] 16 [12,10,9,8,7,6,5,4,3,2,1,0,11,13,15] (103) (by kernel_rfl) (by kernel_rfl) ?_;refine Aw ?_;refine L8 (Ac kN hz') ?_;refine MH rfl rfl rfl rfl ?_;refine Mo (λ_ _=>rfl) (by exact B6) ⟨rfl,by omega⟩ hx' ?_
    try dsimp only[D.cells,spot]
    refine L8 (Ac kN hz') ?_;refine MH rfl rfl rfl rfl ?_;refine OC rfl rfl hadd ?_;refine L8 (Ac kN hz') ?_;refine And.intro (by first|exact Or.inl AB|exact Or.inl rfl) ?_;refine AE kN ?_;rw[QR (by omega)];refine Aq w1 3100 (by kernel_rfl) ?_;refine AV wi ?_;exact⟨(i+1,c',p3.set i d,_),⟨hi2,hc',by dsimp only;rw[C9];exact hpl3,hpw3.set hs,J⟩,by dsimp only;omega,AL⟩
   ·have hi2:i=m+2:=by
     have:=DN hlt
     omega
    subst hi2;rw[B9 (l:=v) (by omega)]at hI;obtain⟨z,hz⟩:=CS (l:=p3) (i:=m+2) (by omega);have hz':=LS (A:=A) (Z:=Z) hz;have hzl:z<BB:=hpw3 z (A0 hz);have J:=eF hz hI;have hs:(z+c3)%BB<BB:=B5 _ (by decide);have hc':(z+c3)/BB<=1:=by
     have:z+c3<2*BB:=by omega
     exact ND (E3 (by rw[BS];exact this))
    have j1:IntKind.u64.wrap ((z:Int)+(c3:Int))=(((z+c3)%BB:Nat):Int):=by rw[<-Int.natCast_add];exact If _
    generalize(z+c3)%BB=d at*;generalize(z+c3)/BB=c' at*;have hml:m+2<p3.length:=by omega
    have hpl4:(p3.set (m+2) d).length=m+3:=by rw[C9];exact hpl3
    have hpw4:=hpw3.set (i:=m+2) hs;have hpL4:=HO hpw4;rw[hpl4]at hpL4;obtain⟨q0p,ed,em⟩:=WS (by rw[EB]at hT;exact hT) hpL hdn J hc' hpL4;have j2:IntKind.u64.wrap ((q:Int)-1)=((q-1:Nat):Int):=by rw[wU (by omega) (by unfold BB at hq;omega)];omega
    refine CA ?_;refine sZ 3200 ?_;refine AE (At kN hz' j1) ?_;rw[QR hml];refine sZ 3300 ?_;refine AV j2 ?_;refine Al ?_;exact⟨p3.set (m+2) d,by omega,hpw4,em.symm,by rw[ed],rfl⟩
theorem CO.toP {C:A8}{f:Nat}{args:List D}{Φ:D->Hp->Nat->Prop}{Ψ:D->Prop}(h:CO C f args [] 0 Φ)(k:∀d H n,Φ d H n->∃d',Fz H [] d d'/\B7 d'/\Ψ d'):Ak C f args Ψ:=by
 refine⟨h.1,λY w vs hG hnG hX' hvs hr=>?_⟩
 let F0:Ab:=⟨w,Y,λ_=>False,0,nol,[]⟩
 have m0:Ao C F0 nol [] w:=⟨⟨by simp,.nil,by simp⟩,rfl,rfl,rfl,Ai _,λ_ _ _=>rfl,hX',hG,hnG,by simp[F0],λ_ _ _ h=>h,λ_ cs _ _ h=>⟨cs,_,h,rfl⟩⟩
 have hoe:AM F0.X nol []=Y:=funext λb=>propext (by simp[AM,F0])
 refine(h.2 F0 nol w vs m0 (λ_ _ _=>rfl) (by simp) hvs (λi d hd=>by rw[hoe];exact hr i d hd)).mono ?_;rintro e w' ⟨v,d,H',n',ρ',rfl,hΦ,m,x,fr,g,r⟩;obtain⟨d',h3,h4,h5⟩:=k d H' n' hΦ;have hH:Cb H' [] H' []:=by
  generalize H'=H0
  have:∀H1:Hp,Cb H0 [] H1 []:=λH1=>by
   induction H1 with
   |nil=>exact .nil
   |cons e r ih=>exact .drop ih
  exact this H0
 obtain⟨m2,hO,hN⟩:=hH.mem m;have r3:=h3.rep m hO hN r;have r4:=h4 _ nol _ _ _ r3;exact⟨v,d',rfl,⟨m.os,m.tape,m.output,m.size,λb hb=>m.blk b hb (by simp[F0])⟩,h5,r4.anti λb hb=>.inl hb⟩
theorem am {H Hf:Hp}{a a' b b':D}(h1:Fz H Hf a a')(h2:Fz H Hf b b'):Fz H Hf (.tup [a,b]) (.tup [a',b']):=
 .tup rfl λi d d' hd hd'=>by
  match i with
  | 0=>simp at hd hd';subst hd;subst hd';exact h1
  | 1=>simp at hd hd';subst hd;subst hd';exact h2
  |i+2=>simp at hd
theorem XT {a b:D}(h1:B7 a)(h2:B7 b):B7 (.tup [a,b]):=B7.tup λd hd=>by
 simp only[BA,DM,or_false]at hd;rcases hd with rfl|rfl
 ·exact h1
 ·exact h2
theorem fX (K g T:Nat)(l l':List Nat)(h:l.take l'.length=l'):Fz [⟨K,g,T,1,l.map AS⟩] [] (.osl K g 1 0 l'.length) (wL l'):=by
 have hll:l'.length<=l.length:=by
  have:=congrArg List.length h
  rw[Bf]at this;omega
 have key:∀(j:Nat) (d d':D),(l.map AS)[0+j]?=some d->(l'.map AS)[j]?=some d'->d=d':=λj d d' h1 h2=>by
  rw[<-h,A7,Ej]at h2;rw[BP,A7]at h1;split at h2
  ·rw[h1]at h2;exact Fc h2
  ·simp at h2
 refine .osl (e:=⟨K,g,T,1,l.map AS⟩) (by simp[Hp.get]) rfl rfl rfl (by simp;exact hll) (by simp) (λj d d' h1 h2=>by rw[key j d d' h1 h2]) λj d d' q c c' h1 h2 h3 h4=>?_
 rw[key j d d' h1 h2]at h3;rw[h3]at h4;cases h4;exact Fz.refl _
theorem nL:wD 0=.sl false 1 []:=by unfold wD;rw[Fj];rfl
theorem iv (w:List Nat)(s:Nat)(hs:s<=63)(hw:Wd w)(hl:w.length<4000000):Ak C0 256 [wL w,i64 s] (λd=>∃out:List Nat,out.length=w.length+1/\Wd out/\AT out=AT w*2^s/\d=wL out):=
 (WD w s hs hw hl [] 0).toP λd H n ⟨out,g,h1,h2,h3,h4,h5,_⟩=>by
  subst h4;subst h5;refine⟨wL out,?_,KH _,out,h1,h2,h3,rfl⟩
  have:=fX 103 g 225 out out (by simp)
  rw[h1]at this;exact this
theorem ik {n k:Nat}(h1:BB^k<=n)(h2:n<BB^(k+1)):(Ag n).length=k+1:=by
 have h3:=Gq h2;have h4:=DW h1 (JF n);have h5:=(Nat.pow_lt_pow_iff_right (show 1<BB by decide)).1 h4;omega
theorem SZ:∀(n:Nat) {k a:Nat},(Ag n).length=k+1->(Ag n)[k]?=some a->a≠0:=λn=>by
 induction n using Nat.strongRecOn with
 |ind n ih=>
  intro k a h1 h2
  by_cases h0:n=0
  ·subst h0;rw[Fj]at h1;cases h1
  ·rw[F3 h0]at h1 h2
   rw[Bo]at h1;have h3:=Nat.succ.inj h1;cases k with
   |zero=>
    have h4:Ag (n/BB)=[]:=ET h3;have h5:n/BB=0:=by rw[<-En (n/BB),h4];rfl
    have h6:=El n BB;rw[h5]at h6;simp at h2;intro h7;subst h7;rw[h2]at h6;omega
   |succ k=>
    rw[Jo]at h2;exact ih _ (Hk (Dy h0) (by decide)) h3 h2
theorem W0 {n k:Nat}(h:(Ag n).length=k+1):BB^k<=n:=by
 obtain⟨a,ha⟩:=CS (l:=Ag n) (i:=k) (by omega);have h1:=SZ n h ha;have h2:=Uk h ha;rw[En]at h2;have h3:=Cd (BB^k) (show 1<=a by omega);omega
theorem t7 {b m y s:Nat}(hs:s<=63)(hl:(Ag b).length=m+1)(hy:(Ag b)[m]?=some y)(h:y*2^s<BB):(Ag (b*2^s)).length=m+1:=by
 have hp:0<2^s:=Gj s;have hpp:2^(64-s)*2^s=BB:=by rw[<-Fw,show 64-s+s=64 by omega]
 have h1:y<2^(64-s):=by
  rw[<-hpp]at h;exact Nat.lt_of_mul_lt_mul_right h
 refine ik ?_ ?_
 ·have:=W0 hl
  exact BR this (Nat.le_mul_of_pos_right _ hp)
 ·have h2:=Uk hl hy
  have h3:=HO ((FA b).take m);rw[Bf,hl,E4 (by omega)]at h3;rw[En]at h2;have h4:b<BB^m*(y+1):=by rw[BM,EB];omega
  have h5:BB^m*(y+1)<=BB^m*2^(64-s):=Cd _ h1;have h6:b*2^s<BB^m*2^(64-s)*2^s:=Rg (CV h4 h5) hp;rw[Bw,hpp]at h6;exact h6
theorem XN {l:List Nat}{j a:Nat}(h:l[j]?=some a):AT (l.drop j)=a+BB*AT (l.drop (j+1)):=by
 have hj:j<l.length:=(List.getElem?_eq_some_iff.1 h).1;rw[EI hj,(List.getElem?_eq_some_iff.1 h).2];rfl
theorem P0 {l:List Nat}{j a:Nat}(h:j<l.length):(l.set j a).drop j=a::l.drop (j+1):=by
 rw[EI (by rw[C9];exact h)]
 congr 1
 ·exact List.getElem_set_self _
 ·rw[List.drop_set_of_lt (by omega)]
theorem gA {a q:List Nat}{j x b rest:Nat}(hb:0<b)(hx:a[j]?=some x)(hj:j<q.length)(hI:AT (q.drop (j+1))*b+rest=AT (a.drop (j+1))):
  AT ((q.set j ((rest*BB+x)/b)).drop j)*b+(rest*BB+x)%b=AT (a.drop j)/\(rest*BB+x)%b<b:=by
 refine⟨?_,B5 _ hb⟩;rw[P0 hj,XN hx,<-hI,AT];have e:=EU (rest*BB+x) b;rw[Bu,BM BB,Bw BB,BS BB rest,BS _ b];omega
theorem Pp {q b r a:Nat}(h:q*b+r=a)(hr:r<b):q=a/b/\r=a%b:=by
 subst h;rw[BS];exact⟨by rw[Nat.mul_add_div (by omega),HE hr,DY],by rw[Nat.mul_add_mod,Dc hr]⟩
structure LQ (X:Nat)(v U q:List Nat)(lu lq k:Nat):Prop where
 lU:U.length=lu
 lQ:q.length=lq
 wU:Wd U
 wq:Wd q
 val:BB^k*AT (q.drop k)*AT v+AT U=X
 less:AT (U.drop k)<AT v
theorem cY {U:List Nat}(j n:Nat):U=U.take j++((U.drop j).take n++U.drop (j+n)):=by
 rw[<-List.drop_drop,Ez,Ez]
theorem kg {X:Nat}{v U q:List Nat}{lu lq j m:Nat}(I:LQ X v U q lu lq (j+1))(hv:v.length=m+2)(wv:Wd v)(v1 v2:Nat)(h2:v[m]?=some v2)(h1:v[m+1]?=some v1)(ht:0<v1)(hj:j+(m+3)<=lu):
  ∃p0 p1 p2,Mb ((U.drop j).take (m+3)) v m p0 p1 p2 v2 v1/\AT (U.drop (j+(m+3)))=0/\AT ((U.drop j).take (m+3))=AT (U.drop j):=by
 obtain⟨lU,lQ,wU,wq,val,less⟩:=I;obtain⟨x,hx⟩:=CS (l:=U) (i:=j) (by omega);have hxl:=wU x (A0 hx);have e1:=XN hx;have hlt:AT (U.drop j)<AT v*BB:=by
  have:BB*(AT (U.drop (j+1))+1)<=BB*AT v:=Cd _ less
  rw[BM,BS BB (AT v)]at this;omega
 have hPl:((U.drop j).take (m+3)).length=m+3:=by rw[Bf,Dz];omega
 have e2:AT (U.drop j)=AT ((U.drop j).take (m+3))+BB^(m+3)*AT (U.drop (j+(m+3))):=by
  conv=>lhs;rw[<-Ez (m+3) (U.drop j)]
  rw[J5,hPl,List.drop_drop]
 have hvl:=HO wv;rw[hv]at hvl;have hz:AT (U.drop (j+(m+3)))=0:=by
  rcases Db (AT (U.drop (j+(m+3))))with h|h
  ·exact h
  ·exfalso
   have e3:BB^(m+3)*1<=BB^(m+3)*AT (U.drop (j+(m+3))):=Cd _ h;have e4:AT v*BB<=BB^(m+2)*BB:=CI _ (Jr hvl);have e5:BB^(m+2)*BB=BB^(m+3):=(CL BB (m+2)).symm;rw[e5]at e4;omega
 rw[hz,EX,DY]at e2;obtain⟨p0,h0⟩:=CS (l:=(U.drop j).take (m+3)) (i:=m) (by omega);obtain⟨p1,h3⟩:=CS (l:=(U.drop j).take (m+3)) (i:=m+1) (by omega);obtain⟨p2,h4⟩:=CS (l:=(U.drop j).take (m+3)) (i:=m+2) (by omega);exact⟨p0,p1,p2,⟨hPl,hv,λa ha=>wU a (Kr (IT ha)),wv,h0,h3,h4,h2,h1,ht,by rw[<-e2];exact hlt⟩,hz,e2.symm⟩
theorem kf {X:Nat}{v U q P':List Nat}{lu lq j m:Nat}(I:LQ X v U q lu lq (j+1))(hv:0<AT v)(hj:j+(m+3)<=lu)(hjq:j<lq)(hz:AT (U.drop (j+(m+3)))=0)(hP:AT ((U.drop j).take (m+3))=AT (U.drop j))
  (h1:P'.length=m+3) (h2:Wd P') (h3:AT P'=AT ((U.drop j).take (m+3))%AT v) (hd:AT ((U.drop j).take (m+3))/AT v<BB):
  LQ X v (U.take j++(P'++U.drop (j+(m+3)))) (q.set j (AT ((U.drop j).take (m+3))/AT v)) lu lq j:=by
 obtain⟨lU,lQ,wU,wq,val,less⟩:=I;have hA:(U.take j).length=j:=by rw[Bf];omega
 have e0:AT U=AT (U.take j)+BB^j*AT (U.drop j):=by
  conv=>lhs;rw[<-Ez j U]
  rw[J5,hA]
 have e1:AT (P'++U.drop (j+(m+3)))=AT P':=by rw[J5,hz,EX,DY]
 refine⟨?_,by rw[C9];exact lQ,?_,wq.set hd,?_,?_⟩
 ·rw[Bk,Bk,hA,h1,Dz];omega
 ·exact Wd.append (wU.take j) (Wd.append h2 λa ha=>wU a (Kr ha))
 ·rw[P0 (by omega),AT,J5,hA,e1,h3,hP]
  rw[e0]at val;have e2:=EU (AT (U.drop j)) (AT v);have e3:BB^(j+1)*AT (q.drop (j+1))*AT v=BB^j*(BB*AT (q.drop (j+1))*AT v):=by
   rw[CL,Bw,Bw,Bw]
  rw[e3]at val;have e4:BB^j*AT (U.drop j)=BB^j*(AT v*(AT (U.drop j)/AT v))+BB^j*(AT (U.drop j)%AT v):=by
   rw[<-BM,e2]
  rw[Bw,Bu,BM,BS (AT (U.drop j)/AT v)];omega
 ·rw[List.drop_left' hA,e1,h3]
  exact B5 _ hv
theorem iN {a b s:Nat}{U v:List Nat}{k lu lq:Nat}(hU:AT U=a*2^s)(hv:AT v=b*2^s)(wU:Wd U)(lU:U.length=lu){q:List Nat}(hq:q=List.replicate lq 0)(hk:lq<=k)
  (hab:a<BB^k*b):LQ (a*2^s) v U q lu lq k:=by
 subst hq;refine⟨lU,L3,wU,MM _,?_,?_⟩
 ·rw[HG (by rw[L3];exact hk)]
  rw[show AT []=0 from rfl,EX,Gm,BP,hU]
 ·rcases BG (AT (U.drop k)) (AT v)with h|h
  ·exact h
  ·exfalso
   have e0:AT U=AT (U.take k)+BB^(U.take k).length*AT (U.drop k):=by
    conv=>lhs;rw[<-Ez k U]
    rw[J5]
   have hp:0<2^s:=Gj s;have h3:a*2^s<BB^k*b*2^s:=Rg hab hp;rw[Bw,<-hv]at h3;rcases BG U.length k with hl|hl
   ·rw[HG (by omega)]at h
    rw[show AT []=0 from rfl]at h;rw[Nat.le_zero.1 h,EX]at h3;omega
   ·rw[Bf,E4 hl]at e0
    have:=Cd (BB^k) h
    omega
theorem ke {a b s:Nat}{v U q:List Nat}{lu lq:Nat}(I:LQ (a*2^s) v U q lu lq 0)(hv:AT v=b*2^s):AT q=a/b/\AT U=a%b*2^s:=by
 obtain⟨lU,lQ,wU,wq,val,less⟩:=I;simp only[L6,I3,Fd]at val less;obtain⟨h1,h2⟩:=Pp val less;rw[hv,PA _ _ (Gj s)]at h1;rw[hv,PB]at h2;exact⟨h1,h2⟩
structure Nx (U u:List Nat)(s i:Nat):Prop where
 len:u.length=U.length
 wd:Wd u
 rest:∀k,i<=k->u[k]?=U[k]?
 val:∀c,U[i]?=some c->AT (U.take i)+BB^i*(c%2^s)=2^s*AT (u.take i)
theorem gC {U:List Nat}{s r:Nat}(wU:Wd U)(h:AT U=r*2^s)(hs:s<=63):Nx U U s 0:=by
 refine⟨rfl,wU,λ_ _=>rfl,λc hc=>?_⟩;have e:=KJ hc;simp only[NF,L6,I3,AT,BP,EX]at e⊢;have hpp:2^(64-s)*2^s=BB:=by rw[<-Fw,show 64-s+s=64 by omega]
 have e1:(AT U)%2^s=0:=by rw[h];exact Nat.mul_mod_left _ _
 rw[e,<-hpp,Nat.mul_right_comm,Nat.add_mul_mod_self_right]at e1;exact e1
theorem Vm {c d s:Nat}(hs:s<=63)(hc:c<BB):c/2^s ||| d*2^(64-s)%BB=c/2^s+d%2^s*2^(64-s)/\c/2^s+d%2^s*2^(64-s)<BB /\
  c%2^s+2^s*(c/2^s+d%2^s*2^(64-s))=c+BB*(d%2^s):=by
 have hpp:2^s*2^(64-s)=BB:=by rw[<-Fw,show s+(64-s)=64 by omega]
 have h1:d*2^(64-s)%BB=d%2^s*2^(64-s):=by rw[<-hpp,PB]
 have h2:c/2^s<2^(64-s):=E3 (by rw[hpp];exact hc);have h3:d%2^s<2^s:=B5 _ (Gj s);have h4:(d%2^s+1)*2^(64-s)<=2^s*2^(64-s):=CI _ h3;rw[hpp,Bu,I3]at h4;have e:=El c (2^s);refine⟨?_,by omega,?_⟩
 ·rw[h1,Nat.or_comm,Tu h2,Kp]
 ·rw[BM,IN,hpp,BS (d%2^s)]
  omega
theorem iS {U u:List Nat}{s i c d:Nat}(hs:s<=63)(wU:Wd U)(I:Nx U u s i)(hc:U[i]?=some c)(hd:U[i+1]?=some d):
  Nx U (u.set i (c/2^s+d%2^s*2^(64-s))) s (i+1):=by
 obtain⟨len,wd,rest,val⟩:=I;have hcl:=wU c (A0 hc);obtain⟨_,e2,e3⟩:=Vm (d:=d) hs hcl;have hi:i<U.length:=(List.getElem?_eq_some_iff.1 hc).1;refine⟨by rw[C9];exact len,wd.set e2,λk hk=>?_,λc' hc'=>?_⟩
 ·rw[IS (by omega)];exact rest k (by omega)
 ·rw[hd]at hc'
  cases hc';have v0:=val c hc;rw[P1 (by omega),GW (i:=i) (by rw[Bf];omega),E7 hc,GW (i:=i) (by rw[Bf];omega),BM,<-v0,CL,Bw,IN (2^s)];have e4:BB^i*(c%2^s+2^s*(c/2^s+d%2^s*2^(64-s)))=BB^i*(c+BB*(d%2^s)):=by rw[e3]
  rw[BM,BM (BB^i) c]at e4;omega
theorem iR {U u:List Nat}{s n r:Nat}(I:Nx U u s n)(hn:n<U.length)(hU:AT U=r*2^s)(hl:AT U<BB^n):AT (u.take n)=r:=by
 obtain⟨c,hc⟩:=CS hn;have e:=KJ hc;have hz:c+BB*AT (U.drop (n+1))=0:=by
  rcases Db (c+BB*AT (U.drop (n+1)))with h|h
  ·exact h
  ·have:=Cd (BB^n) h
   omega
 have hc0:c=0:=by omega
 subst hc0;have v0:=I.val 0 hc;rw[hz,EX,DY]at e;rw[Nat.zero_mod,EX,DY,<-e,hU,BS]at v0;exact(Nat.eq_of_mul_eq_mul_left (Gj s) v0).symm
theorem Xw {a b:Nat}(h:a<b):decide (Du (a:Int) (b:Int)<0)=true:=AY (by unfold Du;split<;>(try split)<;>omega)
theorem QK {a b:Nat}(h:b<=a):decide (Du (a:Int) (b:Int)<0)=false:=Ah (by unfold Du;split<;>(try split)<;>omega)
theorem nM {env:Ar}{t K g n N t2:Nat}{z:List Nat}{T:Nat}{d2:D}(hl:z.length=N)(he:env.get t=.osl K g 1 0 N:=by exact rfl)(h2:env.get t2=d2:=by exact rfl):Wk ⟨env,[⟨K,g,T,1,z.map AS⟩],n⟩ ⟨[(t,.sl false 1 (z.map AS)),(t2,d2)],[],n⟩:=by
 subst hl;refine⟨.drop .nil,⟨?_,?_,trivial⟩,Ai _⟩
 ·dsimp only
  rw[he]
  have:=Qd K g T 1 (z.map AS)
  rwa [Am]at this
 ·dsimp only
  rw[h2];exact .refl _
theorem iP (a b:Nat)(hab:a<b)(ha:(Ag a).length<1000000)(hb:(Ag b).length<1000000):AK C0 209 [wD a,wD b] (.tup [wD (a/b),wD (a%b)]):=by
 rw[HE hab,Dc hab,nL];refine Ak.walk w1 QZ rfl λF=>?_
 have cc:=QL a b (by omega) (by omega);have e1:=Xw hab;refine sR 0 ?_;refine AC.seq ?_;refine sR 100 ?_;refine cI cc ?_;rw[e1];refine AO ?_;refine sR 200 ?_;refine Al ?_;exact⟨_,am (.nil 1) (.refl _),XT (.sl λe he=>by cases he) (KH _),rfl⟩
theorem kh (a b:Nat)(hab:b<=a)(ha:(Ag a).length<1000000)(hb:(Ag b).length=1)(hb0:b≠0):AK C0 209 [wD a,wD b] (.tup [wD (a/b),wD (a%b)]):=by
 have cc:=QL a b (by omega) (by omega);have e1:=QK hab;have hbl:b<BB:=by
  have:=JF b
  rw[hb,Nat.pow_one]at this;exact this
 have hlb:(Ag b)[0]?=some b:=by rw[MF hb0 hbl];rfl
 have va:=En a;have wa:=FA a;refine Ak.walk w1 QZ rfl λF=>?_
 unfold wD wL at cc⊢;change AC C0 F none F _ _ (Qx X1.tt _ (· = .tup [wD (a/b),wD (a%b)]));generalize Ag a=la at*;generalize Ag b=lb at*;have hb':=DQ hlb;have e3:((((lb.map AS).length:Nat):Int)==1)=true:=by rw[Am,hb];rfl
 have ea:(((la.map AS).length:Nat):Int)=(la.length:Int):=by rw[Am]
 have wl:IntKind.i64.wrap ((la.length:Int)-1)=(la.length:Int)-1:=wI (by omega) (by omega);have r3:List.replicate la.length (ofV (.int .u64 0))=(List.replicate la.length 0).map AS:=by rw[Js];rfl
 refine sR 0 ?_;refine AC.seq ?_;refine sR 100 ?_;refine cI cc ?_;rw[e1];refine AO ?_;refine Ap ?_;refine AC.seq ?_;refine sZ 300 ?_;refine AV e3 ?_;refine AO ?_;refine sZ 400 ?_;refine AV (Ac ea kN) ?_;refine sR 500 ?_;refine AC.seq ?_;refine sZ 600 ?_;refine AV (Ac ea wl) ?_;refine AC.block ?_;refine AC.loop (α:=Nat×Nat×List Nat×Nat) (λp=>⟨[(0,.sl false 1 (la.map AS)),(1,.sl false 1 (lb.map AS)),(6,.osl 402 11 1 0 la.length),(7,AS p.2.1),(8,i64 ((p.1:Int)-1))],[⟨402,11,225,1,p.2.2.1.map AS⟩],p.2.2.2⟩) (λp=>p.1)
  (λp=>p.1<=la.length/\p.2.1<b/\p.2.2.1.length=la.length/\Wd p.2.2.1/\AT (p.2.2.1.drop p.1)*b+p.2.1=AT (la.drop p.1)) (la.length,0,List.replicate la.length 0,_)
  ⟨Ai _,Dy hb0,by simp,MM _,by simp[AT]⟩ (by rw[<-r3];exact AL) ?_
 rintro⟨k,r,q,m⟩ F ⟨h1,h2,h3,h4,h5⟩;dsimp only at h1 h2 h3 h4 h5⊢;clear cc e1 e3 ea wl r3;refine AC.seq ?_;refine sR 700 ?_;refine AO ?_
 (refine Bv (λh20=>?_) (λh20=>?_))<;>(try simp only[Bi,Bs]at h20)<;>(try simp only[h20])
 ·obtain⟨j,rfl⟩:∃j,k=j+1:=⟨k-1,by
   have:(k:Int)-1>=0:=by simpa using h20
   omega⟩
  have wj:((j+1:Nat):Int)-1=(j:Int):=by omega
  obtain⟨x,hx⟩:=CS (l:=la) (i:=j) (by omega);obtain⟨z,hz⟩:=CS (l:=q) (i:=j) (by omega);have hx':=DQ hx;have hz':=DQ hz;have hxl:=wa x (A0 hx);have cd:=XH r x b h2 hxl hbl;obtain⟨J1,J2⟩:=gA (Dy hb0) hx (by omega) h5;have hql:(r*BB+x)/b<BB:=by
   refine E3 ?_
   have:(r+1)*BB<=b*BB:=CI _ h2
   rw[Bu]at this;omega
  have wi:IntKind.i64.wrap ((j:Int)-1)=(j:Int)-1:=wI (by omega) (by omega);generalize(r*BB+x)/b=d at*;generalize(r*BB+x)%b=r' at*;rw[wj];refine Ap ?_;refine AC.seq ?_;refine AC.block ?_;refine Ov w1 900 [0,1,2,3,4,5,6,7,8,9,10,11,12,13,14,15] [16] 15 [11,9,8,7,6,5,4,3,2,1,0,10,12,14] (402) (by kernel_rfl) (by kernel_rfl) ?_;refine Aw ?_;refine L8 kN ?_;refine MH rfl rfl rfl rfl ?_;refine Mo (λ_ _=>rfl) (by exact B6) ⟨rfl,by omega⟩ hx' ?_
  try dsimp only[D.cells,spot]
  refine L8 kN ?_;refine MH rfl rfl rfl rfl ?_;refine Mo (λ_ _=>rfl) (by exact B6) ⟨rfl,by omega⟩ hb' ?_
  try dsimp only[D.cells,spot]
  refine L8 kN ?_;refine MH rfl rfl rfl rfl ?_;refine LM (λ_ _=>rfl) (by exact B6) ?_;refine Aw ?_;refine BX.same _ cd AJ ?_;refine L8 (At kN BP hz') ?_;refine And.intro (by first|exact Or.inl AB|exact Or.inl rfl) ?_;refine AE (Ac kN BP) ?_;rw[map_set];refine Aq w1 800 (by kernel_rfl) ?_;refine AV wi ?_;exact⟨(j,r',q.set j d,_),⟨by dsimp only;omega,J2,by dsimp only;rw[C9];exact h3,h4.set hql,J1⟩,by dsimp only;omega,AL⟩
 ·have hk:k=0:=by
   have:¬((k:Int)-1>=0):=by simpa using h20
   omega
  subst hk;rw[Fd,Fd,va]at h5;obtain⟨q1,q2⟩:=Pp h5 h2;refine CA ?_;refine AC.weak ⟨[(6,.sl false 1 (q.map AS)),(7,AS r)],[],_⟩ (nM h3) ?_;refine sR 1000 ?_;refine BF.same _ (trim_ok q h4 (by omega)) AJ ?_;refine BO ?_;have hrl:Wd [r]:=λa ha=>by
   simp only[BA,DM,or_false]at ha;subst ha;exact Ft h2 hbl
  refine BF.pure [wL [r]] _ ⟨.nn true 1 _,trivial⟩ (trim_ok [r] hrl (by simp)) AJ ?_;refine BO ?_;refine Al ?_;exact AN (by rw[q1,q2];simp[AT]) AA.out
set_option maxHeartbeats 4000000
theorem YB {H:Hp}{K g T:Nat}{l:List Nat}{N:Nat}(hl:l.length=N)(he:Hp.get H K=some ⟨K,g,T,1,l.map AS⟩:=by exact rfl):Fz H [] (.osl K g 1 0 N) (.sl false 1 (l.map AS)):=by
 subst hl;have key:∀(j:Nat) (d d':D),(l.map AS)[0+j]?=some d->(l.map AS)[j]?=some d'->d=d':=λj d d' h1 h2=>by
  rw[BP]at h1;rw[h1]at h2;exact Fc h2
 refine .osl (e:=⟨K,g,T,1,l.map AS⟩) he rfl rfl rfl (by simp) (by simp) (λj d d' h1 h2=>by rw[key j d d' h1 h2]) λj d d' q c c' h1 h2 h3 h4=>?_
 rw[key j d d' h1 h2]at h3;rw[h3]at h4;cases h4;exact Fz.refl _
theorem iQ (a b m:Nat)(hab:b<=a)(ha:(Ag a).length<1000000)(hb:(Ag b).length=m+2):AK C0 209 [wD a,wD b] (.tup [wD (a/b),wD (a%b)]):=by
 have hlen:=HL b a hab;have cc:=QL a b (by omega) (by omega);have e1:=QK hab;obtain⟨y,hy⟩:=CS (l:=Ag b) (i:=m+1) (by omega);have y0:=SZ b hb hy;have yl:y<BB:=FA b y (A0 hy);obtain⟨s,hs,es,t1,t2⟩:=V7 y0 yl;have cl:=bs y yl;rw[es]at cl;have hvl:=t7 hs hb hy t2;obtain⟨v,hv⟩:∃v,v=Ag (b*2^s):=⟨_,rfl⟩
 have wv:Wd v:=by rw[hv];exact FA _
 have vv:AT v=b*2^s:=by rw[hv];exact En _
 rw[<-hv]at hvl;obtain⟨v1,h1⟩:=CS (l:=v) (i:=m+1) (by omega);obtain⟨v2,h2⟩:=CS (l:=v) (i:=m) (by omega);have v10:v1≠0:=SZ (b*2^s) (by rw[<-hv];exact hvl) (by rw[<-hv];exact h1);have vpos:0<AT v:=by
  rw[vv];refine HI ?_ (Gj s);refine Dy λh=>?_
  subst h;rw[Fj]at hb;cases hb
 have va:=En a;have vb:=En b;have wa:=FA a;have wb:=FA b;have hup:=JF a;have hbge:=W0 hb;refine Ak.walk w1 QZ rfl λF=>?_
 unfold wD wL at cc⊢;change AC C0 F none F _ _ (Qx X1.tt _ (· = .tup [wD (a/b),wD (a%b)]));generalize Ag a=la at*;generalize Ag b=lb at*;obtain⟨lq,hlq⟩:∃lq,la.length=lq+(m+2):=⟨la.length-(m+2),by omega⟩
 have hy':=DQ hy;have e3:((((lb.map AS).length:Nat):Int)==1)=false:=by rw[Am,hb];exact Bq.2 (by omega)
 have elb:(((lb.map AS).length:Nat):Int)=((m+2:Nat):Int):=by rw[Am,hb]
 have wlb0:IntKind.i64.wrap (((m+2:Nat):Int)-1)=((m+1:Nat):Int):=by rw[wI (by omega) (by omega)];omega
 have wlb:IntKind.i64.wrap ((((lb.map AS).length:Nat):Int)-1)=((m+1:Nat):Int):=by rw[elb];exact wlb0
 have ea:(((la.map AS).length:Nat):Int)=(la.length:Int):=by rw[Am]
 have ev:(((v.map AS).length:Nat):Int)=((m+2:Nat):Int):=by rw[Am,hvl]
 have wq1:IntKind.i64.wrap ((la.length:Int)-((m+2:Nat):Int))=(lq:Int):=by rw[wI (by omega) (by omega)];omega
 have wq2:IntKind.i64.wrap ((lq:Int)+1)=((lq+1:Nat):Int):=by rw[wI (by omega) (by omega)];omega
 have wq1':IntKind.i64.wrap ((la.length:Int)-((m+2:Nat):Int))=((lq+1:Nat):Int)-1:=by rw[wI (by omega) (by omega)];omega
 have wraw:IntKind.i64.wrap (IntKind.i64.wrap ((((la.map AS).length:Nat):Int)-((m+2:Nat):Int))+1)=((lq+1:Nat):Int):=by rw[ea,wq1,wq2]
 have r3:List.replicate (lq+1) (ofV (.int .u64 0))=(List.replicate (lq+1) 0).map AS:=by rw[Js];rfl
 refine sR 0 ?_;refine AC.seq ?_;refine sR 100 ?_;refine cI cc ?_;rw[e1];refine AO ?_;refine Ap ?_;refine AC.seq ?_;refine sZ 300 ?_;refine AV e3 ?_;refine AO ?_;refine Ap ?_;refine sZ 1100 ?_;refine AE (BW wlb elb wlb0 kN) ?_;refine Br kT hy' ?_;refine AE (BW wlb elb wlb0 kN) ?_;refine cI cl ?_;refine Cu (α:=Nat) (λn=>⟨[(0,.sl false 1 (la.map AS)),(9,i64 s),(10,.sl false 1 (v.map AS))],[],n⟩) (λ_=>True) ?_ ?_
 ·refine rI 1200 ?_
  refine BF.prop [wL lb,i64 s] _ (EY.refl _) (iv lb s hs wb (by omega)) AJ ?_;rintro d ⟨out,o1,o2,o3,rfl⟩;have hvo:wD (AT out)=.sl false 1 (v.map AS):=by rw[o3,vb,hv];rfl
  refine BO ?_;refine BF.same _ (trim_ok out o2 (by omega)) AJ ?_;refine BO ?_;simp only[hvo];exact⟨trivial,_,trivial,AL⟩
 rintro n0 -;clear cc e1 e3 elb wlb wlb0 hy' cl es t1 t2 yl y0 hy wb;refine sR 1300 ?_;refine BF.own _ (WD la s hs wa (by omega) [] _) ?_;rintro d H' n1 ⟨U,gu,u1,u2,u3,rfl,rfl,-⟩;rw[va]at u3;refine BO ?_;refine sZ 1400 ?_;refine AV ev ?_;refine Cu (α:=Nat×Nat) (λp=>⟨[(0,.sl false 1 (la.map AS)),(9,i64 s),(10,.sl false 1 (v.map AS)),(11,.osl 103 gu 1 0 (la.length+1)),(12,i64 ((m+2:Nat):Int)),(13,.osl 1505 p.1 1 0 (lq+1))],[⟨1505,p.1,225,1,(List.replicate (lq+1) 0).map AS⟩,⟨103,gu,225,1,U.map AS⟩],p.2⟩) (λ_=>True) ?_ ?_
 ·refine Aq w1 1500 (by kernel_rfl) ?_
  refine AV (CM ea wq1 wq2 kN r3) ?_;exact⟨trivial,⟨n1+9,n1+20⟩,trivial,by rw[<-r3];exact AL⟩
 rintro⟨g,n2⟩ -;dsimp only;have I0:LQ (a*2^s) v U (List.replicate (lq+1) 0) (la.length+1) (lq+1) (lq+1):=by
  refine iN u3 vv u2 u1 rfl (Ai _) ?_
  have:BB^(lq+1)*BB^(m+1)<=BB^(lq+1)*b:=Cd _ hbge
  rw[<-Fw,show lq+1+(m+1)=la.length by omega]at this;omega
 refine AC.seq ?_;refine sZ 1600 ?_;refine AV (Ac ea wq1') ?_;refine AC.block ?_;refine AC.loop (α:=Nat×List Nat×List Nat×Nat) (λp=>⟨[(9,i64 s),(10,.sl false 1 (v.map AS)),(11,.osl 103 gu 1 0 (la.length+1)),(12,i64 ((m+2:Nat):Int)),(13,.osl 1505 g 1 0 (lq+1)),(14,i64 ((p.1:Int)-1))],[⟨1505,g,225,1,p.2.2.1.map AS⟩,⟨103,gu,225,1,p.2.1.map AS⟩],p.2.2.2⟩) (λp=>p.1)
  (λp=>p.1<=lq+1/\LQ (a*2^s) v p.2.1 p.2.2.1 (la.length+1) (lq+1) p.1) (lq+1,U,List.replicate (lq+1) 0,_) ⟨Ai _,I0⟩ AL ?_
 rintro⟨k,u,q,n3⟩ F ⟨hk,I⟩;dsimp only at hk I⊢;clear I0 wq1 wq2 wq1' wraw r3 ea;refine AC.seq ?_;refine sR 1700 ?_;refine AO ?_
 (refine Bv (λh20=>?_) (λh20=>?_))<;>(try simp only[Bi,Bs]at h20)<;>(try simp only[h20])
 ·obtain⟨j,rfl⟩:∃j,k=j+1:=⟨k-1,by
   have:(k:Int)-1>=0:=by simpa using h20
   omega⟩
  have wj:((j+1:Nat):Int)-1=(j:Int):=by omega
  obtain⟨p0,p1,p2,SI,hz,hP⟩:=kg I hvl wv v1 v2 h2 h1 (Dy v10) (by omega);have hA:(u.take j).length=j:=by rw[Bf,I.lU];omega
  have cs:=λn=>nj (u.take j) ((u.drop j).take (m+3)) (u.drop (j+(m+3))) v m p0 p1 p2 v2 v1 SI (by rw[hA];omega) g 225 gu (q.map AS) n
  rw[hA,<-cY j (m+3)]at cs;obtain⟨z,hzq⟩:=CS (l:=q) (i:=j) (by rw[I.lQ];omega);have hz':=DQ hzq;have hdl:AT ((u.drop j).take (m+3))/AT v<BB:=E3 SI.less;have wi:IntKind.i64.wrap ((j:Int)-1)=(j:Int)-1:=wI (by omega) (by omega);have wjn1:IntKind.i64.wrap ((j:Int)+((m+2:Nat):Int))=((j+(m+2):Nat):Int):=by rw[wI (by omega) (by omega)];omega
  have wjn2:IntKind.i64.wrap (((j+(m+2):Nat):Int)+1)=((j+(m+3):Nat):Int):=by rw[wI (by omega) (by omega)];omega
  have wraw:IntKind.i64.wrap (IntKind.i64.wrap ((j:Int)+((m+2:Nat):Int))+1)=((j+(m+3):Nat):Int):=by rw[wjn1,wjn2]
  have els:j+(m+3)-j=m+3:=Ko _ _;have J:=λP' h1 h2 h3=>kf (P':=P') I vpos (by omega) (by omega) hz hP h1 h2 h3 hdl
  rw[wj];refine Ap ?_;refine AC.seq ?_;refine AC.block ?_;refine Aq w1 1900 (by kernel_rfl) ?_;refine AE (D2 wraw wjn1 wjn2 kN BP els) ?_;refine BF.own _ (cs _) ?_;rintro d H' n4 ⟨P',g1,g2,g3,rfl,rfl⟩;rw[SI.lP]at g1;refine AE (At kN BP hz') ?_;rw[map_set];refine Aq w1 1800 (by kernel_rfl) ?_;refine AV wi ?_;exact⟨(j,u.take j++(P'++u.drop (j+(m+3))),q.set j (AT ((u.drop j).take (m+3))/AT v),_),⟨by dsimp only;omega,J P' g1 g2 g3⟩,by dsimp only;omega,AL⟩
 ·have hk:k=0:=by
   have:¬((k:Int)-1>=0):=by simpa using h20
   omega
  subst hk;obtain⟨q1,q2⟩:=ke I vv;have D0:=gC I.wU q2 hs;have wu:=I.wU;have wqq:=I.wq;have lu:=I.lU;have lqq:=I.lQ;have hlt:AT u<BB^(m+2):=by
   have:=I.less
   rw[Fd]at this;have h:=HO wv;rw[show v.length=m+2 from hvl]at h;omega
  clear I;refine CA ?_;refine AC.seq ?_;refine sR 2000 ?_;refine AC.block ?_;refine AC.loop (α:=Nat×List Nat×Nat) (λp=>⟨[(9,i64 s),(11,.osl 103 gu 1 0 (la.length+1)),(12,i64 ((m+2:Nat):Int)),(13,.osl 1505 g 1 0 (lq+1)),(96,i64 ((m+2:Nat):Int)),(97,i64 p.1)],[⟨1505,g,225,1,q.map AS⟩,⟨103,gu,225,1,p.2.1.map AS⟩],p.2.2⟩) (λp=>m+2-p.1)
   (λp=>p.1<=m+2/\Nx u p.2.1 s p.1) (0,u,_) ⟨BU _,D0⟩ AL ?_
  rintro⟨i,x,n4⟩ F ⟨hi,I⟩;dsimp only at hi I⊢;have xl:=I.len;refine sR 2100 ?_;refine AC.seq ?_;refine AO ?_
  (refine Bv (λhlt2=>?_) (λhlt2=>?_))<;>(try simp only[Bi,Bs]at hlt2)<;>(try simp only[hlt2])
  ·have hi2:i<m+2:=by
    have:=DA hlt2
    omega
   obtain⟨c,hc⟩:=CS (l:=u) (i:=i) (by omega);obtain⟨d,hd⟩:=CS (l:=u) (i:=i+1) (by omega);have hcx:x[i]?=some c:=by rw[I.rest i (Ai _)];exact hc
   have hdx:x[i+1]?=some d:=by rw[I.rest (i+1) (by omega)];exact hd
   have hc':=DQ hcx;have hcl:=wu c (A0 hc);have hdl:=wu d (A0 hd);have I2:=iS hs wu I hc hd;obtain⟨g1,g2,_⟩:=Vm (d:=d) hs hcl;have esh:=M0 c s (by omega);have wi:IntKind.i64.wrap ((i:Int)+1)=((i+1:Nat):Int):=wI (by omega) (by omega);refine Ap ?_;refine AC.seq ?_;refine AC.block ?_;refine sR 2200 ?_;refine sZ 2300 ?_;refine AE (BW kN BP hc' esh) ?_;rw[map_set];have hxi:i<x.length:=by omega
   have h2c:((x.set i (c/2^s)).map AS)[i]?=some (AS (c/2^s)):=DQ (O8 hxi);have h2d:((x.set i (c/2^s)).map AS)[i+1]?=some (AS d):=DQ (by rw[IS (by omega)];exact hdx);refine AC.seq ?_;rcases Db s with h0|h0
   ·have e24:decide ((s:Int)>0)=false:=Ah (by omega)
    have es0:x.set i (c/2^s+d%2^s*2^(64-s))=x.set i (c/2^s):=by
     rw[h0,L6,Nat.mod_one,Gm,DY]
    rw[es0]at I2;refine Aq w1 2400 (by kernel_rfl) ?_;refine AV e24 ?_;refine AE e24 ?_;refine AO ?_;refine Ap ?_;refine Aq w1 2600 (by kernel_rfl) ?_;refine AV wi ?_;exact⟨(i+1,x.set i (c/2^s),_),⟨hi2,I2⟩,by dsimp only;omega,AL⟩
   ·have e24:decide ((s:Int)>0)=true:=AY (by omega)
    have e24':decide (((i+1:Nat):Int)<((la.length+1:Nat):Int))=true:=AY (by omega);have w64:IntKind.i64.wrap (64-(s:Int))=((64-s:Nat):Int):=by rw[wI (by omega) (by omega)];omega
    have w640:(0:Int)<=IntKind.i64.wrap (64-(s:Int)):=by rw[w64];omega
    have e27:=OX d (64-s) (by omega);have e28:Gu .or .u64 ((c/2^s:Nat):Int) ((d*2^(64-s)%18446744073709551616:Nat):Int)=((c/2^s+d%2^s*2^(64-s):Nat):Int):=by
     rw[Ur _ _ (DW (Gi _ _) hcl) (B5 _ (by decide)),g1]
    have hset:((x.set i (c/2^s)).map AS).set i (AS (c/2^s+d%2^s*2^(64-s)))=(x.set i (c/2^s+d%2^s*2^(64-s))).map AS:=by
     rw[map_set,List.set_set]
    refine Aq w1 2400 (by kernel_rfl) ?_;refine AV e24 ?_;refine AE (At e24 wi e24') ?_;refine AO ?_;refine B8 w1 2500 [0,1,2,3,4,5,6,7,8,9,10,11] [12,13,14] (by kernel_rfl) ?_;refine AE (CF wi w64 e27 e28 kN BP (Ac h2c h2d)) ?_;refine D4 rfl rfl ?_;refine Mp rfl rfl rfl h2c ?_;refine AE hset ?_;refine Aq w1 2600 (by kernel_rfl) ?_;refine AV wi ?_;exact⟨(i+1,x.set i (c/2^s+d%2^s*2^(64-s)),_),⟨hi2,I2⟩,by dsimp only;omega,AL⟩
  ·have hi2:i=m+2:=by
    have:=DN hlt2
    omega
   subst hi2;have hr:=iR I (by omega) q2 hlt;have wx:=I.wd;refine CA ?_;refine AC.weak ⟨[(11,.sl false 1 (x.map AS)),(12,i64 ((m+2:Nat):Int)),(13,.sl false 1 (q.map AS))],[],_⟩ ⟨.drop (.drop .nil),⟨YB (by omega),.refl _,YB lqq,trivial⟩,Ai _⟩ ?_;have e4:List.take (m+2-0) (List.drop 0 (x.map AS))=(x.take (m+2)).map AS:=by
    rw[List.map_take];simp
   have e5:List.take (m+2) (x.map AS)=(x.take (m+2)).map AS:=by
    rw[List.map_take]
   have ex:(x.map AS).length=la.length+1:=by rw[Am];omega
   refine AC.seq ?_;refine B8 w1 2700 [0,1,2,3,4] [5,6,7] (by kernel_rfl) ?_;refine BO ?_;refine BX.same _ (trim_ok q wqq (by omega)) AJ ?_;refine AE (BW kN Nat.sub_zero (@Fd D) e5) ?_;refine BF.same _ (trim_ok (x.take (m+2)) (wx.take _) (by rw[Bf];omega)) AJ ?_;refine BO ?_;refine Al ?_;exact AN (by rw[q1,hr]) AA.out
theorem cZ (a b:Nat)(hb:b≠0)(ha:(Ag a).length<1000000)(hbl:(Ag b).length<1000000):AK C0 209 [wD a,wD b] (.tup [wD (a/b),wD (a%b)]):=by
 rcases BG a b with h|h
 ·exact iP a b h ha hbl
 ·rcases hl:(Ag b).length with _|m
  ·have:=JF b
   rw[hl]at this;simp at this;exact AZ this hb
  ·rcases m with _|m
   ·exact kh a b h ha hl hb
   ·exact iQ a b m h ha hl
set_option maxHeartbeats 2000000
theorem OP {x:GI}(h:x.wf)(h0:x.z ≠ -9223372036854775808):x=AX x.z:=by
 obtain⟨z,sm⟩:=x;unfold AX
 congr 1
 cases sm with
 |true=>
  have:=h.1 rfl
  dsimp only at this h0⊢;exact(AY (show Sm z from⟨by omega,by omega⟩)).symm
 |false=>
  have:=h.2 rfl
  exact(Ah this).symm
theorem Di (z:Int):(AX z).z=z:=rfl
def Dv (x y:GI):GI×GI:=
 if x.sm=true/\y.sm=true/\x.z ≠ -9223372036854775808 then(⟨x.z/y.z,true⟩,⟨x.z%y.z,true⟩)
 else if x.z.tmod y.z<0 then(IJ (AX (x.z.tdiv y.z)) ⟨1,true⟩,D8 (AX (x.z.tmod y.z)) y)else(AX (x.z.tdiv y.z),AX (x.z.tmod y.z))
theorem gp (a b:Int)(hb:0<b):(a.tmod b<0->a.tdiv b-1=a/b/\a.tmod b+b=a%b)/\(¬a.tmod b<0->a.tdiv b=a/b/\a.tmod b=a%b):=by
 have e1:=Int.tdiv_eq_ediv (a:=a) (b:=b);have e2:=Int.tmod_add_mul_tdiv a b;have e3:=Int.emod_add_mul_ediv a b;have e4:=Int.emod_nonneg a (show b≠0 by omega);have e5:=Int.emod_lt_of_pos a hb;have hsg:b.sign=1:=Int.sign_eq_one_of_pos hb;rw[hsg]at e1;split at e1
 ·rw[Int.add_zero]at e1
  rw[e1]at e2;constructor
  ·intro h;omega
  ·intro _;exact⟨e1,by omega⟩
 ·rename_i hc
  have hd:¬b ∣ a:=λh=>hc (Or.inr h)
  have hr:a%b≠0:=λh=>hd (Int.dvd_of_emod_eq_zero h)
  have e6:b*(a/b+1)=b*(a/b)+b:=by rw[Int.mul_add,Int.mul_one]
  rw[e1,e6]at e2;constructor
  ·intro _;exact⟨by omega,by omega⟩
  ·intro h;omega
theorem Ys {x y:GI}(hy:0<y.z):(Dv x y).1.z=x.z/y.z/\(Dv x y).2.z=x.z%y.z:=by
 obtain⟨f1,f2⟩:=gp x.z y.z hy;unfold Dv;split
 ·exact⟨rfl,rfl⟩
 ·split
  ·rename_i h
   rw[aO,Me];exact f1 h
  ·rename_i h
   exact f2 h
theorem Xz {x y:GI}(hx:x.wf)(hy:y.wf)(h0:0<y.z):(Dv x y).1.wf/\(Dv x y).2.wf:=by
 unfold Dv;split
 ·rename_i h
  have hx1:=hx.1 h.1;have hy1:=hy.1 h.2.1;obtain⟨_,_,h3⟩:=h;have hm:=Int.emod_lt_of_pos x.z h0;have hm2:=Int.emod_nonneg x.z (show y.z≠0 by omega);refine⟨⟨λ_=>?_,λh=>by cases h⟩,⟨λ_=>⟨by dsimp only;omega,by dsimp only;omega⟩,λh=>by cases h⟩⟩;dsimp only;have e3:=Int.emod_add_mul_ediv x.z y.z;constructor
  ·rcases Int.lt_or_le (x.z/y.z) (-9223372036854775808)with h|h
   ·exfalso
    have h8:y.z*(x.z/y.z+1)<=1*(x.z/y.z+1):=Int.mul_le_mul_of_nonpos_right (by omega) (by omega);rw[Int.mul_add,Int.mul_one]at h8;omega
   ·exact h
  ·rcases Int.lt_or_le (x.z/y.z) 9223372036854775808 with h|h
   ·exact h
   ·exfalso
    have h5:(1:Int)*(x.z/y.z)<=y.z*(x.z/y.z):=Int.mul_le_mul_of_nonneg_right (by omega) (by omega);omega
 ·split
  ·exact⟨YU _ _,MV _ _⟩
  ·exact⟨Cf _,Cf _⟩
theorem iu (a b:Int)(hb:0<b):Dw (decide (a<0)) (a.natAbs/b.natAbs)=a.tdiv b/\Dw (decide (a<0)) (a.natAbs%b.natAbs)=a.tmod b:=by
 obtain⟨n,rfl⟩:∃n:Nat,b=n:=⟨b.natAbs,by omega⟩
 rw[EO]
 by_cases h:a<0
 ·obtain⟨m,rfl⟩:∃m:Nat,a = -(m:Int):=⟨a.natAbs,by omega⟩
  rw[AY h,L2,EO,Int.neg_tdiv,Int.neg_tmod];exact⟨rfl,rfl⟩
 ·obtain⟨m,rfl⟩:∃m:Nat,a=(m:Int):=⟨a.natAbs,by omega⟩
  rw[Ah h,EO];exact⟨rfl,rfl⟩
theorem gB (x y:GI)(hx:x.wf)(hy:y.wf)(h0:0<y.z)(fx:x.few)(fy:y.few)(hn:¬(x.sm=true/\y.sm=true/\x.z ≠ -9223372036854775808)):
  AK C0 240 [x.D,y.D] (.tup [(Dv x y).1.D,(Dv x y).2.D]):=by
 unfold Dv;rw[AG hn];refine Ak.walk w1 Th rfl λF=>?_
 have cx:=JG x hx;have cy:=JG y hy;have cd:=cZ x.z.natAbs y.z.natAbs (by omega) fx fy;obtain⟨t1,t2⟩:=iu x.z y.z h0;have lq:(Ag (x.z.natAbs/y.z.natAbs)).length<1000000:=DW (HL _ _ (Gi _ _)) fx;have lr:(Ag (x.z.natAbs%y.z.natAbs)).length<1000000:=DW (HL _ _ (Nat.mod_le _ _)) fx;have c1:=LP (decide (x.z<0)) (x.z.natAbs/y.z.natAbs) (Ft lq (by decide));have c2:=LP (decide (x.z<0)) (x.z.natAbs%y.z.natAbs) (Ft lr (by decide));rw[t1]at c1;rw[t2]at c2;have fq:(AX (x.z.tdiv y.z)).few:=by
  show(Ag (x.z.tdiv y.z).natAbs).length<1000000;rw[Int.natAbs_tdiv];exact lq
 have fr:(AX (x.z.tmod y.z)).few:=by
  show(Ag (x.z.tmod y.z).natAbs).length<1000000;rw[Int.natAbs_tmod];exact lr
 have f1:(⟨1,true⟩:GI).few:=by show(Ag 1).length<1000000;rw[MF (by decide) (by decide)];decide
 have cg:=Ml (AX (x.z.tmod y.z)) (Cf _);have cs:=bx (AX (x.z.tdiv y.z)) ⟨1,true⟩ (Cf _) ⟨λ_=>⟨by decide,by decide⟩,λh=>by cases h⟩ fq f1;have ca:=OO (AX (x.z.tmod y.z)) y (Cf _) hy fr fy;rw[Di]at cg;have co:AK C0 152 [i64 1] (⟨1,true⟩:GI).D:=CE DV 1000 40 (by kernel_rfl);have hpx:AA x.w:=AJ;have hpy:AA y.w:=AJ;have hpq:AA (AX (x.z.tdiv y.z)).w:=AJ;have hpr:AA (AX (x.z.tmod y.z)).w:=AJ;have hps:AA (IJ (AX (x.z.tdiv y.z)) ⟨1,true⟩).w:=AJ;have hpa:AA (D8 (AX (x.z.tmod y.z)) y).w:=AJ;have hp1:AA (⟨1,true⟩:GI).w:=AJ;clear t1 t2 lq lr fq fr f1;dsimp only[GI.D]at*;refine fR 0 ?_;refine Dg ⟨[(2,.optr 0 0 2 0 0),(3,.optr 1 1 2 0 0),(4,.optr 2 2 2 0 0),(5,.optr 3 3 2 0 0)],[⟨3,3,139,2,[Cw 0]⟩,⟨2,2,139,2,[Cw 0]⟩,⟨1,1,139,2,[.agg [i64 y.s,y.w]]⟩,⟨0,0,139,2,[.agg [i64 x.s,x.w]]⟩],90⟩ ?_ ?_
 ·obtain⟨a,sa⟩:=x
  obtain⟨b,sb⟩:=y;clear cx cy cd c1 c2 cg cs ca co hpq hpr hps hpa hp1;have nx:sa=false->(Ag a.natAbs).map AS≠[]:=λh=>HP (by
   intro h0;subst h;exact hx.2 rfl ⟨by dsimp only;omega,by dsimp only;omega⟩)
  have ny:sb=false->(Ag b.natAbs).map AS≠[]:=λh=>HP (by
   intro h0;subst h;exact hy.2 rfl ⟨by dsimp only;omega,by dsimp only;omega⟩)
  unfold GI.s GI.w wD wL at*;dsimp only at*;generalize(Ag a.natAbs).map AS=ka at*;generalize(Ag b.natAbs).map AS=kb at*;cases sa with
  |false=>
   have nx:=nx rfl;dsimp only at*;generalize(if a<0 then(-1:Int)else 1)=sg at*;generalize(match sb with|true=>b|false=>if b<0 then(-1:Int)else 1)=sh at*;generalize(match sb with|true=>CK|false=>D.sl false 1 kb)=wy at*;refine AC.seq ?_;refine Aq w1 100 (by kernel_rfl) ?_;refine AV (At (@ne_eq (List D)) nx EP) ?_;refine AE kT ?_;refine AE kT ?_;refine AE kT ?_;refine AO ?_;refine Ap ?_;exact And.intro (by trivial) (AL)
  |true=>
   dsimp only at*;cases sb with
   |false=>
    have ny:=ny rfl;dsimp only at*;generalize(if b<0 then(-1:Int)else 1)=sh at*;refine AC.seq ?_;refine Aq w1 100 (by kernel_rfl) ?_;refine AV (At (@ne_eq (List D)) ny EP) ?_;refine AE (BW kT (@ne_eq (List D)) ny EP) ?_;refine AE (BW kT (@ne_eq (List D)) ny EP) ?_;refine AE (BW kT (@ne_eq (List D)) ny EP) ?_;refine AO ?_;refine Ap ?_;exact And.intro (by trivial) (AL)
   |true=>
    have ha:a = -9223372036854775808:=Cy λh=>hn ⟨rfl,rfl,h⟩
    subst ha;dsimp only at*;refine sZ 100 ?_
    repeat'(first|(refine And.intro (by exact B6) ?_;refine Aw ?_)|((refine Bv (λhb=>?_) (λhb=>?_))<;>(try simp only[Bi,Bs]at hb)<;>(try simp only[hb])<;>(refine Aw ?_)))
    refine AO ?_;refine Ap ?_;exact And.intro (by trivial) (AL)
 ·refine fR 600 ?_
  refine dI cx ?_;refine fR 700 ?_;refine dI cy ?_;refine fR 800 ?_;refine dI cd ?_;refine fR 900 ?_;refine dI c1 ?_;refine dI c2 ?_;refine AC.seq ?_;refine fR 1000 ?_;refine dI cg ?_
  by_cases h:x.z.tmod y.z<0
  ·have e:decide (max (-1) (min 1 (x.z.tmod y.z))<0)=true:=AY (by omega)
   rw[AH h,e];refine AO ?_;refine B8 w1 1100 [0,1,2,3,4] [5,6,7] (by kernel_rfl) ?_;refine CC ?_;refine BX.same _ (co) AJ ?_;refine CC ?_;refine BX.same _ (cs) AJ ?_;refine CC ?_;refine dI ca ?_;refine AC.seq ?_;refine Ov w1 1200 [0,1,2] [3] 2 [0] (2) (by kernel_rfl) (by kernel_rfl) ?_;refine CC ?_;refine CC ?_;refine Al ?_;exact AN rfl AA.out
  ·have e:decide (max (-1) (min 1 (x.z.tmod y.z))<0)=false:=Ah (by omega)
   rw[AG h,e];refine AO ?_;refine Ap ?_;refine AC.seq ?_;refine Ov w1 1200 [0,1,2] [3] 2 [0] (2) (by kernel_rfl) (by kernel_rfl) ?_;refine CC ?_;refine CC ?_;refine Al ?_;exact AN rfl AA.out
theorem XK (x y:GI)(hx:x.wf)(hy:y.wf)(h0:0<y.z)(fx:x.few)(fy:y.few):AK C0 240 [x.D,y.D] (.tup [(Dv x y).1.D,(Dv x y).2.D]):=by
 by_cases h:x.sm=true/\y.sm=true/\x.z ≠ -9223372036854775808
 ·unfold Dv
  rw[AH h];obtain⟨a,sa⟩:=x;obtain⟨b,sb⟩:=y;obtain⟨h1,h2,h3⟩:=h;dsimp only at h1 h2 h3 h0;subst h1;subst h2;have ra:=hx.1 rfl;have rb:=hy.1 rfl;dsimp only at ra rb;exact iO a b h0 ⟨by omega,by omega⟩ ⟨by omega,by omega⟩
 ·exact gB x y hx hy h0 fx fy h
theorem bn (x y:GI)(hx:x.wf)(hy:y.wf)(h0:0<y.z)(fx:x.few)(fy:y.few):AK C0 196 [x.D,y.D] (Dv x y).1.D:=by
 refine Ak.walk w1 ZL rfl λF=>?_
 have cg:=Ml y hy;have cd:=XK x y hx hy h0 fx fy;have e1:decide (max (-1) (min 1 y.z)<0)=false:=Ah (by omega);have hpx:AA x.w:=AJ;have hpy:AA y.w:=AJ;have hpq:AA (Dv x y).1.w:=AJ;have hpr:AA (Dv x y).2.w:=AJ;dsimp only[GI.D]at*;generalize(Dv x y).1.s=qs at*;generalize(Dv x y).1.w=qw at*;generalize(Dv x y).2.s=rs at*;generalize(Dv x y).2.w=rw at*;refine fR 0 ?_;refine AC.seq ?_;refine fR 100 ?_;refine dI cg ?_;rw[e1];refine AO ?_;refine Ap ?_;refine fR 300 ?_;refine dI cd ?_;refine fR 400 ?_;refine Al ?_;exact AN rfl AA.out
theorem Xh (x:GI)(h:x.wf):Lq x=AX (x.z.natAbs:Nat):=by
 have h1:=lz x h;have h2:=oX x;rw[OP h1 (by omega),h2]
theorem Hz {n:Nat}(h:(Ag n).length<1000000):(AX (n:Int)).few:=by
 show(Ag (n:Int).natAbs).length<1000000;rw[EO];exact h
theorem XJ {a b:Nat}(hb:0<b):Dv (AX a) (AX b)=(AX ((a/b:Nat):Int),AX ((a%b:Nat):Int)):=by
 have hb':(0:Int)<(AX (b:Int)).z:=by show(0:Int)<(b:Int);omega
 obtain⟨h1,h2⟩:=Xz (Cf a) (Cf b) hb';obtain⟨h3,h4⟩:=Ys (x:=AX a) hb';have e3:(Dv (AX a) (AX b)).1.z=((a/b:Nat):Int):=by rw[h3];exact(Int.natCast_ediv a b).symm
 have e4:(Dv (AX a) (AX b)).2.z=((a%b:Nat):Int):=by rw[h4];exact(Int.natCast_emod a b).symm
 have c3:=OP h1 (by rw[e3];generalize a/b=q;omega);have c4:=OP h2 (by rw[e4];generalize a%b=q;omega);rw[e3]at c3;rw[e4]at c4;generalize Dv (AX a) (AX b)=p at*;obtain⟨p1,p2⟩:=p;dsimp only at c3 c4;rw[c3,c4]
theorem br (x y:GI)(hx:x.wf)(hy:y.wf)(fx:x.few)(fy:y.few):AK C0 195 [x.D,y.D] (AX (Nat.gcd x.z.natAbs y.z.natAbs:Nat)).D:=by
 refine Ak.walk w1 ZK rfl λF=>?_
 have c1:=bE x hx fx;have c2:=bE y hy fy;rw[Xh x hx]at c1;rw[Xh y hy]at c2;have hpx:AA x.w:=AJ;have hpy:AA y.w:=AJ;have hpm:∀n:Nat,AA (AX (n:Int)).w:=λn=>AJ
 unfold GI.few at fx fy;generalize x.z.natAbs=a at*;generalize y.z.natAbs=b at*;dsimp only[GI.D]at*;refine fR 0 ?_;refine AC.seq ?_;refine B8 w1 100 [0,1,2] [3,4,5] (by kernel_rfl) ?_;refine CC ?_;refine BX.same _ (c1) AJ ?_;refine CC ?_;refine dI c2 ?_;refine AC.seq ?_;refine AC.block ?_;refine AC.loop (α:=Nat×Nat×Nat) (λp=>⟨[(2,.optr 0 0 2 0 0),(3,.optr 1 1 2 0 0),(4,.optr 2 2 2 0 0)],[⟨2,2,139,2,[Cw 0]⟩,⟨1,1,139,2,[.agg [i64 (AX (p.2.1:Int)).s,(AX (p.2.1:Int)).w]]⟩,⟨0,0,139,2,[.agg [i64 (AX (p.1:Int)).s,(AX (p.1:Int)).w]]⟩],p.2.2⟩) (λp=>p.2.1)
  (λp=>Nat.gcd p.1 p.2.1=Nat.gcd a b/\(Ag p.1).length<1000000/\(Ag p.2.1).length<1000000) (a,b,_) ⟨rfl,fx,fy⟩ AL ?_
 rintro⟨u,v,n⟩ F ⟨g1,g2,g3⟩;dsimp only at g1 g2 g3⊢;have cg:=Ml (AX (v:Int)) (Cf _);rw[Di]at cg;dsimp only[GI.D]at cg;refine AC.seq ?_;refine fR 200 ?_;refine dI cg ?_;rcases Db v with hv|hv
 ·subst hv
  have e2:(max (-1) (min 1 ((0:Nat):Int)) != 0)=false:=by decide
  rw[e2];refine AO ?_;refine CA ?_;refine fR 500 ?_;refine Al ?_;refine AN ?_ AA.out;rw[<-g1,Nat.gcd_zero_right]
 ·have e2:(max (-1) (min 1 (v:Int)) != 0)=true:=by
   have:max (-1) (min 1 (v:Int))=1:=by omega
   rw[this];rfl
  have cd:=XK (AX (u:Int)) (AX (v:Int)) (Cf _) (Cf _) (by show(0:Int)<(v:Int);omega) (Hz g2) (Hz g3);rw[XJ hv]at cd;dsimp only[GI.D]at cd;rw[e2];refine AO ?_;refine Ap ?_;refine AC.block ?_;refine fR 300 ?_;refine dI cd ?_;refine Ov w1 400 [0,1,2] [3] 2 [0] (0) (by kernel_rfl) (by kernel_rfl) ?_;refine CC ?_;refine CC ?_;have hm:u%v<v:=B5 u hv;refine⟨(v,u%v,_),⟨?_,g3,DW (HL _ _ (Nat.mod_le _ _)) g2⟩,hm,AL⟩;rw[<-g1,NL u v,Nat.gcd_rec v u,NL]
structure GF where
 n:GI
 d:Nat
abbrev GF.D (x:GF):D:=.agg [i64 x.n.s,x.n.w,i64 (AX (x.d:Int)).s,(AX (x.d:Int)).w]
def Ho (r:Rat)(x:GF):Prop:=x.n.wf/\x.n.z=r.num/\x.d=r.den
theorem ll {a b:Nat}(hb:0<b)(h:(Ag b).length<1000000):(Ag (Nat.gcd a b)).length<1000000:=DW (HL _ _ (Nat.gcd_le_right _ hb)) h
def IE (x:GI)(d:Nat):GF:=if d=1 then⟨x,1⟩else⟨(Dv x (AX (Nat.gcd x.z.natAbs d:Nat))).1,d/Nat.gcd x.z.natAbs d⟩
theorem Pv (x:GI)(d:Nat)(hx:x.wf)(hd:0<d):Ho (mkRat x.z d) (IE x d):=by
 have hg:0<Nat.gcd x.z.natAbs d:=O6 _ hd;have e:mkRat x.z d=Rat.normalize x.z d (by omega):=(Rat.normalize_eq_mkRat _).symm;rw[e,Rat.normalize_eq];unfold IE;split
 ·rename_i h
  subst h;refine⟨hx,?_,?_⟩
  ·dsimp only;rw[Nat.gcd_one_right];simp
  ·dsimp only;rw[Nat.gcd_one_right]
 ·have hg':(0:Int)<(AX (Nat.gcd x.z.natAbs d:Nat)).z:=by show(0:Int)<(Nat.gcd x.z.natAbs d:Nat);omega
  exact⟨(Xz hx (Cf _) hg').1,(Ys hg').1,rfl⟩
theorem To:AX ((1:Nat):Int)=⟨1,true⟩:=JQ ⟨by decide,by decide⟩
theorem RK {d:Nat}(h:Sm (d:Int)):(AX (d:Int)).s=(d:Int)/\(AX (d:Int)).w=CK:=by rw[JQ h];exact⟨rfl,rfl⟩
theorem Un {d:Nat}(h:¬Sm (d:Int)):(AX (d:Int)).s=1/\(AX (d:Int)).w=.sl false 1 ((Ag d).map AS)/\(Ag d).map AS≠[]:=by
 rw[Tn h];refine⟨?_,rfl,HP ?_⟩
 ·show(if(d:Int)<0 then(-1:Int)else 1)=1
  rw[AG (by omega)]
 ·intro h0
  subst h0;exact h ⟨by decide,by decide⟩
def Kb (x y:GI):GF:=IE (if y.z<0 then AX (-x.z)else x) y.z.natAbs
theorem kE (x y:GI)(hx:x.wf)(h0:y.z≠0):Ho (Rat.divInt x.z y.z) (Kb x y):=by
 unfold Kb
 by_cases h:y.z<0
 ·rw[AH h]
  have:=Pv (AX (-x.z)) y.z.natAbs (Cf _) (by omega)
  rw[Di]at this;have e:mkRat (-x.z) y.z.natAbs=Rat.divInt x.z y.z:=by
   obtain⟨k,hk⟩:∃k,y.z=Int.negSucc k:=by
    cases hy:y.z with
    |ofNat n=>rw[hy]at h;simp at h;omega
    |negSucc k=>exact⟨k,rfl⟩
   rw[hk];show mkRat (-x.z) (k+1)=_;exact(Rat.normalize_eq_mkRat (by omega)).symm
  rw[e]at this;exact this
 ·rw[AG h]
  have:=Pv x y.z.natAbs hx (by omega)
  have e:mkRat x.z y.z.natAbs=Rat.divInt x.z y.z:=by
   rw[<-Rat.divInt_ofNat];congr 1;omega
  rw[e]at this;exact this
theorem au (x y:GI)(hx:x.wf)(hy:y.wf)(h0:y.z≠0)(fx:x.few)(fy:y.few):AK C0 150 [x.D,y.D] (Kb x y).D:=by
 refine Ak.walk w1 Zr rfl λF=>?_
 have cg:=Ml y hy;have cn1:=OR x hx fx;have cn2:=OR y hy fy;obtain⟨x',hx'⟩:∃x',x'=if y.z<0 then AX (-x.z)else x:=⟨_,rfl⟩
 have wx':x'.wf:=by rw[hx'];split;exact Cf _;exact hx
 have fx':x'.few:=by rw[hx'];split;exact Xo fx;exact fx
 have hd:0<y.z.natAbs:=by omega
 have fd:(Ag y.z.natAbs).length<1000000:=fy;have fdg:=Hz fd;have ey:y.z<0->AX (-y.z)=AX (y.z.natAbs:Int):=λh=>by congr 1;omega
 have ey':¬y.z<0->y=AX (y.z.natAbs:Int):=λh=>by
  rw[OP hy (by omega)];show AX y.z=AX (y.z.natAbs:Int)
  congr 1;omega
 unfold Kb;rw[<-hx'];generalize hdd:y.z.natAbs=d at*;have hpx:AA x.w:=AJ;have hpy:AA y.w:=AJ;have hpx':AA x'.w:=AJ;have hpd:AA (AX (d:Int)).w:=AJ;have hg:0<Nat.gcd x'.z.natAbs d:=O6 _ hd;have cc:=br x' (AX (d:Int)) wx' (Cf _) fx' fdg;rw[Di,EO]at cc;have fgg:(AX (Nat.gcd x'.z.natAbs d:Nat)).few:=Hz (ll hd fd);have cq1:=bn x' (AX (Nat.gcd x'.z.natAbs d:Nat)) wx' (Cf _) (by show(0:Int)<(Nat.gcd x'.z.natAbs d:Nat);omega) fx' fgg;have cq2:=bn (AX (d:Int)) (AX (Nat.gcd x'.z.natAbs d:Nat)) (Cf _) (Cf _) (by show(0:Int)<(Nat.gcd x'.z.natAbs d:Nat);omega) fdg fgg;rw[XJ hg]at cq2;have hpg:AA (AX ((Nat.gcd x'.z.natAbs d:Nat):Int)).w:=AJ;have hpq1:AA (Dv x' (AX (Nat.gcd x'.z.natAbs d:Nat))).1.w:=AJ;have hpq2:AA (AX ((d/Nat.gcd x'.z.natAbs d:Nat):Int)).w:=AJ;unfold IE GF.D;dsimp only[GI.D]at*;refine fR 0 ?_;refine Dg ⟨[(2,.optr 0 0 2 0 0),(3,.optr 1 1 2 0 0),(4,.optr 2 2 4 0 0)],[⟨2,2,141,4,[.agg [i64 0,CK,i64 0,CK]]⟩,⟨1,1,139,2,[.agg [i64 (AX (d:Int)).s,(AX (d:Int)).w]]⟩,⟨0,0,139,2,[.agg [i64 x'.s,x'.w]]⟩],90⟩ ?_ ?_
 ·by_cases h:y.z<0
  ·have e1:decide (max (-1) (min 1 y.z)<0)=true:=AY (by omega)
   rw[AH h]at hx';subst hx';rw[<-ey h];refine fR 100 ?_;refine dI cg ?_;rw[e1];refine AO ?_;refine B8 w1 200 [0,1,2] [3,4,5] (by kernel_rfl) ?_;refine CC ?_;refine BX.same _ (cn1) AJ ?_;refine CC ?_;refine dI cn2 ?_;exact⟨rfl,AL⟩
  ·have e1:decide (max (-1) (min 1 y.z)<0)=false:=Ah (by omega)
   rw[AG h]at hx';subst hx';have ey:=ey' h;refine fR 100 ?_;refine dI cg ?_;rw[e1];refine AO ?_;refine Ap ?_;rw[<-ey];exact⟨rfl,AL⟩
 by_cases h1:d=1
 ·subst h1
  rw[AH rfl,To];refine AC.seq ?_;refine sZ 300 ?_
  repeat'(first|(refine And.intro (by exact B6) ?_;refine Aw ?_)|((refine Bv (λhb=>?_) (λhb=>?_))<;>(try simp only[Bi,Bs]at hb)<;>(try simp only[hb])<;>(refine Aw ?_)))
  refine AO ?_;refine fR 400 ?_;refine Al ?_;exact AN rfl AA.out
 ·rw[AG h1]
  refine Dg ⟨[(2,.optr 0 0 2 0 0),(3,.optr 1 1 2 0 0),(4,.optr 2 2 4 0 0)],[⟨2,2,141,4,[.agg [i64 0,CK,i64 0,CK]]⟩,⟨1,1,139,2,[.agg [i64 (AX (d:Int)).s,(AX (d:Int)).w]]⟩,⟨0,0,139,2,[.agg [i64 x'.s,x'.w]]⟩],98⟩ ?_ ?_
  ·by_cases hs:Sm (d:Int)
   ·obtain⟨a1,a2⟩:=RK hs
    rw[a1,a2];have e2:((d:Int)==1)=false:=Bq.2 (by omega);refine sZ 300 ?_
    repeat'(first|(refine And.intro (by exact B6) ?_;refine Aw ?_)|((refine Bv (λhb=>?_) (λhb=>?_))<;>(try simp only[Bi,Bs]at hb)<;>(try simp only[hb])<;>(refine Aw ?_)))
    try simp only[e2]
    refine AO ?_;refine Ap ?_;exact⟨rfl,⟨Gt _,⟨.refl _,.refl _,.refl _,trivial⟩,Ai _⟩⟩
   ·obtain⟨a1,a2,a3⟩:=Un hs
    rw[a1,a2];generalize(Ag d).map AS=l at*;refine AC.seq ?_;refine Aq w1 300 (by kernel_rfl) ?_;refine AV (At (@ne_eq (List D)) a3 EP) ?_;refine AE kT ?_;refine AO ?_;refine Ap ?_;exact⟨rfl,⟨Gt _,⟨.refl _,.refl _,.refl _,trivial⟩,Ai _⟩⟩
  ·refine fR 500 ?_
   refine dI cc ?_;refine AC.seq ?_;refine B8 w1 600 [0,1,2,3,4] [5,6,7] (by kernel_rfl) ?_;refine CC ?_;refine BX.same _ (cq1) AJ ?_;refine CC ?_;refine dI cq2 ?_;refine Al ?_;exact AN rfl AA.out
def rk (r:Rat)(k:Nat):Prop:=(Ag r.num.natAbs).length<=k/\(Ag r.den).length<=k
theorem rk.mono {r:Rat}{k l:Nat}(h:rk r k)(hl:k<=l):rk r l:=⟨BR h.1 hl,BR h.2 hl⟩
theorem QQ {n:Int}{d k:Nat}(hd:d≠0)(h1:(Ag n.natAbs).length<=k)(h2:(Ag d).length<=k):rk (Rat.normalize n d hd) k:=by
 rw[Rat.normalize_eq];exact⟨BR (HL _ _ (Int.natAbs_ediv_le_natAbs _ _)) h1,BR (HL _ _ (Gi _ _)) h2⟩
theorem KA (a b:Int):(Ag (a*b).natAbs).length<=(Ag a.natAbs).length+(Ag b.natAbs).length:=by
 rw[NE];exact LH _ _
theorem Vy (a b:Int):(Ag (a+b).natAbs).length<=max (Ag a.natAbs).length (Ag b.natAbs).length+1:=
 BR (HL _ _ (Int.natAbs_add_le a b)) (Wa _ _)
theorem aH {a b:Rat}{i j:Nat}(ha:rk a i)(hb:rk b j):rk (a+b) (i+j+1):=by
 rw[Rat.add_def];have h1:=KA a.num b.den;have h2:=KA b.num a.den;have h3:=Vy (a.num*b.den) (b.num*a.den);have h4:=LH a.den b.den;rw[EO]at h1 h2;obtain⟨a1,a2⟩:=ha;obtain⟨b1,b2⟩:=hb;exact QQ _ (by omega) (by omega)
theorem sj {a b:Rat}{i j:Nat}(ha:rk a i)(hb:rk b j):rk (a*b) (i+j):=by
 rw[Rat.mul_def];have h1:=KA a.num b.num;have h4:=LH a.den b.den;obtain⟨a1,a2⟩:=ha;obtain⟨b1,b2⟩:=hb;exact QQ _ (by omega) (by omega)
structure FR (r:Rat)(x:GF)(k:Nat):Prop where
 is:Ho r x
 rk:rk r k
theorem FR.fn {r:Rat}{x:GF}{k:Nat}(h:FR r x k)(hk:k<1000000):x.n.few:=by
 show(Ag x.n.z.natAbs).length<1000000;rw[h.is.2.1];have:=h.rk.1;omega
theorem FR.ln {r:Rat}{x:GF}{k:Nat}(h:FR r x k):(Ag x.n.z.natAbs).length<=k:=by rw[h.is.2.1];exact h.rk.1
theorem FR.ld {r:Rat}{x:GF}{k:Nat}(h:FR r x k):(Ag x.d).length<=k:=by rw[h.is.2.2];exact h.rk.2
theorem FR.dpos {r:Rat}{x:GF}{k:Nat}(h:FR r x k):0<x.d:=by rw[h.is.2.2];exact r.den_pos
theorem Oj (x:GI)(d:Nat)(hx:x.wf)(fx:(Ag x.z.natAbs).length<400000)(fd:(Ag d).length<400000):AK C0 151 [x.D,(AX (d:Int)).D] (AX (x.z*d)).D:=by
 have:=bu x (AX (d:Int)) hx (Cf _) fx (by rw[Di,EO];exact fd)
 rwa [Di]at this
theorem Uo (c d:Nat)(fc:(Ag c).length<400000)(fd:(Ag d).length<400000):AK C0 151 [(AX (c:Int)).D,(AX (d:Int)).D] (AX ((c*d:Nat):Int)).D:=by
 have:=Oj (AX (c:Int)) d (Cf _) (by rw[Di,EO];exact fc) fd
 rw[Di,<-Fv]at this;exact this
theorem W3 (x:GI)(d:Nat)(hx:x.wf)(hd:0<d)(fx:x.few)(fd:(Ag d).length<1000000):AK C0 150 [x.D,(AX (d:Int)).D] (IE x d).D:=by
 have:=au x (AX (d:Int)) hx (Cf _) (by rw[Di];omega) fx (Hz fd)
 unfold Kb at this;rw[Di,AG (by omega),EO]at this;exact this
theorem SX (x:GF)(hd:0<x.d):AK C0 153 [x.D] (As (decide (x.d=1))):=by
 refine Ak.walk w1 Zt rfl λF=>?_
 obtain⟨y,d⟩:=x;dsimp only[GF.D]at hd⊢;have hpy:AA y.w:=AJ;generalize y.s=ys at*;generalize y.w=yw at*
 by_cases hs:Sm (d:Int)
 ·obtain⟨a1,a2⟩:=RK hs
  rw[a1,a2];have e2:((d:Int)==1)=decide (d=1):=by
   rw[Fu,EA,decide_eq_true_iff];omega
  refine fR 0 ?_;refine sZ 100 ?_
  repeat'(first|(refine And.intro (by exact B6) ?_;refine Aw ?_)|((refine Bv (λhb=>?_) (λhb=>?_))<;>(try simp only[Bi,Bs]at hb)<;>(try simp only[hb])<;>(refine Aw ?_)))
  try simp only[e2]
  refine Al ?_;exact AN rfl AA.out
 ·obtain⟨a1,a2,a3⟩:=Un hs
  rw[a1,a2];have e2:decide (d=1)=false:=Ah λh=>hs (by rw[h];exact⟨by decide,by decide⟩)
  rw[e2];generalize(Ag d).map AS=l at*;refine fR 0 ?_;refine AC.seq ?_;refine Aq w1 100 (by kernel_rfl) ?_;refine AV (At (@ne_eq (List D)) a3 EP) ?_;refine AE kT ?_;refine Al ?_;exact AN rfl AA.out
def Jg (x y:GF):GF:=if x.d=1/\y.d=1 then⟨D8 x.n y.n,1⟩else IE (D8 (AX (x.n.z*y.d)) (AX (y.n.z*x.d))) (x.d*y.d)
theorem mA {a b:Rat}{x y:GF}(hx:Ho a x)(hy:Ho b y):Ho (a+b) (Jg x y):=by
 obtain⟨x1,x2,x3⟩:=hx;obtain⟨y1,y2,y3⟩:=hy;rw[Rat.add_def,Rat.normalize_eq_mkRat,<-x2,<-x3,<-y2,<-y3];unfold Jg;split
 ·rename_i h
  rw[h.1,h.2];refine⟨MV _ _,?_,?_⟩
  ·dsimp only
   rw[Me];show _=(mkRat (x.n.z*1+y.n.z*1) 1).num;rw[Int.mul_one,Int.mul_one,Rat.mkRat_one,Rat.num_intCast]
  ·dsimp only
   show _=(mkRat (x.n.z*1+y.n.z*1) 1).den;rw[Rat.mkRat_one,Rat.den_intCast]
 ·have:=Pv (D8 (AX (x.n.z*y.d)) (AX (y.n.z*x.d))) (x.d*y.d) (MV _ _) (HI (by rw[x3];exact a.den_pos) (by rw[y3];exact b.den_pos))
  rw[Me,Di,Di]at this;exact this
theorem Ym (x:GI):AK C0 148 [x.D] (⟨x,1⟩:GF).D:=by
 refine Ak.walk w1 Tc rfl λF=>?_
 have hpx:AA x.w:=AJ;unfold GF.D;rw[To];dsimp only[GI.D]at*;refine fR 0 ?_;refine AC.seq ?_;refine B8 w1 100 [0,1] [2,3] (by kernel_rfl) ?_;refine CC ?_;refine BX.same _ (OS 1) AJ ?_;refine CC ?_;refine Al ?_;exact AN rfl AA.out
theorem Qp {a b:Rat}{x y:GF}{i j:Nat}(hx:FR a x i)(hy:FR b y j)(hk:i+j<300000):AK C0 106 [x.D,y.D] (Jg x y).D:=by
 refine Ak.walk w1 Y3 rfl λF=>?_
 have v1:=SX x hx.dpos;have v2:=SX y hy.dpos;have l1:=hx.ln;have l2:=hy.ln;have l3:=hx.ld;have l4:=hy.ld;have dp:=HI hx.dpos hy.dpos;have m1:=Oj x.n y.d hx.is.1 (by omega) (by omega);have m2:=Oj y.n x.d hy.is.1 (by omega) (by omega);have m3:=Uo x.d y.d (by omega) (by omega);have z1:=KA x.n.z y.d;have z2:=KA y.n.z x.d;rw[EO]at z1 z2;have z3:=Vy (x.n.z*y.d) (y.n.z*x.d);have z4:=LH x.d y.d;have s1:=OO (AX (x.n.z*y.d)) (AX (y.n.z*x.d)) (Cf _) (Cf _) (by show(Ag (x.n.z*y.d).natAbs).length<1000000;omega) (by show(Ag (y.n.z*x.d).natAbs).length<1000000;omega);have s0:=OO x.n y.n hx.is.1 hy.is.1 (hx.fn (by omega)) (hy.fn (by omega));have mk:=W3 (D8 (AX (x.n.z*y.d)) (AX (y.n.z*x.d))) (x.d*y.d) (MV _ _) dp (by
  show(Ag (D8 (AX (x.n.z*y.d)) (AX (y.n.z*x.d))).z.natAbs).length<1000000;rw[Me,Di,Di];omega) (by omega)
 have wg:=Ym (D8 x.n y.n);have hp1:AA x.n.w:=AJ;have hp2:AA y.n.w:=AJ;have hp3:AA (AX (x.d:Int)).w:=AJ;have hp4:AA (AX (y.d:Int)).w:=AJ;have hp5:AA (D8 x.n y.n).w:=AJ;have hp6:AA (D8 (AX (x.n.z*y.d)) (AX (y.n.z*x.d))).w:=AJ;have hp7:AA (AX (x.n.z*y.d)).w:=AJ;have hp8:AA (AX (y.n.z*x.d)).w:=AJ;have hp9:AA (AX ((x.d*y.d:Nat):Int)).w:=AJ;have hq1:AA (IE (D8 (AX (x.n.z*y.d)) (AX (y.n.z*x.d))) (x.d*y.d)).n.w:=AJ;have hq2:AA (AX ((IE (D8 (AX (x.n.z*y.d)) (AX (y.n.z*x.d))) (x.d*y.d)).d:Int)).w:=AJ;have hq3:AA (AX ((1:Nat):Int)).w:=AJ;unfold Jg;clear z1 z2 z3 z4 l1 l2 l3 l4 dp hk hx hy;dsimp only[GI.D,GF.D]at*
 by_cases e1:x.d=1
 ·have fb:decide (x.d=1)=true:=AY e1
  rw[fb]at v1
  by_cases e2:y.d=1
  ·have fd:decide (y.d=1)=true:=AY e2
   rw[fd]at v2;rw[AH ⟨e1,e2⟩];refine fR 0 ?_;refine AC.seq ?_;refine fR 100 ?_;refine dI v1 ?_;dsimp only[Mr];refine CC ?_;dsimp only[Mr];refine CC ?_;refine dI v2 ?_;refine AO ?_;refine fR 200 ?_;refine dI s0 ?_;refine dI wg ?_;refine Al ?_;exact AN rfl AA.out
  ·have fd:decide (y.d=1)=false:=Ah e2
   rw[fd]at v2;rw[AG λh=>e2 h.2];refine fR 0 ?_;refine AC.seq ?_;refine fR 100 ?_;refine dI v1 ?_;dsimp only[Mr];refine CC ?_;dsimp only[Mr];refine CC ?_;refine dI v2 ?_;refine AO ?_;refine Ap ?_;refine AC.seq ?_;refine B8 w1 300 [0,1,2,3,4,5,6,7,8,9,10,11,12,13,14] [15,16,17] (by kernel_rfl) ?_;refine CC ?_;refine BX.same _ (m1) AJ ?_;refine CC ?_;refine BX.same _ (m2) AJ ?_;refine CC ?_;refine BX.same _ (s1) AJ ?_;refine CC ?_;refine dI m3 ?_;refine dI mk ?_;refine Al ?_;exact AN rfl AA.out
 ·have fb:decide (x.d=1)=false:=Ah e1
  rw[fb]at v1;rw[AG λh=>e1 h.1];refine fR 0 ?_;refine AC.seq ?_;refine fR 100 ?_;refine dI v1 ?_;dsimp only[Qz];refine CC ?_;dsimp only[Qz];refine CC ?_;refine AO ?_;refine Ap ?_;refine AC.seq ?_;refine B8 w1 300 [0,1,2,3,4,5,6,7,8,9,10,11,12,13,14] [15,16,17] (by kernel_rfl) ?_;refine CC ?_;refine BX.same _ (m1) AJ ?_;refine CC ?_;refine BX.same _ (m2) AJ ?_;refine CC ?_;refine BX.same _ (s1) AJ ?_;refine CC ?_;refine dI m3 ?_;refine dI mk ?_;refine Al ?_;exact AN rfl AA.out
theorem QJ {a b:Rat}{x y:GF}{i j:Nat}(hx:FR a x i)(hy:FR b y j):FR (a+b) (Jg x y) (i+j+1):=⟨mA hx.is hy.is,aH hx.rk hy.rk⟩
def IH (x y:GF):GF:=IE (AX (x.n.z*y.n.z)) (x.d*y.d)
theorem nF {a b:Rat}{x y:GF}(hx:Ho a x)(hy:Ho b y):Ho (a*b) (IH x y):=by
 obtain⟨x1,x2,x3⟩:=hx;obtain⟨y1,y2,y3⟩:=hy;rw[Rat.mul_def,Rat.normalize_eq_mkRat,<-x2,<-x3,<-y2,<-y3]
 have:=Pv (AX (x.n.z*y.n.z)) (x.d*y.d) (Cf _) (HI (by rw[x3];exact a.den_pos) (by rw[y3];exact b.den_pos))
 rw[Di]at this;exact this
theorem S5 {a b:Rat}{x y:GF}{i j:Nat}(hx:FR a x i)(hy:FR b y j):FR (a*b) (IH x y) (i+j):=⟨nF hx.is hy.is,sj hx.rk hy.rk⟩
theorem Ta {a b:Rat}{x y:GF}{i j:Nat}(hx:FR a x i)(hy:FR b y j)(hk:i+j<300000):AK C0 104 [x.D,y.D] (IH x y).D:=by
 refine Ak.walk w1 Y1 rfl λF=>?_
 have l1:=hx.ln;have l2:=hy.ln;have l3:=hx.ld;have l4:=hy.ld;have dp:=HI hx.dpos hy.dpos;have z1:=KA x.n.z y.n.z;have z4:=LH x.d y.d;have m1:=bu x.n y.n hx.is.1 hy.is.1 (by omega) (by omega);have m3:=Uo x.d y.d (by omega) (by omega);have mk:=W3 (AX (x.n.z*y.n.z)) (x.d*y.d) (Cf _) dp (by show(Ag (x.n.z*y.n.z).natAbs).length<1000000;omega) (by omega);have p1:AA x.n.w:=AJ;have p2:AA y.n.w:=AJ;have p3:AA (AX (x.d:Int)).w:=AJ;have p4:AA (AX (y.d:Int)).w:=AJ;have p5:AA (AX (x.n.z*y.n.z)).w:=AJ;have p6:AA (AX ((x.d*y.d:Nat):Int)).w:=AJ;have p7:AA (IE (AX (x.n.z*y.n.z)) (x.d*y.d)).n.w:=AJ;have p8:AA (AX ((IE (AX (x.n.z*y.n.z)) (x.d*y.d)).d:Int)).w:=AJ;unfold IH;clear l1 l2 l3 l4 dp z1 z4 hx hy;dsimp only[GI.D,GF.D]at*;refine fR 0 ?_;refine AC.seq ?_;refine B8 w1 100 [0,1,2,3,4,5,6,7,8] [9,10,11] (by kernel_rfl) ?_;refine CC ?_;refine BX.same _ (m1) AJ ?_;refine CC ?_;refine dI m3 ?_;refine dI mk ?_;refine Al ?_;exact AN rfl AA.out
def Jl (x:GF):GF:=Kb (AX (x.d:Int)) x.n
theorem mu {a:Rat}{x:GF}(hx:Ho a x)(h0:a≠0):Ho a⁻¹ (Jl x):=by
 obtain⟨x1,x2,x3⟩:=hx;have hn:x.n.z≠0:=by
  rw[x2];intro h;exact h0 (Rat.num_eq_zero.1 h)
 rw[Rat.inv_def,<-x2,<-x3];exact kE (AX (x.d:Int)) x.n (Cf _) hn
theorem sf {a:Rat}{k:Nat}(h:rk a k)(h0:a≠0):rk a⁻¹ k:=by
 rw[Rat.inv_def];obtain⟨h1,h2⟩:=h;have hn:a.num≠0:=λh=>h0 (Rat.num_eq_zero.1 h)
 rcases Int.lt_or_gt_of_ne hn with h|h
 ·obtain⟨m,hm⟩:∃m,a.num=Int.negSucc m:=by
   cases hy:a.num with
   |ofNat n=>rw[hy]at h;simp at h;omega
   |negSucc k=>exact⟨k,rfl⟩
  rw[hm]at h1⊢;exact QQ (n:=-(a.den:Int)) (d:=m+1) (by omega) (by rw[L2,EO];exact h2) h1
 ·obtain⟨m,hm⟩:∃m:Nat,a.num=(m:Int):=⟨a.num.natAbs,by omega⟩
  rw[hm]at h1 h⊢;rw[Rat.divInt_ofNat,<-Rat.normalize_eq_mkRat (by omega)];exact QQ _ (by rw[EO];exact h2) (by rw[EO]at h1;exact h1)
theorem YH {a:Rat}{x:GF}{k:Nat}(h:FR a x k)(h0:a≠0):FR a⁻¹ (Jl x) k:=⟨mu h.is h0,sf h.rk h0⟩
theorem oO {a:Rat}{x:GF}{k:Nat}(h:FR a x k)(h0:a≠0)(hk:k<1000000):AK C0 158 [x.D] (Jl x).D:=by
 refine Ak.walk w1 Zu rfl λF=>?_
 have l3:=h.ld;have hn:x.n.z≠0:=by
  rw[h.is.2.1];intro h;exact h0 (Rat.num_eq_zero.1 h)
 have mk:=au (AX (x.d:Int)) x.n (Cf _) h.is.1 hn (Hz (by omega)) (h.fn hk);have p1:AA x.n.w:=AJ;have p3:AA (AX (x.d:Int)).w:=AJ;have p7:AA (Kb (AX (x.d:Int)) x.n).n.w:=AJ;have p8:AA (AX ((Kb (AX (x.d:Int)) x.n).d:Int)).w:=AJ;unfold Jl;dsimp only[GI.D,GF.D]at*;refine fR 0 ?_;refine fR 100 ?_;refine dI mk ?_;refine Al ?_;exact AN rfl AA.out
def RE (x y:GF):GF:=IH x (Jl y)
theorem lc {a b:Rat}{x y:GF}{i j:Nat}(hx:FR a x i)(hy:FR b y j)(h0:b≠0):FR (a/b) (RE x y) (i+j):=by
 rw[Rat.div_def];exact S5 hx (YH hy h0)
theorem oN {a b:Rat}{x y:GF}{i j:Nat}(hx:FR a x i)(hy:FR b y j)(h0:b≠0)(hk:i+j<300000):AK C0 110 [x.D,y.D] (RE x y).D:=by
 refine Ak.walk w1 Y7 rfl λF=>?_
 have c1:=oO hy h0 (by omega);have c2:=Ta hx (YH hy h0) hk;have p1:AA x.n.w:=AJ;have p2:AA y.n.w:=AJ;have p3:AA (AX (x.d:Int)).w:=AJ;have p4:AA (AX (y.d:Int)).w:=AJ;have p5:AA (Jl y).n.w:=AJ;have p6:AA (AX ((Jl y).d:Int)).w:=AJ;have p7:AA (IH x (Jl y)).n.w:=AJ;have p8:AA (AX ((IH x (Jl y)).d:Int)).w:=AJ;unfold RE;dsimp only[GI.D,GF.D]at*;refine fR 0 ?_;refine AC.seq ?_;refine B8 w1 100 [0,1,2] [3,4] (by kernel_rfl) ?_;refine CC ?_;refine BX.same _ (c1) AJ ?_;refine CC ?_;refine dI c2 ?_;refine Al ?_;exact AN rfl AA.out
def Li (a b:Rat):Int:=if a<b then -1 else if b<a then 1 else 0
theorem oF (a b:Rat):Du (a.num*b.den) (b.num*a.den)=Li a b:=by
 unfold Du Li;simp only[Rat.lt_iff]
theorem oM {a b:Rat}{x y:GF}{i j:Nat}(hx:FR a x i)(hy:FR b y j)(hk:i+j<300000):AK C0 232 [x.D,y.D] (i64 (Li a b)):=by
 refine Ak.walk w1 Za rfl λF=>?_
 have l1:=hx.ln;have l2:=hy.ln;have l3:=hx.ld;have l4:=hy.ld;have m1:=Oj x.n y.d hx.is.1 (by omega) (by omega);have m2:=Oj y.n x.d hy.is.1 (by omega) (by omega);have z1:=KA x.n.z y.d;have z2:=KA y.n.z x.d;rw[EO]at z1 z2;have cm:=uZ (AX (x.n.z*y.d)) (AX (y.n.z*x.d)) (Cf _) (Cf _) (by show(Ag (x.n.z*y.d).natAbs).length<1000000;omega) (by show(Ag (y.n.z*x.d).natAbs).length<1000000;omega);have e:Du (AX (x.n.z*y.d)).z (AX (y.n.z*x.d)).z=Li a b:=by
  rw[Di,Di,<-oF,hx.is.2.1,hx.is.2.2,hy.is.2.1,hy.is.2.2]
 rw[e]at cm;have p1:AA x.n.w:=AJ;have p2:AA y.n.w:=AJ;have p3:AA (AX (x.d:Int)).w:=AJ;have p4:AA (AX (y.d:Int)).w:=AJ;have p5:AA (AX (x.n.z*y.d)).w:=AJ;have p6:AA (AX (y.n.z*x.d)).w:=AJ;clear l1 l2 l3 l4 z1 z2 e hx hy;dsimp only[GI.D,GF.D]at*;refine fR 0 ?_;refine AC.seq ?_;refine B8 w1 100 [0,1,2,3,4,5,6,7,8] [9,10,11] (by kernel_rfl) ?_;refine CC ?_;refine BX.same _ (m1) AJ ?_;refine CC ?_;refine dI m2 ?_;refine dI cm ?_;refine Al ?_;exact AN rfl AA.out
def Gf (a:Rat):Int:=max (-1) (min 1 a.num)
theorem Xr {a:Rat}{x:GF}(hx:Ho a x):AK C0 183 [x.D] (i64 (Gf a)):=by
 refine Ak.walk w1 Z3 rfl λF=>?_
 have cg:=Ml x.n hx.1;rw[hx.2.1]at cg;have p1:AA x.n.w:=AJ;have p3:AA (AX (x.d:Int)).w:=AJ;unfold Gf;dsimp only[GI.D,GF.D]at*;refine fR 0 ?_;refine fR 100 ?_;refine dI cg ?_;refine Al ?_;exact AN rfl AA.out
abbrev sb (l:List UInt8):ByteArray:=⟨l.toArray⟩
theorem Ce (l:List UInt8):(sb l).size=l.length:=by simp[ByteArray.size]
theorem Ep (l:List UInt8)(i j:Nat):(sb l).extract i j=sb ((l.take j).drop i):=by
 apply ByteArray.ext;rw[ByteArray.data_extract];simp[List.drop_take]
theorem YQ (l:List UInt8):(sb l).toList=l:=by
 rw[ByteArray.toList_eq]
theorem Et (l m:List UInt8):BK (sb l) (sb m)=decide (l=m):=by
 unfold BK;rw[YQ,YQ,Fu,EA,decide_eq_true_iff]
def DK (l:List UInt8):Bool:=match l with
 | []=>false
 |c::_=>c==45
def Bn (l:List UInt8):List UInt8:=if DK l then l.drop 1 else l
def BJ (l:List UInt8):Nat:=(l.takeWhile (· != 47)).length
theorem K9 (l:List UInt8):BJ l<=l.length:=by
 unfold BJ;exact(List.takeWhile_sublist _).length_le
theorem eM (l:List UInt8):Lib.indexByte l 47=if BJ l<l.length then(BJ l:Int)else -1:=by
 induction l with
 |nil=>rfl
 |cons c l ih=>
  unfold Lib.indexByte
  by_cases h:c=47
  ·subst h
   simp[BJ]
  ·have e1:BJ (c::l)=BJ l+1:=by
    unfold BJ;rw[O0,AH (by simpa using h),Bo]
   have hb:(c==47)=false:=by simpa using h
   rw[hb,ih,e1,Bo]
   by_cases h2:BJ l<l.length
   ·have h3:BJ l+1<l.length+1:=by omega
    have h4:(((BJ l:Nat):Int) == -1)=false:=Bq.2 (by omega);simp only[h2,h3,h4,if_true,Hi,if_false];omega
   ·have h3:¬BJ l+1<l.length+1:=by omega
    simp only[h2,h3,Hi,if_false];rfl
theorem Vu (l:List UInt8)(hl:l.length<=1000000000):AK C0 235 [str (sb l),str (sb [45])] (As (DK l)):=by
 refine Ak.walk w1 Zd rfl λF=>?_
 have hsz:=Ce l;have hs1:=Ce [45];refine sR 0 ?_;refine AC.seq ?_;cases l with
 |nil=>
  have e1:decide (((sb []).size:Int)>=((sb [45]).size:Int))=false:=rfl;refine Aq w1 100 (by kernel_rfl) ?_;refine AV e1 ?_;refine AE e1 ?_;refine AE e1 ?_;refine Al ?_;exact AN rfl AA.out
 |cons c l=>
  have e1:decide (((sb (c::l)).size:Int)>=((sb [45]).size:Int))=true:=AY (by rw[hsz,hs1];simp only[Bo,Gg];omega);have e2:(sb (c::l)).extract 0 ((((sb [45]).size:Nat):Int)).toNat=sb [c]:=by rw[Ep];rfl
  have e3:BK (sb [c]) (sb [45])=DK (c::l):=by
   rw[Et,DK,Fu,decide_eq_true_iff,EA];simp
  have h0:(0:Int)<=((sb [45]).size:Int):=by omega
  have h1:((sb [45]).size:Int)<=((sb (c::l)).size:Int):=by rw[hsz,hs1];simp only[Bo,Gg];omega
  refine Aq w1 100 (by kernel_rfl) ?_;refine AV e1 ?_;refine AE (At e1 e2 e3) ?_;refine AE (At e1 e2 e3) ?_;refine Al ?_;exact AN rfl AA.out
theorem eL (l:List UInt8)(hl:l.length<=1000000000):AK C0 189 [str (sb l),str (sb [45])] (As (DK l)):=by
 refine Ak.walk w1 ZH rfl λF=>?_
 have c1:=Vu l hl;generalize sb l=s at*;generalize DK l=b at*;refine fR 0 ?_;refine fR 100 ?_;refine dI c1 ?_;refine Al ?_;exact AN rfl AA.out
theorem fS (l:List UInt8)(hl:l.length<=1000000000):AK C0 236 [str (sb l),str (sb [45])] (str (sb (Bn l))):=by
 refine Ak.walk w1 Ze rfl λF=>?_
 have c1:=Vu l hl;have hsz:=Ce l;unfold Bn;refine sR 0 ?_;refine AC.seq ?_;refine sR 100 ?_;refine cI c1 ?_;rcases hb:DK l with _|_
 ·rw[AG (by simp)]
  refine AO ?_;refine Ap ?_;refine sR 300 ?_;refine Al ?_;exact AN rfl AA.out
 ·rw[AH rfl]
  have h1:(0:Int)<=((sb [45]).size:Int):=by omega
  have h2:((sb [45]).size:Int)<=((sb l).size:Int):=by
   rw[hsz];show(1:Int)<=_;cases l with
   |nil=>cases hb
   |cons c l=>simp only[Bo];omega
  have e2:(sb l).extract (((sb [45]).size:Nat):Int).toNat (sb l).size=sb (l.drop 1):=by
   rw[Ep,hsz,B9 (Ai _)];rfl
  refine AO ?_;refine sZ 200 ?_;refine AV e2 ?_;refine Al ?_;exact AN rfl AA.out
theorem Rv (l:List UInt8)(hl:l.length<=1000000000):AK C0 190 [str (sb l),str (sb [45])] (str (sb (Bn l))):=by
 refine Ak.walk w1 ZI rfl λF=>?_
 have c1:=fS l hl;generalize sb l=s at*;generalize sb (Bn l)=t at*;refine fR 0 ?_;refine fR 100 ?_;refine dI c1 ?_;refine Al ?_;exact AN rfl AA.out
theorem gJ (l:List UInt8):AK C0 273 [str (sb l),.prim (.int .u8 47)] (i64 (if BJ l<l.length then(BJ l:Int)else -1)):=by
 refine Ak.walk w1 aa rfl λF=>?_
 have e1:firstIdx (sb l) (((47:Int)).toNat.toUInt8)=(if BJ l<l.length then(BJ l:Int)else -1):=by
  rw[Lib.firstIdx_eq];exact eM l
 generalize(if BJ l<l.length then(BJ l:Int)else -1)=r at*;refine fR 0 ?_;refine AC.seq ?_;refine Aq w1 100 (by kernel_rfl) ?_;refine AV e1 ?_;refine Al ?_;exact AN rfl AA.out
theorem kw (l:List UInt8)(hl:l.length<=1000000000):AK C0 234 [str (sb l),str (sb [47])] (i64 (if BJ l<l.length then(BJ l:Int)else -1)):=by
 refine Ak.walk w1 Zc rfl λF=>?_
 have c1:=gJ l;have eS:=Et [47] l;have hr:[47]=l->(if BJ l<l.length then(BJ l:Int)else -1)=0:=λh=>by subst h;rfl
 generalize(if BJ l<l.length then(BJ l:Int)else -1)=r at*;have e0:(((sb [47]).size:Int)==0)=false:=rfl;have e1:(((sb [47]).size:Int)==1)=true:=rfl;have hx:(((sb [47]).data.toList.getD ((0:Int)).toNat 0).toNat:Int)=47:=rfl;refine sR 0 ?_;refine sR 100 ?_;refine AC.seq ?_;refine AC.block ?_
 by_cases h:[47]=l
 ·rw[AY h]at eS
  have hr:=hr h;subst hr;refine sZ 200 ?_;refine AV e0 ?_;refine AE (At e0 kF eS) ?_;refine AE (At e0 kF eS) ?_;refine AO ?_;refine sR 300 ?_;refine Al ?_;exact AN rfl AA.out
 ·rw[Ah h]at eS
  refine sZ 200 ?_;refine AV e0 ?_;refine AE (At e0 kF eS) ?_;refine AE (At e0 kF eS) ?_;refine AO ?_;refine sZ 400 ?_;refine AV e1 ?_;refine AO ?_;refine sZ 500 ?_;refine AV hx ?_;refine cI c1 ?_;refine Al ?_;exact AN rfl AA.out
theorem wO (l:List UInt8)(hl:l.length<=1000000000):AK C0 188 [str (sb l),str (sb [47])] (.tup [str (sb (l.take (BJ l))),str (sb (l.drop (BJ l+1))),As (decide (BJ l<l.length))]):=by
 refine Ak.walk w1 ZG rfl λF=>?_
 have c1:=kw l hl;have hsz:=Ce l;have hle:=K9 l;refine sR 0 ?_
 by_cases h:BJ l<l.length
 ·rw[AH h]at c1
  have e1:decide (((BJ l:Nat):Int)>=0)=true:=AY (by omega);have e2:(sb l).extract 0 (((BJ l:Nat):Int)).toNat=sb (l.take (BJ l)):=by rw[Ep];rfl
  have w3:IntKind.i64.wrap (((BJ l:Nat):Int)+((sb [47]).size:Int))=((BJ l+1:Nat):Int):=by
   show IntKind.i64.wrap (((BJ l:Nat):Int)+1)=_;rw[wI (by omega) (by omega)];omega
  have e3:(sb l).extract (((BJ l+1:Nat):Int)).toNat (sb l).size=sb (l.drop (BJ l+1)):=by
   rw[Ep,hsz,B9 (Ai _)];rfl
  rw[AY h];refine AC.seq ?_;refine sR 100 ?_;refine cI c1 ?_;refine sZ 200 ?_;refine AV e1 ?_;refine AO ?_;refine AC.seq ?_;refine B8 w1 300 [0,1,2,3,4,5,6,7,8,9] [10,11] (by kernel_rfl) ?_;refine AE (At w3 e2 e3) ?_;refine Al ?_;exact AN rfl AA.out
 ·rw[AG h]at c1
  have hk:BJ l=l.length:=by omega
  have e1:decide (((-1:Int))>=0)=false:=rfl;rw[Ah h,hk,B9 (Ai _),HG (by omega)];refine AC.seq ?_;refine sR 100 ?_;refine cI c1 ?_;refine sZ 200 ?_;refine AV e1 ?_;refine AO ?_;refine Ap ?_;refine sR 400 ?_;refine Al ?_;exact AN rfl AA.out
theorem Yr (l:List UInt8)(hl:l.length<=1000000000):AK C0 147 [str (sb l),str (sb [47])] (.tup [str (sb (l.take (BJ l))),str (sb (l.drop (BJ l+1))),As (decide (BJ l<l.length))]):=by
 refine Ak.walk w1 Zp rfl λF=>?_
 have c1:=wO l hl;generalize sb l=s at*;generalize sb (l.take (BJ l))=t at*;generalize sb (l.drop (BJ l+1))=u at*;generalize decide (BJ l<l.length)=b at*;refine fR 0 ?_;refine fR 100 ?_;refine dI c1 ?_;refine Al ?_;exact AN rfl AA.out
theorem nU (a b:Nat)(ha:a<=9223372036854775807)(hb:b<=9223372036854775807):AK C0 171 [i64 a,i64 b] (i64 (Nat.gcd a b:Nat)):=by
 refine Ak.walk w1 ou rfl λF=>?_
 refine fR 0 ?_;refine AC.seq ?_;refine AC.block ?_;refine AC.loop (α:=Nat×Nat×Nat) (λp=>⟨[(0,i64 p.1),(1,i64 p.2.1)],[],p.2.2⟩) (λp=>p.2.1) (λp=>Nat.gcd p.1 p.2.1=Nat.gcd a b/\p.1<=9223372036854775807/\p.2.1<=9223372036854775807) (a,b,_) ⟨rfl,ha,hb⟩ AL ?_;rintro⟨x,y,n⟩ F ⟨h1,h2,h3⟩;dsimp only at h1 h2 h3⊢;refine AC.seq ?_;refine fR 100 ?_;refine AO ?_
 (refine Bv (λhy=>?_) (λhy=>?_))<;>(try simp only[Bi,Bs]at hy)<;>(try simp only[hy])
 ·have hy':(y:Int)>0:=by simpa using hy
  refine Ap ?_;refine AC.block ?_;refine B8 w1 200 [0,1,2,3,4] [5] (by kernel_rfl) ?_;refine CC ?_
  have:(x:Int).tmod y=((x%y:Nat):Int):=rfl
  rw[this];refine⟨(y,x%y,_),⟨?_,h3,?_⟩,?_,AL⟩
  ·rw[<-h1,NL x y,Nat.gcd_rec y x,NL]
  ·have:=B5 x (show y>0 by omega);dsimp only;omega
  ·exact B5 x (show y>0 by omega)
 ·have hy':y=0:=by simp at hy;omega
  subst hy';refine CA ?_;refine fR 300 ?_;refine Al ?_;refine AN ?_ AA.out;rw[<-h1,Nat.gcd_zero_right]
def Lt (least:Nat)(l:List UInt8):List UInt8:=List.replicate (least-l.length) 48++l
def Eo (least m:Nat)(s:List UInt8):List UInt8:=Lt least (if m=0 then s else Lib.decDigits m++s)
theorem VQ (least m:Nat)(s:List UInt8)(h:0<m\/s.length<least):Eo least (m/10) (UInt8.ofNat (48+m%10)::s)=Eo least m s:=by
 unfold Eo
 by_cases h0:m=0
 ·subst h0
  have hl:s.length<least:=h.resolve_left (by omega);rw[AH (by omega),AH rfl];unfold Lt;obtain⟨k,hk⟩:∃k,least-s.length=k+1:=⟨least-s.length-1,by omega⟩
  rw[hk,show least-(UInt8.ofNat (48+0%10)::s).length=k from by simp;omega,List.replicate_succ'];simp
 ·rw[AG h0]
  by_cases h1:m<10
  ·rw[AH (by omega)]
   have:Lib.decDigits m=[UInt8.ofNat (48+m)]:=by unfold Lib.decDigits;rw[dif_pos h1]
   rw[this,show m%10=m from by omega];rfl
  ·rw[AG (by omega)]
   have:Lib.decDigits m=Lib.decDigits (m/10)++[UInt8.ofNat (48+m%10)]:=by rw[Lib.decDigits];rw[dif_neg h1]
   rw[this,Do];rfl
theorem kY (k:Nat)(hk:k<10):(⟨#[48,49,50,51,52,53,54,55,56,57]⟩:ByteArray).extract k (k+1)=⟨([UInt8.ofNat (48+k)]:List UInt8).toArray⟩:=by
 match k,hk with
 | 0,_=>rfl
 | 1,_=>rfl
 | 2,_=>rfl
 | 3,_=>rfl
 | 4,_=>rfl
 | 5,_=>rfl
 | 6,_=>rfl
 | 7,_=>rfl
 | 8,_=>rfl
 | 9,_=>rfl
theorem PY (a least:Nat)(ha:a+least<=9223372036854775807):AK C0 172 [i64 a,i64 least] (str ⟨(Eo least a []).toArray⟩):=by
 refine Ak.walk w1 ov rfl λF=>?_
 refine fR 0 ?_;refine fR 100 ?_;refine AC.seq ?_;refine AC.block ?_;refine AC.loop (α:=Nat×List UInt8×Nat) (λp=>⟨[(0,i64 p.1),(1,i64 least),(5,str ⟨p.2.1.toArray⟩)],[],p.2.2⟩) (λp=>p.1+(least-p.2.1.length))
  (λp=>Eo least p.1 p.2.1=Eo least a []/\p.1+p.2.1.length<=a+least) (a,[],_) ⟨rfl,by simp⟩ AL ?_
 rintro⟨m,s,n⟩ F ⟨h1,h2⟩;dsimp only at h1 h2⊢;have hsz:=Nz s;refine AC.seq ?_;refine Dg ⟨[(0,i64 m),(1,i64 least),(5,str ⟨s.toArray⟩),(13,As (decide ((m:Int)>0)||decide ((s.length:Int)<least)))],[],n+30⟩ (Aq w1 200 (by kernel_rfl) ?_) ?_
 ·repeat'(first|(refine And.intro (by exact B6) ?_;refine Aw ?_)|((refine Bv (λhb=>?_) (λhb=>?_))<;>(try simp only[Bi,Bs]at hb)<;>(try simp only[hb])<;>(refine Aw ?_)))
  all_goals exact AL
 refine AO ?_
 (refine Bv (λhc=>?_) (λhc=>?_))<;>(try simp only[Bi,Bs]at hc)<;>(try simp only[hc])
 ·have hc:0<m\/s.length<least:=by
   simp at hc;omega
  refine Ap ?_;refine AC.block ?_;refine AC.seq ?_;have hm:(m:Int).tmod 10=((m%10:Nat):Int):=rfl;have e2:IntKind.i64.wrap (((m%10:Nat):Int)+1)=((m%10+1:Nat):Int):=wI (by omega) (by omega);have hd:=kY (m%10) (by omega);have hs1:(⟨([UInt8.ofNat (48+m%10)]:List UInt8).toArray⟩:ByteArray).size=1:=rfl;have hlen:s.length+1<=9223372036854775807:=by omega
  have hs10:(⟨#[48,49,50,51,52,53,54,55,56,57]⟩:ByteArray).size=10:=rfl;refine Aq w1 300 (by kernel_rfl) ?_;refine Jw (BW hm e2 kN hd) ?_;refine fI 400 ?_;have hm4:(m:Int).tdiv 10=((m/10:Nat):Int):=rfl;have hm5:m/10<=9223372036854775807:=by omega
  rw[hm4,wN hm5,Il,ES,FM];refine⟨(m/10,UInt8.ofNat (48+m%10)::s,_),⟨(VQ least m s hc).trans h1,?_⟩,?_,AL⟩
  ·simp only[Bo];omega
  ·simp only[Bo];omega
 ·have hc:m=0/\least<=s.length:=by
   simp at hc;omega
  obtain⟨rfl,hl⟩:=hc;refine CA ?_;refine fR 500 ?_;refine Al ?_;refine AN ?_ AA.out;rw[<-h1];unfold Eo Lt;rw[AH rfl,Nat.sub_eq_zero_of_le hl];rfl
theorem Xy (a:Nat):Eo 1 a []=Lib.decDigits a:=by
 unfold Eo Lt
 by_cases h:a=0
 ·subst h
  have:Lib.decDigits 0=[48]:=by unfold Lib.decDigits;rw[dif_pos (by decide)];rfl
  rw[AH rfl,this];rfl
 ·rw[AG h,DX]
  have:(Lib.decDigits a).length≠0:=by
   unfold Lib.decDigits;split<;>simp
  rw[show 1-(Lib.decDigits a).length=0 from by omega];rfl
def Dt (K g sz:Nat):List D->D
 | []=>CK
 |_::l=>.osl K g sz 0 (l.length+1)
def Dj (K g T sz:Nat):List D->Hp
 | []=>[]
 |x::l=>[⟨K,g,T,sz,x::l⟩]
theorem Ig (K g sz:Nat):Dt K g sz []=CK:=rfl
theorem HM (K g sz:Nat)(x:D)(l:List D):Dt K g sz (x::l)=.osl K g sz 0 (l.length+1):=rfl
theorem Ie (K g T sz:Nat):Dj K g T sz []=[]:=rfl
theorem HN (K g T sz:Nat)(x:D)(l:List D):Dj K g T sz (x::l)=[⟨K,g,T,sz,x::l⟩]:=rfl
theorem Nl (K g sz:Nat)(x y:D)(l:List D):Dt K g sz (x::l++[y])=.osl K g sz 0 (l.length+1+1):=by simp[Dt]
theorem Qc (K g T sz:Nat)(l:List D):Fz (Dj K g T sz l) [] (Dt K g sz l) (.sl false sz l):=by
 cases l with
 |nil=>exact .nil sz
 |cons x l=>
  refine .osl (e:=⟨K,g,T,sz,x::l⟩) (by simp[Dj,Hp.get]) rfl rfl rfl (by simp) (by simp) (λj d d' h1 h2=>?_) λj d d' q c c' h1 h2 h3 h4=>?_
  ·rw[BP]at h1;rw[h1]at h2;cases h2;rfl
  ·rw[BP]at h1;rw[h1]at h2;cases h2;rw[h3]at h4;cases h4;exact Fz.refl _
def spot (a b c d:Nat):D:=.agg [i64 (a/Nat.gcd a b:Nat),CK,i64 (b/Nat.gcd a b:Nat),CK,i64 (c/Nat.gcd c d:Nat),CK,i64 (d/Nat.gcd c d:Nat),CK]
instance  (a b c d:Nat):AW (spot a b c d):=by unfold spot;exact AJ
instance  {α:Type}(f:α->List D)(l:List α)[h:∀x,Bb (f x)]:Bb (l.flatMap f):=⟨λe he=>by
 obtain⟨x,_,hx⟩:=List.mem_flatMap.1 he;exact(h x).out e hx⟩
theorem FS {H Hf:Hp}{a a' b b':D}(h1:Fz H Hf a a')(h2:Fz H Hf b b'):Fz H Hf (.tup [a,b]) (.tup [a',b']):=.tup rfl λi d d' hd hd'=>by
 match i with
 | 0=>simp at hd hd';subst hd;subst hd';exact h1
 | 1=>simp at hd hd';subst hd;subst hd';exact h2
 |n+2=>simp at hd
set_option allowUnsafeReducibility true in
attribute [local irreducible] BK
inductive Kd where
 |line|zig|grid|quin
def Kd.most:Kd->Int
 | .line | .zig=>64
 | .grid=>8
 | .quin=>5
end Go.Ide
