/- The layer of own lemmas and contracts, part 7. -/
import Derived.Test.YtegpdgcahcikoaaGreatDoorY5
import Derived.Test.YtegpdgcahcikoaaGreatDoorY3
import Derived.Test.YtegpdgcahcikoaaGreatDoorY6
import Derived.Lib.AppendIntMem
import Derived.Lib.SmallJoins
import Derived.Shelf.Spec.BitsCarry
import Derived.Laws.StandIn
import Derived.Lib.Bytealg
set_option linter.unusedVariables false
set_option linter.unusedSimpArgs false
namespace Go.Ide
open Go Go.Ide Go.Proofs Go.RowKit
set_option maxRecDepth 100000
def G0 (w:World):Prop:=Lib.TabIs Tryz.prog w "internal/strconv.uint64pow10" .u64 Lib.pow10Tab
theorem ml:Tryz.prog.globalNamed "internal/strconv.uint64pow10" = some 3:=by kernel_rfl
theorem ku {w w':World}(h:G0 w)(b:Below (3+1) w w'):G0 w':=by
 unfold G0 Lib.TabIs World.var? at h⊢;rw[ml]at h⊢;simp only[Option.bind_some]at h⊢;rw[b.block _ (by decide)];exact h
noncomputable def C0:BC:={P:=Tryz.prog,G:=G0,nG:=3+1,hG:=λ_ _=>ku}
theorem eI {ρ:Lk}{O:Nat->Prop}{w:World}{a b c:Value}{vs:Array Value}(hn:vs.size=3)(h:∀(i:Nat) (x:D),[D.prim a,.prim b,.prim c][i]?=some x->AU ρ O w x (vs.getD i undef)):vs = #[a,b,c]:=by
 match vs,hn with
 |⟨[u,v,x]⟩,_=>
  have h0:=h 0 _ rfl;have h1:=h 1 _ rfl;have h2:=h 2 _ rfl;simp at h0 h1 h2;cases h0;cases h1;cases h2;rfl
theorem jB (x y c:Nat)(hc:c<=1):KT C0 252 [.prim (.int .u64 x),.prim (.int .u64 y),.prim (.int .u64 c)]
  (.tup [.prim (.int .u64 (((x+y+c)%18446744073709551616:Nat):Int)),.prim (.int .u64 (((x+y+c)/18446744073709551616:Nat):Int))]):=λρ O w vs hn h=>by
 have:=eI hn h
 subst this;refine⟨.tuple #[.int .u64 (((x+y+c)%18446744073709551616:Nat):Int),.int .u64 (((x+y+c)/18446744073709551616:Nat):Int)],?_,.tup rfl λi d hd=>?_⟩
 ·show(callFunc 252 _).run Tryz.prog w=_
  rw[run_callFunc_extern Tryz.func252 (by kernel_rfl) (by kernel_rfl) (by kernel_rfl) (e:=add64Entry) (by kernel_rfl),run_add64 x y c (by omega) (by omega) (by omega) (by omega)];simp only[Result.andThen]
  congr 5<;>omega
 ·match i with
  | 0=>simp at hd;subst hd;exact .prim _
  | 1=>simp at hd;subst hd;exact .prim _
  |n+2=>simp at hd
theorem xc {ρ:Lk}{O:Nat->Prop}{w:World}{a b:Value}{vs:Array Value}(hn:vs.size=2)(h:∀(i:Nat) (x:D),[D.prim a,.prim b][i]?=some x->AU ρ O w x (vs.getD i undef)):vs = #[a,b]:=by
 match vs,hn with
 |⟨[u,v]⟩,_=>
  have h0:=h 0 _ rfl;have h1:=h 1 _ rfl;simp at h0 h1;cases h0;cases h1;rfl
theorem gZ (s:ByteArray)(c:Int):KT C0 294 [.prim (.string s),.prim (.int .u8 c)] (.prim (.int .i64 (firstIdx s c.toNat.toUInt8))):=λρ O w vs hn h=>by
 have:=xc hn h
 subst this;refine⟨_,?_,.prim _⟩;show(callFunc 294 _).run Tryz.prog w=_;rw[run_callFunc_indexByte Tryz.func294 (by kernel_rfl) (by kernel_rfl) (by kernel_rfl) (by kernel_rfl),run_indexByte_string];rfl
theorem kY (x y b:Nat)(hb:b<=1):KT C0 253 [.prim (.int .u64 x),.prim (.int .u64 y),.prim (.int .u64 b)]
  (.tup [.prim (.int .u64 (((x+18446744073709551616-y-b)%18446744073709551616:Nat):Int)),.prim (.int .u64 ((if x<y+b then 1 else 0:Nat):Int))]):=λρ O w vs hn h=>by
 have:=eI hn h
 subst this;refine⟨.tuple #[.int .u64 (((x+18446744073709551616-y-b)%18446744073709551616:Nat):Int),.int .u64 ((if x<y+b then 1 else 0:Nat):Int)],?_,.tup rfl λi d hd=>?_⟩
 ·show(callFunc 253 _).run Tryz.prog w=_
  rw[run_callFunc_extern Tryz.func253 (by kernel_rfl) (by kernel_rfl) (by kernel_rfl) (e:=sub64Entry) (by kernel_rfl),run_sub64 x y b hb];rfl
 ·match i with
  | 0=>simp at hd;subst hd;exact .prim _
  | 1=>simp at hd;subst hd;exact .prim _
  |n+2=>simp at hd
theorem QV {O:Nat->Prop}{w:World}{v:Value}{vs:Array Value}(hn:vs.size=1)(h:∀(i:Nat) (x:D),[D.prim v][i]?=some x->AU nol O w x (vs.getD i undef)):vs = #[v]:=by
 match vs,hn with
 |⟨[u]⟩,_=>
  have h0:=h 0 _ rfl;simp at h0;cases h0;rfl
theorem nr (n:Int)(h0 : -9223372036854775808<=n)(h1:n<=9223372036854775807):AI C0 166 [i64 n] (str ⟨(Lib.itoa n).toArray⟩):=by
 refine⟨⟨_,_,Tryz.func166,rfl,by kernel_rfl⟩,λY w vs hG hnG hX hvs hr=>?_⟩
 have:=QV hvs hr
 subst this;refine(Tryz.strconv_Itoa n h0 h1 w hG).mono ?_;rintro e w' ⟨rfl,k,os,rfl⟩;exact⟨_,_,rfl,Lib.below_grow _ _ (Af _) _ _,rfl,.prim _⟩
theorem nO (s:ByteArray)(n:Int)(hl:s.size<=18)(h:Lib.atoi s.data.toList=some n):AI C0 197 [str s] (.tup [i64 n,.prim .nilIface]):=by
 refine⟨⟨_,_,Tryz.func197,rfl,by kernel_rfl⟩,λY w vs hG hnG hX hvs hr=>?_⟩
 have:=QV hvs hr
 subst this;refine(Tryz.strconv_Atoi s n hl h w).mono ?_;rintro e w' ⟨rfl,t,rfl⟩;exact⟨_,_,rfl,Joins.below_bytesWorld _ _ _ _ (Af _),rfl,.tup rfl λi d hd=>by
  match i with
  | 0=>simp at hd;subst hd;exact .prim _
  | 1=>simp at hd;subst hd;exact .prim _
  |n+2=>simp at hd⟩
def Ks (f:Nat)(ds:List D):Option D:=match Nat.beq f 252 with
 |true=>match ds with
  | [.prim (.int .u64 (.ofNat a)),.prim (.int .u64 (.ofNat b)),.prim (.int .u64 (.ofNat c))]=>match Nat.ble c 1 with
   |true=>some (.tup [.prim (.int .u64 (((a+b+c)%18446744073709551616:Nat):Int)),.prim (.int .u64 (((a+b+c)/18446744073709551616:Nat):Int))])
   |false=>none
  |_=>none
 |false=>match Nat.beq f 253 with
  |true=>match ds with
   | [.prim (.int .u64 (.ofNat a)),.prim (.int .u64 (.ofNat b)),.prim (.int .u64 (.ofNat c))]=>match Nat.ble c 1 with
    |true=>some (.tup [.prim (.int .u64 (((a+18446744073709551616-b-c)%18446744073709551616:Nat):Int)),.prim (.int .u64 ((if a<b+c then 1 else 0:Nat):Int))])
    |false=>none
   |_=>none
  |false=>match Nat.beq f 294 with
   |true=>match ds with
    | [.prim (.string s),.prim (.int .u8 c)]=>some (.prim (.int .i64 (firstIdx s c.toNat.toUInt8)))
    |_=>none
   |false=>none
theorem Qm (f:Nat)(ds:List D)(d:D)(h:Ks f ds=some d):KT C0 f ds d:=by
 unfold Ks at h;split at h
 ·rename_i hf
  obtain rfl:=B3 hf;split at h<;>try(cases h;done)
  split at h<;>try(cases h;done)
  rename_i hc;cases h;exact jB _ _ _ (Bg hc)
 ·split at h
  ·rename_i hf
   obtain rfl:=B3 hf;split at h<;>try(cases h;done)
   split at h<;>try(cases h;done)
   rename_i hc;cases h;exact kY _ _ _ (Bg hc)
  ·split at h
   ·rename_i hf
    obtain rfl:=B3 hf;split at h<;>try(cases h;done)
    cases h;exact gZ _ _
   ·cases h
noncomputable def X1:EV:=⟨Pe.get,MJ.get,Nd.get,λ_=>false,λ_ _=>none,λ_ _=>none,Ks⟩
theorem DV:FF C0 X1:=⟨gM,Rr,J5,λ_ _ _ h=>by simp[X1]at h,by kernel_rfl,λ_ _ _ h=>by simp[X1]at h,Qm⟩
theorem w1:DR C0 X1:=DV.w
theorem wI {z:Int}(h1 : -9223372036854775808<=z)(h2:z<=9223372036854775807):IntKind.i64.wrap z=z:=by
 have e1:(2:Int)^IntKind.i64.bits=18446744073709551616:=rfl;have e2:(2:Int)^(IntKind.i64.bits-1)=9223372036854775808:=rfl;unfold IntKind.wrap;simp only[e1,e2];have e3:IntKind.i64.signed=true:=rfl;rw[e3];simp only[GY,GX];split<;>omega
theorem wN {n:Nat}(h:n<=9223372036854775807):IntKind.i64.wrap (n:Int)=n:=wI (by omega) (by omega)
set_option maxRecDepth 20000
theorem On (n:Int):AI C0 122 [i64 n] (Cx n):=by
 refine Ag.walk w1 ah rfl λF=>?_
 refine fR 0 ?_;refine fR 100 ?_;refine Ah ?_;exact AL rfl (AA.out (d:=Cx n))
theorem MK:∀(k u:Nat),u<10^(k+1)->(Lib.decDigits u).length<=k+1
 | 0,u,h=>by
  unfold Lib.decDigits;rw[dif_pos (by simpa using h)];simp
 |k+1,u,h=>by
  unfold Lib.decDigits;split
  ·simp
  ·rw[Bh]
   have:=MK k (u/10) (by
    rw[CK]at h;omega)
   simp only[Bo,HJ];omega
theorem Ix (a b:List UInt8):(⟨a.toArray⟩:ByteArray)++⟨b.toArray⟩=⟨(a++b).toArray⟩:=by
 apply ByteArray.ext;simp[ByteArray.data_append]
theorem OO (l:List UInt8):(⟨l.toArray⟩:ByteArray).size=l.length:=by simp[ByteArray.size]
def Sm (z:Int):Prop:=-9223372036854775808<z/\z<9223372036854775808
theorem wS {z:Int}(h:Sm z):IntKind.i64.wrap z=z:=wI (by have:=h.1;omega) (by have:=h.2;omega)
theorem dU {z:Int}(h:Sm z):(z != -9223372036854775808)=true:=by
 have:=h.1
 simp only[bne_iff_ne,ne_eq];omega
theorem wU {z:Int}(h1:0<=z)(h2:z<18446744073709551616):IntKind.u64.wrap z=z:=by
 have e1:(2:Int)^IntKind.u64.bits=18446744073709551616:=rfl;unfold IntKind.wrap;simp only[e1];have e3:IntKind.u64.signed=false:=rfl;rw[e3];simp only[HR,Hx,if_false];omega
theorem oc (z:Int)(h:Sm z):AI C0 204 [i64 z] (u64 (z.natAbs:Nat)):=by
 refine Ag.walk w1 aQ rfl λF=>?_
 obtain⟨h1,h2⟩:=h;refine fR 0 ?_;refine AC.seq ?_;refine fR 100 ?_;refine AM ?_
 (refine Bw (λh4=>?_) (λh4=>?_))<;>(try simp only[Bi,Bu]at h4)<;>(try simp only[h4])
 ·have hz:z<0:=by simpa using h4
  have e1:IntKind.i64.wrap (0-z)=(z.natAbs:Nat):=by rw[wI (by omega) (by omega)];omega
  have e2:IntKind.u64.wrap ((z.natAbs:Nat):Int)=(z.natAbs:Nat):=wU (by omega) (by omega);refine sZ 200 ?_;refine J7 (Aj e1 e2) ?_;refine Ah ?_;exact AL rfl AA.out
 ·have hz:¬z<0:=by simpa using h4
  have e2:IntKind.u64.wrap z=(z.natAbs:Nat):=by rw[wU (by omega) (by omega)];omega
  refine An ?_;refine sZ 300 ?_;refine J7 e2 ?_;refine Ah ?_;exact AL rfl AA.out
theorem uZ (z:Int)(h:Sm z):AI C0 199 [Cx z] (Cx (-z)):=by
 refine Ag.walk w1 UP rfl λF=>?_
 refine fR 0 ?_;refine AC.seq ?_;refine sZ 100 ?_
 repeat'(first|(refine And.intro (by exact B8) ?_;refine Au ?_)|((refine Bw (λhb=>?_) (λhb=>?_))<;>(try simp only[Bi,Bu]at hb)<;>(try simp only[hb])<;>(refine Au ?_)))
 rw[dU h];refine AM ?_;have e1:IntKind.i64.wrap (0-z) = -z:=by
  have:=h.1;have:=h.2
  rw[wI (by omega) (by omega)];omega
 refine sZ 200 ?_;refine J7 e1 ?_;refine Ah ?_;exact AL rfl AA.out
theorem OF (x y:Nat)(hx:x<18446744073709551616)(hy:y<18446744073709551616):AI C0 203 [u64 x,u64 y] (.tup [u64 (x*y/18446744073709551616:Nat),u64 (x*y%18446744073709551616:Nat)]):=by
 refine⟨⟨_,_,Tryz.func203,rfl,by kernel_rfl⟩,λY w vs hG hnG hX hvs hr=>?_⟩;obtain⟨v1,v2,rfl⟩:∃a b,vs = #[a,b]:=by
  match vs,hvs with
  |⟨[a,b]⟩,_=>exact⟨a,b,rfl⟩
 have h0:=hr 0 _ rfl;have h1:=hr 1 _ rfl;simp at h0 h1;cases h0;cases h1;refine(Tryz.bits_Mul64 x y hx hy w).mono ?_;rintro e w' ⟨rfl,rfl⟩;exact⟨_,_,rfl,.refl _ _,rfl,.tup rfl λi d hd=>by
  match i with
  | 0=>simp at hd;subst hd;exact .prim _
  | 1=>simp at hd;subst hd;exact .prim _
  |n+2=>simp at hd⟩
theorem ou {a b:Int}(hb:0<b):(a.tmod b<0->a.tdiv b-1=a/b/\a.tmod b+b=a%b)/\(¬a.tmod b<0->a.tdiv b=a/b/\a.tmod b=a%b):=by
 have h1:=Int.mul_tdiv_add_tmod a b;have h2:=Int.tmod_lt_of_pos a hb;have h3:=Int.lt_tmod_of_pos a hb;constructor
 ·intro h
  have:=(Int.ediv_emod_unique (a:=a) (r:=a.tmod b+b) (q:=a.tdiv b-1) hb).2 ⟨by rw[Int.mul_sub,Int.mul_one];omega,by omega,by omega⟩
  exact⟨this.1.symm,this.2.symm⟩
 ·intro h
  have:=(Int.ediv_emod_unique (a:=a) (r:=a.tmod b) (q:=a.tdiv b) hb).2 ⟨by omega,by omega,by omega⟩
  exact⟨this.1.symm,this.2.symm⟩
theorem Ze {a b:Int}(ha:Sm a):Sm (a.tdiv b):=by
 have h:(a.tdiv b).natAbs<=a.natAbs:=by rw[Int.natAbs_tdiv];exact Fy _ _
 have:=ha.1;have:=ha.2
 exact⟨by omega,by omega⟩
theorem jf (a b:Int)(hb0:0<b)(ha:Sm a)(hb:Sm b):AI C0 251 [Cx a,Cx b] (.tup [Cx (a/b),Cx (a%b)]):=by
 refine Ag.walk w1 UQ rfl λF=>?_
 obtain⟨t1,t2⟩:=ou (a:=a) hb0;have h2:=Int.tmod_lt_of_pos a hb0;have h3:=Int.lt_tmod_of_pos a hb0;have q1:=wS (Ze (b:=b) ha);have q2:IntKind.i64.wrap (a.tmod b)=a.tmod b:=wI (by have:=hb.2;omega) (by have:=hb.2;omega);have q0:=Ze (b:=b) ha;refine fR 0 ?_;refine AC.seq ?_;refine sZ 100 ?_
 repeat'(first|(refine And.intro (by exact B8) ?_;refine Au ?_)|((refine Bw (λhb=>?_) (λhb=>?_))<;>(try simp only[Bi,Bu]at hb)<;>(try simp only[hb])<;>(refine Au ?_)))
 rw[dU ha];refine AM ?_;refine AC.seq ?_;refine B5 w1 200 [0,1,2,3,4,5,6,7,8,9,10] [11] (by kernel_rfl) ?_;refine And.intro (by(refine Au ?_);(try simp only[q1,q2]);all_goals exact B8) ?_;refine Au ?_
 try simp only[q1,q2]
 refine AC.seq ?_;refine fR 300 ?_;refine AM ?_
 (refine Bw (λh40=>?_) (λh40=>?_))<;>(try simp only[Bi,Bu]at h40)<;>(try simp only[h40])
 ·obtain⟨e1,e2⟩:=t1 (by simpa using h40)
  have q3:IntKind.i64.wrap (a.tdiv b-1)=a/b:=by rw[wI (by have:=q0.1;omega) (by have:=q0.2;omega)];exact e1
  have q4:IntKind.i64.wrap (a.tmod b+b)=a%b:=by rw[wI (by have:=hb.2;omega) (by have:=hb.2;omega)];exact e2
  refine B5 w1 400 [0,1,2,3,4,5,6] [7] (by kernel_rfl) ?_;refine And.intro (by(refine Au ?_);(try simp only[q3,q4]);all_goals exact B8) ?_;refine Au ?_
  try simp only[q3,q4]
  refine fR 500 ?_;refine Ah ?_;exact AL rfl AA.out
 ·obtain⟨e1,e2⟩:=t2 (by simpa using h40)
  refine An ?_;refine AC.seq ?_;rw[e1,e2];refine fI 500 ?_;refine Ah ?_;exact AL rfl AA.out
theorem ma (z:Int):AI C0 121 [Cx z] (MI z 1):=by
 refine Ag.walk w1 UL rfl λF=>?_
 refine fR 0 ?_;refine AC.seq ?_;refine B5 w1 100 [0,1] [2,3] (by kernel_rfl) ?_;refine B7 ?_;refine BX.same _ (On 1) AJ ?_;refine B7 ?_;refine Ah ?_;exact AL rfl AA.out
theorem y6 (z:Int):AI C0 76 [i64 z] (MI z 1):=by
 refine Ag.walk w1 dx rfl λF=>?_
 refine fR 0 ?_;refine fR 100 ?_;refine dI (On z) ?_;refine dI (ma z) ?_;refine Ah ?_;exact AL rfl AA.out
def Dx (a b:Int):Int:=if a<b then -1 else if b<a then 1 else 0
theorem nk (a b:Int):AI C0 273 [Cx a,Cx b] (i64 (Dx a b)):=by
 refine Ag.walk w1 UR rfl λF=>?_
 unfold Dx;refine fR 0 ?_;refine AC.seq ?_;refine sZ 100 ?_
 repeat'(first|(refine And.intro (by exact B8) ?_;refine Au ?_)|((refine Bw (λhb=>?_) (λhb=>?_))<;>(try simp only[Bi,Bu]at hb)<;>(try simp only[hb])<;>(refine Au ?_)))
 refine AM ?_;refine AC.seq ?_;refine AC.block ?_;refine fR 200 ?_;refine AM ?_
 (refine Bw (λh13=>?_) (λh13=>?_))<;>(try simp only[Bi,Bu]at h13)<;>(try simp only[h13])
 ·have h1:a<b:=by simpa using h13
  rw[AG h1];refine fR 300 ?_;refine Ah ?_;exact AL rfl AA.out
 ·have h1:¬a<b:=by simpa using h13
  rw[AF h1];refine fR 400 ?_;refine AM ?_
  (refine Bw (λh19=>?_) (λh19=>?_))<;>(try simp only[Bi,Bu]at h19)<;>(try simp only[h19])
  ·have h2:b<a:=by simpa using h19
   rw[AG h2];refine fR 500 ?_;refine Ah ?_;exact AL rfl AA.out
  ·have h2:¬b<a:=by simpa using h19
   rw[AF h2];refine An ?_;refine fR 600 ?_;refine Ah ?_;exact AL rfl AA.out
theorem Zr {n k:Nat}(h:Nat.blt n k=true):n<k:=by rw[Nat.blt_eq]at h;exact h
def zu:Int->Bool
 | .ofNat n=>Nat.blt n 9223372036854775808
 | .negSucc n=>Nat.blt n 9223372036854775807
theorem uh {z:Int}(h:zu z=true):Sm z:=by
 cases z with
 |ofNat n=>have:=Zr h;exact⟨by rw[Int.ofNat_eq_natCast];omega,by rw[Int.ofNat_eq_natCast];omega⟩
 |negSucc n=>have:=Zr h;exact⟨by omega,by omega⟩
abbrev BB:Nat:=18446744073709551616
def Ad (n:Nat):List Nat:=if _h:n=0 then[]else(n%BB)::Ad (n/BB)
termination_by n
decreasing_by exact Hw (D3 _h) (by decide)
def AS:List Nat->Nat
 | []=>0
 |a::l=>a+BB*AS l
def Wd (l:List Nat):Prop:=∀a∈l,a<BB
theorem Fi:Ad 0=[]:=by unfold Ad;rfl
theorem F8 {n:Nat}(h:n≠0):Ad n=(n%BB)::Ad (n/BB):=by rw[Ad,dif_neg h]
theorem FC (n:Nat):Wd (Ad n):=by
 induction n using Nat.strongRecOn with
 |ind n ih=>
  by_cases h:n=0
  ·subst h;rw[Fi];intro a ha;cases ha
  ·rw[F8 h]
   intro a ha;rcases A8.1 ha with rfl|ha
   ·exact B1 _ (by decide)
   ·exact ih _ (Hw (D3 h) (by decide)) a ha
theorem Er (n:Nat):AS (Ad n)=n:=by
 induction n using Nat.strongRecOn with
 |ind n ih=>
  by_cases h:n=0
  ·subst h;rw[Fi];rfl
  ·rw[F8 h,AS,ih _ (Hw (D3 h) (by decide))]
   exact Eo n BB
theorem KE (l m:List Nat):AS (l++m)=AS l+BB^l.length*AS m:=by
 induction l with
 |nil=>simp[AS]
 |cons a l ih=>
  simp only[Ek,AS,ih,Bo,CK,BL];rw[BP (BB^l.length) BB,Bx,EX]
theorem Wd.tail {a:Nat}{l:List Nat}(h:Wd (a::l)):Wd l:=λb hb=>h b (CD _ hb)
theorem Wd.head {a:Nat}{l:List Nat}(h:Wd (a::l)):a<BB:=h a B9
theorem Wd.append {l m:List Nat}(h:Wd l)(k:Wd m):Wd (l++m):=λa ha=>(List.mem_append.1 ha).elim (h a) (k a)
theorem Wd.take {l:List Nat}(h:Wd l)(n:Nat):Wd (l.take n):=λa ha=>h a (El ha)
theorem Hc:∀ {l:List Nat},Wd l->AS l<BB^l.length
 | [],_=>by simp[AS]
 |a::l,h=>by
  have h1:=Hc h.tail;have h2:=h.head;rw[AS,Bo,CK]
  calc a+BB*AS l<BB+BB*AS l:=by omega
   _=BB*(AS l+1):=by rw[BL,EC,Kz]
   _<=BB*BB^l.length:=CY _ h1
   _=_:=BP _ _
theorem Xb:∀ {l:List Nat},Wd l->(∀a∈l.getLast?,a≠0)->Ad (AS l)=l
 | [],_,_=>Fi
 | [a],h,hl=>by
  have ha:a≠0:=hl a (by simp);have hb:=h.head;rw[show AS [a]=a from by simp[AS],F8 ha,Dd hb,HL hb,Fi]
 |a::b::l,h,hl=>by
  have ih:=Xb h.tail (λx hx=>hl x (by simpa using hx));have hb:=h.head;have hv:AS (b::l)≠0:=by
   intro h0;rw[h0,Fi]at ih;cases ih
  have e1:AS (a::b::l)%BB=a:=by rw[AS,SL,Dd hb]
  have e2:AS (a::b::l)/BB=AS (b::l):=by
   rw[AS,SG _ _ (by decide),HL hb,BU]
  have hne:AS (a::b::l)≠0:=by
   intro h0;rw[h0]at e2;exact hv (by rw[<-e2];rfl)
  rw[F8 hne,e1,e2,ih]
theorem P2:∀(k:Nat),AS (List.replicate k 0)=0
 | 0=>rfl
 |k+1=>by rw[List.replicate_succ,AS,P2 k,EY]
theorem Wp {l:List Nat}(h:Wd l)(n:Nat)(hz:∀j,n<=j->∀a,l[j]?=some a->a=0)(hn:n<=l.length)(hl:∀m,n=m+1->∀a,l[m]?=some a->a≠0):l.take n=Ad (AS l):=by
 have hd:l.drop n=List.replicate (l.length-n) 0:=by
  refine PO λi=>?_
  rw[HQ,List.getElem?_replicate];split
  ·rename_i hi
   rw[BE (by omega)]
   congr 1
   exact hz _ (Nat.le_add_right _ _) _ (BE (by omega))
  ·exact De (by omega)
 have hv:AS l=AS (l.take n):=by
  conv=>lhs;rw[<-E2 n l]
  rw[KE,hd,P2,EY,DX]
 rw[hv];refine(Xb (h.take n) λa ha=>?_).symm
 match n,hl,hn with
 | 0,_,_=>simp at ha
 |m+1,hl,hn=>
  refine hl m rfl a ?_;rw[List.getLast?_eq_getElem?,Ba,E8 hn,Em,AG (by omega)]at ha;simpa using ha
abbrev AR (n:Nat):D:=u64 (n:Int)
def wL (l:List Nat):D:=.sl false 1 (l.map AR)
def wD (n:Nat):D:=wL (Ad n)
theorem KR (l:List Nat):B4 (wL l):=.sl λe he d hd=>by
 obtain⟨a,_,rfl⟩:=List.mem_map.1 he;simp only[D.cells,A8,DW,or_false]at hd;subst hd;exact .prim _
instance  (l:List Nat):AA (wL l):=⟨KR l⟩
instance  (n:Nat):AA (wD n):=⟨KR _⟩
theorem DS {l:List Nat}{i a:Nat}(h:l[i]?=some a):(l.map AR)[i]?=some (AR a):=by rw[A7,h];rfl
theorem trim_ok (l:List Nat)(h:Wd l)(hlen:l.length<4000000000):AI C0 226 [wL l] (wD (AS l)):=by
 refine Ag.walk w1 b6 rfl λF=>?_
 unfold wL;refine sR 0 ?_;refine sR 100 ?_;refine AC.seq ?_;refine AC.block ?_;have hml:((l.map AR).length:Int)=(l.length:Int):=by rw[Ak]
 rw[hml];refine AC.loop (α:=Nat×Nat) (λp=>⟨[(0,.sl false 1 (l.map AR)),(3,i64 p.1)],[],p.2⟩) (λp=>p.1)
  (λp=>p.1<=l.length/\∀j,p.1<=j->∀a,l[j]?=some a->a=0) (l.length,_) ⟨Af _,λj hj a ha=>by rw[De hj]at ha;cases ha⟩ AK ?_
 rintro⟨n,m⟩ F ⟨h1,h2⟩;dsimp only at h1 h2⊢;refine AC.seq ?_;refine AC.seq ?_;rcases n with _|n
 ·have z0:decide (((0:Nat):Int)>0)=false:=rfl
  refine Ao w1 200 (by kernel_rfl) ?_;refine AD z0 ?_;refine AM ?_;refine B6 ?_;have ht:=Wp h 0 h2 (BS _) (by simp);refine sR 400 ?_;refine Ah ?_;refine AL (d0:=wL (l.take 0)) ?_ AA.out;rw[ht];rfl
 ·obtain⟨a,ha⟩:∃a,l[n]?=some a:=⟨l[n],BE (by omega)⟩
  have hx:=DS ha;have z1:decide (((n+1:Nat):Int)>0)=true:=AX (by omega);have w2:IntKind.i64.wrap (((n+1:Nat):Int)-1)=(n:Int):=by rw[wI (by omega) (by omega)];omega
  refine Ao w1 200 (by kernel_rfl) ?_;refine AD (Aj z1 w2) ?_;refine Bq z1 hx ?_;refine AD (Aj z1 w2) ?_;refine AM ?_
  (refine Bw (λh15=>?_) (λh15=>?_))<;>(try simp only[Bi,Bu]at h15)<;>(try simp only[h15])
  ·have ha0:a=0:=by
    have:(a:Int)=0:=by simpa using h15
    omega
   subst ha0;refine An ?_;refine AC.block ?_;refine Ao w1 300 (by kernel_rfl) ?_;refine AT w2 ?_;refine⟨(n,_),⟨by dsimp only;omega,λj hj b hb=>?_⟩,by dsimp only;omega,AK⟩;rcases Nat.eq_or_lt_of_le hj with rfl|hlt
   ·exact F3 (hb.symm.trans ha)
   ·exact h2 j hlt b hb
  ·have ha0:a≠0:=by
    intro h0;subst h0;simp at h15
   refine B6 ?_;have ht:=Wp h (n+1) h2 h1 (λm hm b hb=>by
    obtain rfl:n=m:=by omega
    rw[ha]at hb;cases hb;exact ha0)
   refine sR 400 ?_;refine Ah ?_;have e4:List.take ((((n+1:Nat):Int)).toNat-0) (List.drop 0 (l.map AR))=(l.take (n+1)).map AR:=by
    rw[List.map_take];simp
   rw[e4];refine AL (d0:=wL (l.take (n+1))) ?_ AA.out;rw[ht];rfl
theorem HV (b:Nat):∀a,b<=a->(Ad b).length<=(Ad a).length:=by
 induction b using Nat.strongRecOn with
 |ind b ih=>
  intro a h
  by_cases hb:b=0
  ·subst hb;rw[Fi];exact BS _
  ·rw[F8 hb,F8 (n:=a) (by omega),Bo,Bo]
   exact Nat.succ_le_succ (ih _ (Hw (D3 hb) (by decide)) _ (Nat.div_le_div_right h))
theorem V4 {a b:Nat}(h:(Ad a).length<(Ad b).length):a<b:=by
 rcases BG a b with h1|h1
 ·exact h1
 ·have:=HV b a h1;omega
theorem KS {l:List Nat}{k a:Nat}(h:l[k]?=some a):AS l=AS (l.take k)+BB^k*(a+BB*AS (l.drop (k+1))):=by
 have hk:k<l.length:=(List.getElem?_eq_some_iff.1 h).1
 conv=>lhs;rw[<-E2 k l]
 rw[KE,Ba,E8 (by omega)]
 have:l.drop k=a::l.drop (k+1):=by
  rw[EK hk]
  congr 1
  exact(List.getElem?_eq_some_iff.1 h).2
 rw[this,AS]
theorem Wn {l m:List Nat}{k a b:Nat}(hl:Wd l)(ha:l[k]?=some a)(hb:m[k]?=some b)(hd:l.drop (k+1)=m.drop (k+1))(hab:a<b):AS l<AS m:=by
 have hk:k<l.length:=(List.getElem?_eq_some_iff.1 ha).1;rw[KS ha,KS hb,hd];have h1:=Hc (hl.take k);rw[Ba,E8 (by omega)]at h1;generalize AS (m.drop (k+1))=r;have h2:BB^k*(a+BB*r)+BB^k<=BB^k*(b+BB*r):=by
  rw[<-Nat.mul_succ];exact CY _ (by omega)
 omega
theorem Qc (a b:Nat)(ha:(Ad a).length<4000000000)(hb:(Ad b).length<4000000000):AI C0 208 [wD a,wD b] (i64 (Dx a b)):=by
 refine Ag.walk w1 bV rfl λF=>?_
 have hwa:=FC a;have hwb:=FC b;have va:=Er a;have vb:=Er b;have hlt:=@V4 a b;have hgt:=@V4 b a;unfold wD wL Dx;generalize Ad a=la at*;generalize Ad b=lb at*;have ea:(((la.map AR).length:Nat):Int)=(la.length:Int):=by rw[Ak]
 have eb:(((lb.map AR).length:Nat):Int)=(lb.length:Int):=by rw[Ak]
 refine sR 0 ?_;refine AC.seq ?_;refine sZ 100 ?_;refine AT (Aj ea eb) ?_;refine AM ?_
 (refine Bw (λh10=>?_) (λh10=>?_))<;>(try simp only[Bi,Bu]at h10)<;>(try simp only[h10])
 ·have hne:la.length≠lb.length:=by
   have:(la.length:Int)≠lb.length:=by simpa using h10
   omega
  refine AC.seq ?_;refine sZ 200 ?_;refine AT (Aj ea eb) ?_;refine AM ?_
  (refine Bw (λh15=>?_) (λh15=>?_))<;>(try simp only[Bi,Bu]at h15)<;>(try simp only[h15])
  ·have h1:la.length<lb.length:=by
    have:(la.length:Int)<lb.length:=by simpa using h15
    omega
   rw[AG (by have:=hlt h1;omega)];refine sR 300 ?_;refine Ah ?_;exact AL rfl AA.out
  ·have h1:lb.length<la.length:=by
    have:¬(la.length:Int)<lb.length:=by simpa using h15
    omega
   have h2:=hgt h1;rw[AF (by omega),AG (by omega)];refine An ?_;refine sR 400 ?_;refine Ah ?_;exact AL rfl AA.out
 ·have hl:la.length=lb.length:=by
   have:(la.length:Int)=lb.length:=by simpa using h10
   omega
  clear hlt hgt;refine An ?_;refine AC.seq ?_;refine sZ 500 ?_;refine AT ea ?_;refine AC.block ?_;have w0:IntKind.i64.wrap ((la.length:Int)-1)=(la.length:Int)-1:=wI (by omega) (by omega);rw[w0];refine AC.loop (α:=Nat×Nat) (λp=>⟨[(0,.sl false 1 (la.map AR)),(1,.sl false 1 (lb.map AR)),(5,i64 ((p.1:Int)-1))],[],p.2⟩) (λp=>p.1)
   (λp=>p.1<=la.length/\la.drop p.1=lb.drop p.1) (la.length,_) ⟨Af _,by rw[IZ,hl,IZ]⟩ AK ?_
  rintro⟨k,m⟩ F ⟨h1,h2⟩;dsimp only at h1 h2⊢;refine AC.seq ?_;refine sR 600 ?_;refine AM ?_
  (refine Bw (λh20=>?_) (λh20=>?_))<;>(try simp only[Bi,Bu]at h20)<;>(try simp only[h20])
  ·obtain⟨j,rfl⟩:∃j,k=j+1:=⟨k-1,by
    have:(k:Int)-1>=0:=by simpa using h20
    omega⟩
   have wj:((j+1:Nat):Int)-1=(j:Int):=by omega
   obtain⟨x,hx⟩:∃x,la[j]?=some x:=⟨la[j],BE (by omega)⟩
   obtain⟨y,hy⟩:∃y,lb[j]?=some y:=⟨lb[j],BE (by omega)⟩
   have hx':=DS hx;have hy':=DS hy;rw[wj];refine An ?_;refine AC.seq ?_;refine AC.block ?_;refine AC.seq ?_;refine B5 w1 800 [0,1,2,3,4,5,6,7] [8] (by kernel_rfl) ?_;refine AD kN ?_;refine Bq kT hx' ?_;refine AD kN ?_;refine Bq kT hy' ?_;refine AD kN ?_;refine AD kN ?_;refine AM ?_
   (refine Bw (λh31=>?_) (λh31=>?_))<;>(try simp only[Bi,Bu]at h31)<;>(try simp only[h31])
   ·have hne:x≠y:=by
     intro h0;subst h0;simp at h31
    refine AC.seq ?_;refine AC.seq ?_;refine B5 w1 900 [0,1,2,3,4,5,6,7] [8] (by kernel_rfl) ?_;refine AD kN ?_;refine Bq kT hx' ?_;refine AD kN ?_;refine Bq kT hy' ?_;refine AD kN ?_;refine AD kN ?_;refine AM ?_
    (refine Bw (λh40=>?_) (λh40=>?_))<;>(try simp only[Bi,Bu]at h40)<;>(try simp only[h40])
    ·have hxy:x<y:=by
      have:(x:Int)<y:=by simpa using h40
      omega
     have:=Wn hwa hx hy h2 hxy
     rw[AG (by omega)];refine sR 1000 ?_;refine Ah ?_;exact AL rfl AA.out
    ·have hxy:y<x:=by
      have:¬(x:Int)<y:=by simpa using h40
      omega
     have:=Wn hwb hy hx h2.symm hxy
     rw[AF (by omega),AG (by omega)];refine An ?_;refine sR 1100 ?_;refine Ah ?_;exact AL rfl AA.out
   ·have hxy:x=y:=by
     have:(x:Int)=y:=by simpa using h31
     omega
    subst hxy;have w5:IntKind.i64.wrap ((j:Int)-1)=(j:Int)-1:=wI (by omega) (by omega);refine An ?_;refine Ao w1 700 (by kernel_rfl) ?_;refine AT w5 ?_;have hj:=(List.getElem?_eq_some_iff.1 hx)
    have hj':=(List.getElem?_eq_some_iff.1 hy)
    refine⟨(j,_),⟨by dsimp only;omega,?_⟩,by dsimp only;omega,AK⟩;dsimp only;rw[EK hj.1,EK hj'.1,hj.2,hj'.2,h2]
  ·have hk:k=0:=by
    have:¬((k:Int)-1>=0):=by simpa using h20
    omega
   subst hk;have hab:a=b:=by
    rw[<-va,<-vb]
    have:la=lb:=by simpa using h2
    rw[this]
   subst hab;rw[AF (by omega),AF (by omega)];refine B6 ?_;refine sR 1200 ?_;refine Ah ?_;exact AL rfl AA.out
theorem Xh {a b c:Nat}(hc:c<=1):Ks 252 [AR a,AR b,AR c]=some (.tup [AR ((a+b+c)%BB),AR ((a+b+c)/BB)]):=by
 show(match Nat.ble c 1 with
  |true=>some (D.tup [.prim (.int .u64 (((a+b+c)%18446744073709551616:Nat):Int)),.prim (.int .u64 (((a+b+c)/18446744073709551616:Nat):Int))])
  |false=>none)=_
 have h1:Nat.ble c 1=true:=by rw[Nat.ble_eq];exact hc
 rw[h1]
theorem FB {l:List Nat}{i a:Nat}(h:l[i]?=some a):l.take (i+1)=l.take i++[a]:=by rw[Di,h];rfl
theorem QX {l:List Nat}{i a:Nat}(h:i<l.length):(l.set i a).take (i+1)=l.take i++[a]:=by
 rw[FB (l:=l.set i a) (i:=i) (a:=a) (by simp[h]),List.take_set_of_le (Af _)]
theorem Gh {l:List Nat}{i a:Nat}(hi:l.length=i):AS (l++[a])=AS l+BB^i*a:=by rw[KE,hi];simp[AS]
theorem map_set {l:List Nat}{i a:Nat}:(l.map AR).set i (AR a)=(l.set i a).map AR:=List.map_set.symm
theorem Wd.set {l:List Nat}(h:Wd l){i a:Nat}(ha:a<BB):Wd (l.set i a):=λb hb=>by
 rcases NQ hb with h1|rfl
 ·exact h b h1
 ·exact ha
theorem MW (n:Nat):Wd (List.replicate n 0):=λa ha=>by rw[PP ha];decide
theorem Uw {env:Ar}{t K g n N:Nat}{z:List Nat}{T:Nat}(hl:z.length=N)(he:env.get t=.osl K g 1 0 N:=by exact rfl):Wk ⟨env,[⟨K,g,T,1,z.map AR⟩],n⟩ ⟨[(t,.sl false 1 (z.map AR))],[],n⟩:=by
 subst hl;refine⟨.drop .nil,⟨?_,trivial⟩,Af _⟩;dsimp only;rw[he]
 have:=RM K g T 1 (z.map AR)
 rwa [Ak]at this
theorem nN (la lb:List Nat)(ha:Wd la)(hb:Wd lb)(hla:la.length<4000000)(hlb:lb.length<4000000):AI C0 207 [wL la,wL lb] (wD (AS la+AS lb)):=by
 refine Ag.walk w1 bU rfl λF=>?_
 unfold wL;have ea:(((la.map AR).length:Nat):Int)=(la.length:Int):=by rw[Ak]
 have eb:(((lb.map AR).length:Nat):Int)=(lb.length:Int):=by rw[Ak]
 obtain⟨x,y,hsw,hle,hx,hy,hlx,hv⟩:∃x y:List Nat,(la.length<lb.length/\x=lb/\y=la\/¬la.length<lb.length/\x=la/\y=lb)/\y.length<=x.length/\Wd x/\Wd y/\x.length<4000000/\AS la+AS lb=AS x+AS y:=by
  by_cases h:la.length<lb.length
  ·exact⟨lb,la,.inl ⟨h,rfl,rfl⟩,by omega,hb,ha,hlb,by omega⟩
  ·exact⟨la,lb,.inr ⟨h,rfl,rfl⟩,by omega,ha,hb,hla,rfl⟩
 rw[hv];refine sR 0 ?_;refine EU ⟨[(0,.sl false 1 (x.map AR)),(1,.sl false 1 (y.map AR)),(4,CM)],[],20⟩ ?_ ?_
 ·refine sZ 100 ?_
  refine AT (Aj ea eb) ?_;refine AM ?_;rcases hsw with⟨h,rfl,rfl⟩|⟨h,rfl,rfl⟩
  ·have e1:decide ((y.length:Int)<(x.length:Int))=true:=AX (by omega)
   rw[e1];refine rI 200 ?_;exact And.intro (by trivial) (AK)
  ·have e1:decide ((x.length:Int)<(y.length:Int))=false:=Ac (by omega)
   rw[e1];refine An ?_;exact And.intro (by trivial) (AK)
 clear hsw ea eb;have ex:(((x.map AR).length:Nat):Int)=(x.length:Int):=by rw[Ak]
 have ey:(((y.map AR).length:Nat):Int)=(y.length:Int):=by rw[Ak]
 have w3:IntKind.i64.wrap ((x.length:Int)+1)=((x.length+1:Nat):Int):=by rw[wI (by omega) (by omega)];omega
 have r3:List.replicate (x.length+1) (ofV (.int .u64 0))=(List.replicate (x.length+1) 0).map AR:=by rw[Jw];rfl
 refine sZ 300 ?_;refine AT (As ex w3 kN) ?_;refine sR 400 ?_;refine AC.seq ?_;refine sZ 500 ?_;refine AT ex ?_;refine AC.block ?_;refine AC.loop (α:=Nat×Nat×List Nat×Nat) (λp=>⟨[(0,.sl false 1 (x.map AR)),(1,.sl false 1 (y.map AR)),(4,CM),(5,.osl 303 23 1 0 (x.length+1)),(6,AR p.2.1),(21,i64 x.length),(22,i64 p.1)],[⟨303,23,210,1,p.2.2.1.map AR⟩],p.2.2.2⟩) (λp=>x.length-p.1)
  (λp=>p.1<=x.length/\p.2.1<=1/\p.2.2.1.length=x.length+1/\Wd p.2.2.1/\AS (p.2.2.1.take p.1)+BB^p.1*p.2.1=AS (x.take p.1)+AS (y.take p.1)) (0,0,List.replicate (x.length+1) 0,_)
  ⟨BS _,BS _,by simp,MW _,by simp[AS]⟩ (by rw[<-r3];exact AK) ?_
 rintro⟨i,c,o,m⟩ F ⟨h1,h2,h3,h4,h5⟩;dsimp only at h1 h2 h3 h4 h5⊢;refine sR 600 ?_;refine AC.seq ?_;refine AM ?_
 (refine Bw (λh23=>?_) (λh23=>?_))<;>(try simp only[Bi,Bu]at h23)<;>(try simp only[h23])
 ·have hi:i<x.length:=by simpa using h23
  obtain⟨a,hxa⟩:∃a,x[i]?=some a:=⟨x[i],BE hi⟩
  have ha:=DS hxa;obtain⟨v,hvl,hvv⟩:∃v,v<BB/\(i<y.length/\y[i]?=some v\/y.length<=i/\v=0):=by
   by_cases h:i<y.length
   ·exact⟨y[i],hy _ (List.getElem_mem h),.inl ⟨h,BE h⟩⟩
   ·exact⟨0,by decide,.inr ⟨by omega,rfl⟩⟩
  have hal:a<BB:=hx a (Av hxa);have hyv:AS (y.take (i+1))=AS (y.take i)+BB^i*v:=by
   rcases hvv with⟨h,hh⟩|⟨h,rfl⟩
   ·rw[FB hh,Gh (i:=i) (by rw[Ba];omega)]
   ·rw[CA (by omega),CA h];simp
  have hoi:i<o.length:=by omega
  obtain⟨oi,hoa⟩:∃a,o[i]?=some a:=⟨o[i],BE hoi⟩
  have hob:=DS hoa;have hadd:=Xh (a:=a) (b:=v) h2;have wi:IntKind.i64.wrap ((i:Int)+1)=((i+1:Nat):Int):=wI (by omega) (by omega);refine An ?_;refine AC.seq ?_;refine AC.block ?_;refine sR 700 ?_;refine sR 800 ?_;refine EU ⟨[(0,.sl false 1 (x.map AR)),(1,.sl false 1 (y.map AR)),(4,CM),(5,.osl 303 23 1 0 (x.length+1)),(6,AR c),(7,i64 i),(8,AR v),(21,i64 x.length),(22,i64 i)],[⟨303,23,210,1,o.map AR⟩],m+30⟩ ?_ ?_
  ·refine sZ 900 ?_
   refine AT ey ?_;refine AM ?_;rcases hvv with⟨h,hh⟩|⟨h,rfl⟩
   ·have hy':=DS hh
    have e1:decide ((i:Int)<(y.length:Int))=true:=AX (by omega);rw[e1];refine rI 1000 ?_;refine AD kN ?_;refine Bq kT hy' ?_;refine BN ?_;exact And.intro (by trivial) (AK)
   ·have e1:decide ((i:Int)<(y.length:Int))=false:=Ac (by omega)
    rw[e1];refine An ?_;exact And.intro (by trivial) (AK)
  refine rI 1100 ?_;refine AD kN ?_;refine Bq kT ha ?_;refine AD kN ?_
  first|(refine D6 rfl rfl ?_;refine Qj rfl rfl (hadd) ?_)|(refine Eb rfl rfl ?_;refine OV rfl rfl (hadd) ?_)
  refine AD (As kN BU hob) ?_;have hs:(a+v+c)%BB<BB:=B1 _ (by decide);have hc':(a+v+c)/BB<=1:=by
   have:a+v+c<2*BB:=by omega
   exact Na (E3 (by rw[BP];exact this))
  rw[map_set];refine Ao w1 1200 (by kernel_rfl) ?_;refine AT wi ?_;refine⟨(i+1,(a+v+c)/BB,o.set i ((a+v+c)%BB),_),⟨hi,hc',by dsimp only;rw[DE];exact h3,h4.set hs,?_⟩,by dsimp only;omega,AK⟩;dsimp only;rw[QX hoi,Gh (i:=i) (by rw[Ba];omega),FB hxa,Gh (i:=i) (by rw[Ba];omega),hyv];have hm:=Eo (a+v+c) BB;rw[CK,Bx,EX,<-BL,hm,BL,BL];omega
 ·have hi:i=x.length:=by
   have:¬i<x.length:=by simpa using h23
   omega
  subst hi;obtain⟨oi,hoa⟩:∃a,o[x.length]?=some a:=⟨o[x.length],BE (by omega)⟩
  have hob:=DS hoa;refine B6 ?_;refine sZ 1300 ?_;refine AD (BW ex kN BU hob) ?_;rw[map_set];have ho:o.set x.length c=o.take x.length++[c]:=by
   have:=QX (l:=o) (i:=x.length) (a:=c) (by omega)
   rwa [CA (by rw[DE];omega)]at this
  have hov:AS (o.set x.length c)=AS x+AS y:=by
   rw[ho,Gh (i:=x.length) (by rw[Ba];omega),h5,CA (Af _),CA hle]
  have how:Wd (o.set x.length c):=h4.set (DY h2 (by decide));have hol:(o.set x.length c).length=x.length+1:=by rw[DE];exact h3
  generalize o.set x.length c=z at*;refine AC.weak ⟨[(5,.sl false 1 (z.map AR))],[],_⟩ (Uw hol) ?_;refine sR 1400 ?_;refine BD.same _ (trim_ok z how (by omega)) AJ ?_;refine BN ?_;refine Ah ?_;exact AL (by rw[hov]) AA.out
theorem Tg {a b c:Nat}(hc:c<=1):Ks 253 [AR a,AR b,AR c]=some (.tup [AR ((a+BB-b-c)%BB),AR (if a<b+c then 1 else 0)]):=by
 show(match Nat.ble c 1 with
  |true=>some (D.tup [.prim (.int .u64 (((a+18446744073709551616-b-c)%18446744073709551616:Nat):Int)),.prim (.int .u64 ((if a<b+c then 1 else 0:Nat):Int))])
  |false=>none)=_
 have h1:Nat.ble c 1=true:=by rw[Nat.ble_eq];exact hc
 rw[h1]
theorem TJ {a v c:Nat}(ha:a<BB)(hv:v<BB)(hc:c<=1):(a+BB-v-c)%BB+v+c=a+BB*(if a<v+c then 1 else 0):=by
 by_cases h:a<v+c
 ·rw[AG h,Dd (by omega)];omega
 ·rw[AF h]
  have:a+BB-v-c=(a-v-c)+BB:=by omega
  rw[this,Nat.add_mod_right,Dd (by omega)];omega
theorem oq (x y:List Nat)(hx:Wd x)(hy:Wd y)(hlx:x.length<4000000)(hle:y.length<=x.length)(hv:AS y<=AS x):AI C0 209 [wL x,wL y] (wD (AS x-AS y)):=by
 refine Ag.walk w1 bW rfl λF=>?_
 unfold wL;have ex:(((x.map AR).length:Nat):Int)=(x.length:Int):=by rw[Ak]
 have ey:(((y.map AR).length:Nat):Int)=(y.length:Int):=by rw[Ak]
 have r3:List.replicate x.length (ofV (.int .u64 0))=(List.replicate x.length 0).map AR:=by rw[Jw];rfl
 refine sR 0 ?_;refine sZ 100 ?_;refine AT (Aj ex kN) ?_;refine sR 200 ?_;refine AC.seq ?_;refine sZ 300 ?_;refine AT ex ?_;refine AC.block ?_;refine AC.loop (α:=Nat×Nat×List Nat×Nat) (λp=>⟨[(0,.sl false 1 (x.map AR)),(1,.sl false 1 (y.map AR)),(4,CM),(5,.osl 102 3 1 0 x.length),(6,AR p.2.1),(13,i64 x.length),(14,i64 p.1)],[⟨102,3,210,1,p.2.2.1.map AR⟩],p.2.2.2⟩) (λp=>x.length-p.1)
  (λp=>p.1<=x.length/\p.2.1<=1/\p.2.2.1.length=x.length/\Wd p.2.2.1/\AS (p.2.2.1.take p.1)+AS (y.take p.1)=AS (x.take p.1)+BB^p.1*p.2.1) (0,0,List.replicate x.length 0,_)
  ⟨BS _,BS _,by simp,MW _,by simp[AS]⟩ (by rw[<-r3];exact AK) ?_
 rintro⟨i,c,o,m⟩ F ⟨h1,h2,h3,h4,h5⟩;dsimp only at h1 h2 h3 h4 h5⊢;refine sR 400 ?_;refine AC.seq ?_;refine AM ?_
 (refine Bw (λh23=>?_) (λh23=>?_))<;>(try simp only[Bi,Bu]at h23)<;>(try simp only[h23])
 ·have hi:i<x.length:=by simpa using h23
  obtain⟨a,hxa⟩:∃a,x[i]?=some a:=⟨x[i],BE hi⟩
  have ha:=DS hxa;obtain⟨v,hvl,hvv⟩:∃v,v<BB/\(i<y.length/\y[i]?=some v\/y.length<=i/\v=0):=by
   by_cases h:i<y.length
   ·exact⟨y[i],hy _ (List.getElem_mem h),.inl ⟨h,BE h⟩⟩
   ·exact⟨0,by decide,.inr ⟨by omega,rfl⟩⟩
  have hal:a<BB:=hx a (Av hxa);have hyv:AS (y.take (i+1))=AS (y.take i)+BB^i*v:=by
   rcases hvv with⟨h,hh⟩|⟨h,rfl⟩
   ·rw[FB hh,Gh (i:=i) (by rw[Ba];omega)]
   ·rw[CA (by omega),CA h];simp
  have hoi:i<o.length:=by omega
  obtain⟨oi,hoa⟩:∃a,o[i]?=some a:=⟨o[i],BE hoi⟩
  have hob:=DS hoa;have hsub:=Tg (a:=a) (b:=v) h2;have hdig:=TJ hal hvl h2;have hc':(if a<v+c then 1 else 0)<=1:=by split<;>decide
  have hs:(a+BB-v-c)%BB<BB:=B1 _ (by decide);generalize(if a<v+c then 1 else 0)=c' at*;generalize(a+BB-v-c)%BB=d at*;have wi:IntKind.i64.wrap ((i:Int)+1)=((i+1:Nat):Int):=wI (by omega) (by omega);refine An ?_;refine AC.seq ?_;refine AC.block ?_;refine sR 500 ?_;refine sR 600 ?_;refine EU ⟨[(0,.sl false 1 (x.map AR)),(1,.sl false 1 (y.map AR)),(4,CM),(5,.osl 102 3 1 0 x.length),(6,AR c),(7,i64 i),(8,AR v),(13,i64 x.length),(14,i64 i)],[⟨102,3,210,1,o.map AR⟩],m+30⟩ ?_ ?_
  ·refine sZ 700 ?_
   refine AT ey ?_;refine AM ?_;rcases hvv with⟨h,hh⟩|⟨h,rfl⟩
   ·have hy':=DS hh
    have e1:decide ((i:Int)<(y.length:Int))=true:=AX (by omega);rw[e1];refine rI 800 ?_;refine AD kN ?_;refine Bq kT hy' ?_;refine BN ?_;exact And.intro (by trivial) (AK)
   ·have e1:decide ((i:Int)<(y.length:Int))=false:=Ac (by omega)
    rw[e1];refine An ?_;exact And.intro (by trivial) (AK)
  refine rI 900 ?_;refine AD kN ?_;refine Bq kT ha ?_;refine AD kN ?_
  first|(refine D6 rfl rfl ?_;refine Qj rfl rfl (hsub) ?_)|(refine Eb rfl rfl ?_;refine OV rfl rfl (hsub) ?_)
  refine AD (As kN BU hob) ?_;rw[map_set];refine Ao w1 1000 (by kernel_rfl) ?_;refine AT wi ?_;refine⟨(i+1,c',o.set i d,_),⟨hi,hc',by dsimp only;rw[DE];exact h3,h4.set hs,?_⟩,by dsimp only;omega,AK⟩;dsimp only;rw[QX hoi,Gh (i:=i) (by rw[Ba];omega),FB hxa,Gh (i:=i) (by rw[Ba];omega),hyv];have h6:BB^i*d+BB^i*v+BB^i*c=BB^i*a+BB^(i+1)*c':=by
   rw[CK,Bx,<-BL,<-BL,<-BL,hdig]
  omega
 ·have hi:i=x.length:=by
   have:¬i<x.length:=by simpa using h23
   omega
  subst hi;rw[CA (Nat.le_of_eq h3),CA (Af _),CA hle]at h5;have hlt:=Hc h4;rw[h3]at hlt;have hc0:c=0:=by
   rcases Dk c with h|h
   ·exact h
   ·have:c=1:=by omega
    subst this;rw[EC]at h5;omega
  subst hc0;have hov:AS o=AS x-AS y:=by
   rw[EY]at h5;omega
  refine B6 ?_;refine AC.weak ⟨[(5,.sl false 1 (o.map AR))],[],_⟩ (Uw h3) ?_;refine sR 1100 ?_;refine BD.same _ (trim_ok o h4 (by omega)) AJ ?_;refine BN ?_;refine Ah ?_;exact AL (by rw[hov]) AA.out
theorem JT:∀ {l:List Nat} {k o d:Nat},l[k]?=some o->AS (l.set k d)+BB^k*o=AS l+BB^k*d
 |a::l,0,o,d,h=>by
  simp only[SA,BK]at h;subst h;simp only[List.set_cons_zero,AS,MD,JH];omega
 |a::l,k+1,o,d,h=>by
  simp only[Jy]at h;have ih:=JT (d:=d) h;simp only[List.set_cons_succ,AS];have h1:BB^(k+1)*o=BB*(BB^k*o):=by rw[CK,BP (BB^k) BB,Bx]
  have h2:BB^(k+1)*d=BB*(BB^k*d):=by rw[CK,BP (BB^k) BB,Bx]
  have h3:BB*AS (l.set k d)+BB*(BB^k*o)=BB*AS l+BB*(BB^k*d):=by rw[<-BL,<-BL,ih]
  omega
theorem jp {x y o c:Nat}(hx:x<BB)(hy:y<BB)(ho:o<BB)(hc:c<BB):
  ∃hi lo c1 lo1 hi1 c2 lo2 c',hi=x*y/BB/\lo=x*y%BB/\lo1=(lo+o+0)%BB/\c1=(lo+o+0)/BB/\hi1=hi+c1/\hi1<BB/\lo2=(lo1+c+0)%BB/\c2=(lo1+c+0)/BB/\c'=hi1+c2/\c'<BB/\lo2<BB /\
   lo2+BB*c'=x*y+o+c:=by
 refine⟨_,_,_,_,_,_,_,_,rfl,rfl,rfl,rfl,rfl,?_,rfl,rfl,rfl,?_,B1 _ (by decide),?_⟩
 all_goals
  unfold BB at*;have e1:=Eo (x*y) 18446744073709551616;have e2:=Eo (x*y%18446744073709551616+o+0) 18446744073709551616;have e3:=Eo ((x*y%18446744073709551616+o+0)%18446744073709551616+c+0) 18446744073709551616;have hxy:x*y<=(18446744073709551616-1)*(18446744073709551616-1):=Ig (by omega) (by omega);have hk:(18446744073709551616-1)*(18446744073709551616-1)=340282366920938463426481119284349108225:=by decide
  rw[hk]at hxy;have l1:=B1 (x*y) (show 18446744073709551616>0 by decide);have l2:=B1 (x*y%18446744073709551616+o+0) (show 18446744073709551616>0 by decide);have l3:=B1 ((x*y%18446744073709551616+o+0)%18446744073709551616+c+0) (show 18446744073709551616>0 by decide);generalize x*y=p at*;generalize hA:p/18446744073709551616=A at*;generalize hB:p%18446744073709551616=B at*;generalize hC:(B+o+0)/18446744073709551616=C at*;generalize hD:(B+o+0)%18446744073709551616=D at*;generalize hE:(D+c+0)/18446744073709551616=E at*;generalize hF:(D+c+0)%18446744073709551616=F at*;omega
theorem Vr {n:Nat}(h:n<BB):IntKind.u64.wrap (n:Int)=(n:Int):=wU (by omega) (by unfold BB at h;omega)
theorem oG (a b:List Nat)(ha:Wd a)(hb:Wd b)(hla:a.length<1000000)(hlb:b.length<1000000):AI C0 206 [wL a,wL b] (wD (AS a*AS b)):=by
 refine Ag.walk w1 bT rfl λF=>?_
 unfold wL;have ea:(((a.map AR).length:Nat):Int)=(a.length:Int):=by rw[Ak]
 have eb:(((b.map AR).length:Nat):Int)=(b.length:Int):=by rw[Ak]
 have wl:IntKind.i64.wrap ((a.length:Int)+(b.length:Int))=((a.length+b.length:Nat):Int):=by rw[wI (by omega) (by omega)];omega
 have r3:List.replicate (a.length+b.length) (ofV (.int .u64 0))=(List.replicate (a.length+b.length) 0).map AR:=by rw[Jw];rfl
 refine sR 0 ?_;refine sZ 100 ?_;refine AT (BW ea eb wl kN) ?_;refine AC.seq ?_;refine sZ 200 ?_;refine AT ea ?_;refine AC.block ?_;refine AC.loop (α:=Nat×List Nat×Nat) (λp=>⟨[(0,.sl false 1 (a.map AR)),(1,.sl false 1 (b.map AR)),(4,CM),(5,.osl 105 6 1 0 (a.length+b.length)),(20,.sl false 1 (a.map AR)),(21,i64 a.length),(22,i64 p.1)],[⟨105,6,210,1,p.2.1.map AR⟩],p.2.2⟩) (λp=>a.length-p.1)
  (λp=>p.1<=a.length/\p.2.1.length=a.length+b.length/\Wd p.2.1/\AS p.2.1=AS (a.take p.1)*AS b/\∀k,p.1+b.length<=k->∀d,p.2.1[k]?=some d->d=0) (0,List.replicate (a.length+b.length) 0,_)
  ⟨BS _,by simp,MW _,by simp[AS,P2],λk _ d hd=>PP (Av hd)⟩ (by rw[<-r3];exact AK) ?_
 rintro⟨i,o,m⟩ F ⟨h1,h2,h3,h4,h5⟩;dsimp only at h1 h2 h3 h4 h5⊢;refine sR 300 ?_;refine AC.seq ?_;refine AM ?_
 (refine Bw (λh23=>?_) (λh23=>?_))<;>(try simp only[Bi,Bu]at h23)<;>(try simp only[h23])
 ·have hi:i<a.length:=by simpa using h23
  obtain⟨x,hx⟩:∃x,a[i]?=some x:=⟨a[i],BE hi⟩
  have hx':=DS hx;have hxl:x<BB:=ha x (Av hx);have wi:IntKind.i64.wrap ((i:Int)+1)=((i+1:Nat):Int):=wI (by omega) (by omega);have hax:AS (a.take (i+1))=AS (a.take i)+BB^i*x:=by rw[FB hx,Gh (i:=i) (by rw[Ba];omega)]
  refine An ?_;refine AC.seq ?_;refine AC.block ?_;refine sR 400 ?_;refine Bq kT hx' ?_;refine BN ?_;refine sR 500 ?_;refine AC.seq ?_;refine sZ 600 ?_;refine AT eb ?_;refine AC.block ?_;refine AC.loop (α:=Nat×Nat×List Nat×Nat) (λp=>⟨[(0,.sl false 1 (a.map AR)),(1,.sl false 1 (b.map AR)),(4,CM),(5,.osl 105 6 1 0 (a.length+b.length)),(6,i64 i),(7,AR x),(8,AR p.2.1),(20,.sl false 1 (a.map AR)),(21,i64 a.length),(22,i64 i),(27,.sl false 1 (b.map AR)),(28,i64 b.length),(29,i64 p.1)],[⟨105,6,210,1,p.2.2.1.map AR⟩],p.2.2.2⟩) (λp=>b.length-p.1)
   (λp=>p.1<=b.length/\p.2.1<BB/\p.2.2.1.length=a.length+b.length/\Wd p.2.2.1/\AS p.2.2.1+BB^(i+p.1)*p.2.1=AS (a.take i)*AS b+BB^i*x*AS (b.take p.1)/\∀k,i+b.length<=k->∀d,p.2.2.1[k]?=some d->d=0) (0,0,o,_)
   ⟨BS _,show 0<BB by decide,h2,h3,by simp[AS,h4],h5⟩ AK ?_
  rintro⟨j,c,q,m2⟩ F ⟨g1,g2,g3,g4,g5,g6⟩;dsimp only at g1 g2 g3 g4 g5 g6⊢;clear h2 h3 h4 h5 r3 wl;refine sR 700 ?_;refine AC.seq ?_;refine AM ?_
  (refine Bw (λh30=>?_) (λh30=>?_))<;>(try simp only[Bi,Bu]at h30)<;>(try simp only[h30])
  ·have hj:j<b.length:=by simpa using h30
   obtain⟨y,hy⟩:∃y,b[j]?=some y:=⟨b[j],BE hj⟩
   have hy':=DS hy;have hyl:y<BB:=hb y (Av hy);obtain⟨z,hz⟩:∃z,q[i+j]?=some z:=⟨q[i+j],BE (by omega)⟩
   have hz':=DS hz;have hzl:z<BB:=g4 z (Av hz);have wj:IntKind.i64.wrap ((j:Int)+1)=((j+1:Nat):Int):=wI (by omega) (by omega);have wij:IntKind.i64.wrap ((i:Int)+(j:Int))=((i+j:Nat):Int):=by rw[wI (by omega) (by omega)];omega
   have hbx:AS (b.take (j+1))=AS (b.take j)+BB^j*y:=by rw[FB hy,Gh (i:=j) (by rw[Ba];omega)]
   have cm:=OF x y hxl hyl;obtain⟨hi',lo,c1,lo1,hi1,c2,lo2,c',e1,e2,e3,e4,e5,e6,e7,e8,e9,e10,e11,e12⟩:=jp hxl hyl hzl g2;rw[show x*y/18446744073709551616=hi' from e1.symm,show x*y%18446744073709551616=lo from e2.symm]at cm;have e3':(lo+z+0)%18446744073709551616=lo1:=e3.symm;have e4':(lo+z+0)/18446744073709551616=c1:=e4.symm;have e7':(lo1+c+0)%18446744073709551616=lo2:=e7.symm;have e8':(lo1+c+0)/18446744073709551616=c2:=e8.symm;have w6:IntKind.u64.wrap ((hi':Int)+(c1:Int))=(hi1:Int):=by rw[<-Int.natCast_add,<-e5];exact Vr e6
   have w7:IntKind.u64.wrap ((hi1:Int)+(c2:Int))=(c':Int):=by rw[<-Int.natCast_add,<-e9];exact Vr e10
   refine An ?_;refine AC.seq ?_;refine AC.block ?_;refine sR 800 ?_;refine Bq kT hy' ?_;refine BN ?_;refine sR 900 ?_;refine BD.same _ cm AJ ?_;refine BN ?_;refine sR 1000 ?_;refine sZ 1100 ?_;refine AD (EM wij kN BU hz' e3' e4') ?_;refine sZ 1200 ?_;refine AT w6 ?_;refine sZ 1300 ?_;refine AT (Aj e7' e8') ?_;refine Ao w1 1400 (by kernel_rfl) ?_;refine AD (CF wij w7 kN BU hz') ?_;rw[show(D.prim (Value.int IntKind.u64 (lo2:Int)))=AR lo2 from rfl,map_set];refine Ao w1 1500 (by kernel_rfl) ?_;refine AT wj ?_;refine⟨(j+1,c',q.set (i+j) lo2,_),⟨hj,e10,by dsimp only;rw[DE];exact g3,g4.set e11,?_,λk hk d hd=>?_⟩,by dsimp only;omega,AK⟩
   ·dsimp only
    have hs:=JT (d:=lo2) hz;rw[hbx,BL,<-EX (AS (a.take i)*AS b),<-g5];have h6:BB^(i+j)*lo2+BB^(i+(j+1))*c'=BB^i*x*(BB^j*y)+BB^(i+j)*z+BB^(i+j)*c:=by
     have:BB^i*x*(BB^j*y)=BB^(i+j)*(x*y):=by
      rw[Fw,Bx,Bx,IY x]
     rw[this,<-EX i j 1,CK,Bx,<-BL,<-BL,<-BL,e12]
    omega
   ·dsimp only at hk hd
    rw[Ie (by omega)]at hd;exact g6 k hk d hd
  ·have hj:j=b.length:=by
    have:¬j<b.length:=by simpa using h30
    omega
   subst hj;obtain⟨z,hz⟩:∃z,q[i+b.length]?=some z:=⟨q[i+b.length],BE (by omega)⟩
   have hz0:z=0:=g6 _ (Af _) _ hz;subst hz0;have hz':=DS hz;have wij:IntKind.i64.wrap ((i:Int)+(b.length:Int))=((i+b.length:Nat):Int):=by rw[wI (by omega) (by omega)];omega
   have wij0:IntKind.i64.wrap ((i:Int)+(((b.map AR).length:Nat):Int))=((i+b.length:Nat):Int):=by rw[eb];exact wij
   refine B6 ?_;refine Ao w1 1600 (by kernel_rfl) ?_;refine AD (CF eb wij kN BU hz') ?_;rw[map_set];refine Ao w1 1700 (by kernel_rfl) ?_;refine AT wi ?_;refine⟨(i+1,q.set (i+b.length) c,_),⟨hi,by dsimp only;rw[DE];exact g3,g4.set g2,?_,λk hk d hd=>?_⟩,by dsimp only;omega,AK⟩
   ·dsimp only
    have hs:=JT (d:=c) hz;rw[CA (Af _)]at g5;rw[hax,Bv];omega
   ·dsimp only at hk hd
    rw[Ie (by omega)]at hd;exact g6 k (by omega) d hd
 ·have hi:i=a.length:=by
   have:¬i<a.length:=by simpa using h23
   omega
  subst hi;rw[CA (Af _)]at h4;refine B6 ?_;refine AC.weak ⟨[(5,.sl false 1 (o.map AR))],[],_⟩ (Uw h2) ?_;refine sR 1800 ?_;refine BD.same _ (trim_ok o h3 (by omega)) AJ ?_;refine BN ?_;refine Ah ?_;exact AL (by rw[h4]) AA.out
structure GI where
 z:Int
 sm:Bool
def GI.wf (x:GI):Prop:=(x.sm=true→-9223372036854775808<=x.z/\x.z<9223372036854775808)/\(x.sm=false->¬Sm x.z)
def GI.s (x:GI):Int:=match x.sm with
 |true=>x.z
 |false=>if x.z<0 then -1 else 1
def GI.w (x:GI):D:=match x.sm with
 |true=>CM
 |false=>wD x.z.natAbs
abbrev GI.D (x:GI):D:=.agg [i64 x.s,x.w]
theorem vF (x:GI):B4 x.w:=by
 unfold GI.w;split
 ·exact .prim _
 ·exact KR _
instance  (x:GI):AA x.w:=⟨vF x⟩
instance  (z:Int):Decidable (Sm z):=inferInstanceAs (Decidable (_/\_))
def AW (z:Int):GI:=⟨z,decide (Sm z)⟩
theorem Cf (z:Int):(AW z).wf:=by
 refine⟨λh=>?_,λh=>?_⟩
 ·have h:Sm z:=Cz h
  exact⟨Int.le_of_lt h.1,h.2⟩
 ·exact DN h
theorem JY {z:Int}(h:Sm z):AW z=⟨z,true⟩:=by unfold AW;rw[AX h]
theorem UX {z:Int}(h:¬Sm z):AW z=⟨z,false⟩:=by unfold AW;rw[Ac h]
theorem MN {n:Nat}(h0:n≠0)(h:n<BB):Ad n=[n]:=by
 rw[F8 h0,Dd h,HL h,Fi]
theorem HZ {n:Nat}(h:n≠0):(Ad n).map AR≠[]:=by rw[F8 h];simp
theorem bv (x:GI)(h:x.wf):(x.s<0)=(x.z<0):=by
 obtain⟨z,sm⟩:=x;cases sm with
 |true=>rfl
 |false=>
  unfold GI.s;dsimp only;split<;>simp<;>omega
theorem wH {H Hf:Hp}(n:Nat)(h0:n≠0)(h:n<BB):Fz H Hf (.sl true 1 [AR n]) (wD n):=by
 unfold wD wL;rw[MN h0 h];exact .nn true 1 _
theorem cY {H Hf:Hp}{a b c d:D}(h:Fz H Hf a c)(k:Fz H Hf b d):Fz H Hf (.tup [a,b]) (.tup [c,d]):=.tup rfl λi x y hx hy=>by
 match i with
 | 0=>simp at hx hy;subst hx;subst hy;exact h
 | 1=>simp at hx hy;subst hx;subst hy;exact k
 |i+2=>simp at hx
instance  (a b:Nat):AA (.tup [wD a,wD b]):=AJ
theorem nH:AI C0 204 [i64 (-9223372036854775808)] (AR 9223372036854775808):=CE DV 1000 40 (by kernel_rfl)
theorem Ob {z:Int}(h1 : -9223372036854775808<=z)(h2:z<9223372036854775808):AI C0 204 [i64 z] (AR z.natAbs):=by
 by_cases h:z = -9223372036854775808
 ·subst h;exact nH
 ·exact oc z ⟨by omega,h2⟩
theorem JR (x:GI)(h:x.wf):AI C0 167 [x.D] (.tup [Aq (decide (x.z<0)),wD x.z.natAbs]):=by
 refine Ag.walk w1 aB rfl λF=>?_
 obtain⟨z,sm⟩:=x;obtain⟨h1,h2⟩:=h;unfold GI.D GI.s GI.w;cases sm with
 |true=>
  obtain⟨h3,h4⟩:=h1 rfl;dsimp only at h3 h4⊢;have cs:=Ob h3 h4;refine sR 0 ?_;refine AC.seq ?_;refine AC.block ?_;refine sR 100 ?_;refine AM ?_;refine sR 300 ?_;refine AM ?_
  (refine Bw (λh13=>?_) (λh13=>?_))<;>(try simp only[Bi,Bu]at h13)<;>(try simp only[h13])
  ·have hz:z=0:=by simpa using h13
   subst hz;refine sR 400 ?_;refine Ah ?_;refine⟨_,cY (.refl _) (c:=Aq (decide ((0:Int)<0))) (d:=wD (Int.natAbs 0)) ?_,AA.out,rfl⟩;show Fz _ _ CM (wD 0);unfold wD wL;rw[Fi];exact .nil 1
  ·have hz:z≠0:=by simpa using h13
   refine An ?_;refine AC.seq ?_;refine B5 w1 500 [0,1,2,3,4,5,6,7] [8] (by kernel_rfl) ?_;refine AD kN ?_;refine BX.same _ cs AJ ?_;refine BN ?_;refine Ah ?_;refine⟨_,cY (.refl _) (c:=Aq (decide (z<0))) (wH z.natAbs (by omega) (by unfold BB;omega)),AA.out,rfl⟩
 |false=>
  have hb:=h2 rfl;have hs:=bv ⟨z,false⟩ ⟨h1,h2⟩;unfold GI.s at hs;dsimp only at hb hs⊢;have hne:=HZ (n:=z.natAbs) (by intro h0;apply hb;exact⟨by omega,by omega⟩);have hp:B4 (.sl false 1 ((Ad z.natAbs).map AR)):=KR _;unfold wD wL;generalize(Ad z.natAbs).map AR=l at*;generalize(if z<0 then(-1:Int)else 1)=sg at*;refine sR 0 ?_;refine AC.seq ?_;refine AC.block ?_;refine sZ 100 ?_;refine AT (As (@ne_eq (List D)) hne ER) ?_;refine AM ?_;refine AC.seq ?_;refine B5 w1 200 [0,1,2,3,4,5] [6] (by kernel_rfl) ?_;refine BN ?_;refine Ah ?_;refine AL ?_ (.tup λd hd=>?_)
  ·simp only[hs]
  ·simp only[A8,DW,or_false]at hd
   rcases hd with rfl|rfl
   ·exact .prim _
   ·exact hp
def Dv (neg:Bool)(n:Nat):Int:=match neg with
 |true=>-(n:Int)
 |false=>n
theorem LY (neg:Bool)(n:Nat)(hlen:(Ad n).length<4000000):AI C0 205 [Aq neg,wD n] (AW (Dv neg n)).D:=by
 refine Ag.walk w1 aR rfl λF=>?_
 by_cases h0:n=0
 ·subst h0
  have e:AW (Dv neg 0)=⟨0,true⟩:=by cases neg<;>exact JY ⟨by decide,by decide⟩
  rw[e];unfold wD wL GI.D GI.s GI.w;rw[Fi];dsimp only[List.map];refine sR 0 ?_;refine AC.seq ?_;refine AC.block ?_;refine sR 100 ?_;refine AM ?_;refine sR 200 ?_;refine Ah ?_;exact AL rfl AA.out
 ·by_cases h1:n<BB
  ·have hl:=MN h0 h1
   have b1:(((1:Nat):Int)==0)=false:=rfl;have b2:(((1:Nat):Int)==1)=true:=rfl;have hx:[AR n][(0:Int).toNat]?=some (AR n):=rfl
   by_cases h2:n<=9223372036854775807
   ·have b3:decide ((n:Int)<=9223372036854775807)=true:=AX (by omega)
    have hsm:Sm (Dv neg n):=by unfold Dv;split<;>exact⟨by omega,by omega⟩
    rw[JY hsm];unfold wD wL GI.D GI.s GI.w;rw[hl];dsimp only[List.map];have w1':IntKind.i64.wrap (n:Int)=(n:Int):=wN h2;have w2':IntKind.i64.wrap (0-(n:Int)) = -(n:Int):=by rw[wI (by omega) (by omega)];omega
    cases neg with
    |true=>
     unfold Dv;dsimp only;refine sR 0 ?_;refine AC.seq ?_;refine AC.block ?_;refine sZ 100 ?_;refine AT b1 ?_;refine AM ?_;refine sZ 300 ?_;refine AD (Aj b2 b3) ?_;refine AD (Aj b2 b3) ?_;refine Bq b2 hx ?_;refine AD (Aj b2 b3) ?_;refine AD (Aj b2 b3) ?_;refine AM ?_;refine sZ 400 ?_;refine AD b2 ?_;refine Bq b2 hx ?_;refine AD (Aj w1' w2') ?_;refine Ah ?_;exact AL rfl AA.out
    |false=>
     unfold Dv;dsimp only;refine sR 0 ?_;refine AC.seq ?_;refine AC.block ?_;refine sZ 100 ?_;refine AT b1 ?_;refine AM ?_;refine sZ 300 ?_;refine AD (Aj b2 b3) ?_;refine AD (Aj b2 b3) ?_;refine Bq b2 hx ?_;refine AD (Aj b2 b3) ?_;refine AD (Aj b2 b3) ?_;refine AM ?_;refine sZ 500 ?_;refine AD (Aj b2 b3) ?_;refine AD (Aj b2 b3) ?_;refine Bq b2 hx ?_;refine AD (Aj b2 b3) ?_;refine AD (Aj b2 b3) ?_;refine AM ?_;refine sZ 600 ?_;refine AD b2 ?_;refine Bq b2 hx ?_;refine AD (Aj w1' w2') ?_;refine Ah ?_;exact AL rfl AA.out
   ·have b3:decide ((n:Int)<=9223372036854775807)=false:=Ac (by omega)
    have hsm:¬Sm (Dv neg n):=by
     intro hs;have h3:=hs.1;have h4:=hs.2
     revert h3 h4
     unfold Dv;split<;>intro h3 h4<;>omega
    rw[UX hsm];have ha:(Dv neg n).natAbs=n:=by unfold Dv;split<;>omega
    unfold GI.D GI.s GI.w;dsimp only;rw[ha];unfold wD wL;rw[hl];dsimp only[List.map];cases neg with
    |true=>
     have hs:(if Dv true n<0 then(-1:Int)else 1) = -1:=AG (by show -(n:Int)<0;omega);rw[hs];refine sR 0 ?_;refine AC.seq ?_;refine AC.block ?_;refine sZ 100 ?_;refine AT b1 ?_;refine AM ?_;refine sZ 300 ?_;refine AD (Aj b2 b3) ?_;refine AD (Aj b2 b3) ?_;refine Bq b2 hx ?_;refine AD (Aj b2 b3) ?_;refine AD (Aj b2 b3) ?_;refine AM ?_;refine sZ 500 ?_;refine AD (Aj b2 b3) ?_;refine AD (Aj b2 b3) ?_;refine Bq b2 hx ?_;refine AD (Aj b2 b3) ?_;refine AD (Aj b2 b3) ?_;refine AM ?_;refine sR 700 ?_;refine AM ?_;refine sR 800 ?_;refine Ah ?_;exact AL rfl AA.out
    |false=>
     have hs:(if Dv false n<0 then(-1:Int)else 1)=1:=AF (by show ¬(n:Int)<0;omega);rw[hs];refine sR 0 ?_;refine AC.seq ?_;refine AC.block ?_;refine sZ 100 ?_;refine AT b1 ?_;refine AM ?_;refine sZ 300 ?_;refine AD (Aj b2 b3) ?_;refine AD (Aj b2 b3) ?_;refine Bq b2 hx ?_;refine AD (Aj b2 b3) ?_;refine AD (Aj b2 b3) ?_;refine AM ?_;refine sZ 500 ?_;refine AD (Aj b2 b3) ?_;refine AD (Aj b2 b3) ?_;refine Bq b2 hx ?_;refine AD (Aj b2 b3) ?_;refine AD (Aj b2 b3) ?_;refine AM ?_;refine sR 700 ?_;refine AM ?_;refine An ?_;refine sR 900 ?_;refine Ah ?_;exact AL rfl AA.out
  ·have hl2:2<=(Ad n).length:=by
    rw[F8 h0,F8 (n:=n/BB) (by
     intro h
     have:=EW n BB
     have:=B1 n (show BB>0 by decide)
     rw[h]at*;omega)]
    simp
   have hsm:¬Sm (Dv neg n):=by
    intro hs;have h3:=hs.1;have h4:=hs.2;have h5:BB<=n:=by omega
    unfold BB at h5
    revert h3 h4
    unfold Dv;split<;>intro h3 h4<;>omega
   rw[UX hsm];have ha:(Dv neg n).natAbs=n:=by unfold Dv;split<;>omega
   have hp:AA (.sl false 1 ((Ad n).map AR)):=⟨KR _⟩
   unfold GI.D GI.s GI.w;dsimp only;rw[ha];unfold wD wL;have hel:((((Ad n).map AR).length:Nat):Int)=((Ad n).length:Int):=by rw[Ak]
   generalize(Ad n).map AR=l at*;generalize hL:(Ad n).length=L at*;have b1:((L:Int)==0)=false:=Bs.2 (by omega);have b2:((L:Int)==1)=false:=Bs.2 (by omega);cases neg with
   |true=>
    have hs:(if Dv true n<0 then(-1:Int)else 1) = -1:=AG (by show -(n:Int)<0;omega);rw[hs];refine sR 0 ?_;refine AC.seq ?_;refine AC.block ?_;refine sZ 100 ?_;refine AT (Aj hel b1) ?_;refine AM ?_;refine sZ 300 ?_;refine AT (Aj hel b2) ?_;refine AD (Aj hel b2) ?_;refine AD (Aj hel b2) ?_;refine AM ?_;refine sZ 500 ?_;refine AT (Aj hel b2) ?_;refine AD (Aj hel b2) ?_;refine AM ?_;refine sR 700 ?_;refine AM ?_;refine sR 800 ?_;refine Ah ?_;exact AL rfl AA.out
   |false=>
    have hs:(if Dv false n<0 then(-1:Int)else 1)=1:=AF (by show ¬(n:Int)<0;omega);rw[hs];refine sR 0 ?_;refine AC.seq ?_;refine AC.block ?_;refine sZ 100 ?_;refine AT (Aj hel b1) ?_;refine AM ?_;refine sZ 300 ?_;refine AT (Aj hel b2) ?_;refine AD (Aj hel b2) ?_;refine AD (Aj hel b2) ?_;refine AM ?_;refine sZ 500 ?_;refine AT (Aj hel b2) ?_;refine AD (Aj hel b2) ?_;refine AM ?_;refine sR 700 ?_;refine AM ?_;refine An ?_;refine sR 900 ?_;refine Ah ?_;exact AL rfl AA.out
theorem M1 (x:GI)(h:x.wf):AI C0 200 [x.D] (i64 (max (-1) (min 1 x.z))):=by
 refine Ag.walk w1 aN rfl λF=>?_
 have e:max (-1) (min 1 x.s)=max (-1) (min 1 x.z):=by
  obtain⟨z,sm⟩:=x;cases sm with
  |true=>rfl
  |false=>
   have hb:=h.2 rfl;unfold GI.s;dsimp only at hb⊢;unfold Sm at hb;split<;>omega
 refine fR 0 ?_;refine fR 100 ?_;rw[e];refine Ah ?_;exact AL rfl AA.out
theorem nF (z:Int):Dv (!decide (z<0)) z.natAbs = -z:=by
 by_cases h:z<0
 ·rw[AX h];show((z.natAbs:Nat):Int) = -z;omega
 ·rw[Ac h];show -((z.natAbs:Nat):Int) = -z;omega
def GI.few (x:GI):Prop:=(Ad x.z.natAbs).length<1000000
theorem Om (x:GI)(h:x.wf)(hf:x.few):AI C0 199 [x.D] (AW (-x.z)).D:=by
 by_cases hs:x.sm=true/\x.z ≠ -9223372036854775808
 ·obtain⟨z,sm⟩:=x
  obtain⟨rfl,hz⟩:=hs;have h1:=h.1 rfl;dsimp only at h1 hz⊢;have hsm:Sm z:=⟨by omega,h1.2⟩
  have:=uZ z hsm
  rw[JY ⟨by have:=hsm.2;omega,by have:=hsm.1;omega⟩];exact this
 ·refine Ag.walk w1 UP rfl λF=>?_
  have cp:=JR x h;have cm:=LY (!decide (x.z<0)) x.z.natAbs (Fv hf (by decide));rw[nF]at cm;have hpr:AA (AW (-x.z)).w:=AJ;dsimp only[GI.D]at cp cm⊢;generalize(AW (-x.z)).s=rs at*;generalize(AW (-x.z)).w=rw at*;obtain⟨z,sm⟩:=x;unfold GI.s GI.w at*;cases sm with
  |true=>
   have hz:z = -9223372036854775808:=DT λh0=>hs ⟨rfl,h0⟩
   subst hz;dsimp only at cp cm⊢;refine fR 0 ?_;refine AC.seq ?_;refine sZ 100 ?_
   repeat'(first|(refine And.intro (by exact B8) ?_;refine Au ?_)|((refine Bw (λhb=>?_) (λhb=>?_))<;>(try simp only[Bi,Bu]at hb)<;>(try simp only[hb])<;>(refine Au ?_)))
   refine AM ?_;refine An ?_;refine fR 300 ?_;refine dI cp ?_;refine fR 400 ?_;refine dI cm ?_;refine Ah ?_;exact AL rfl AA.out
  |false=>
   have hne:=HZ (n:=z.natAbs) (by
    intro h0
    have:=h.2 rfl
    apply this;exact⟨by dsimp only;omega,by dsimp only;omega⟩)
   dsimp only at cp cm⊢;unfold wD wL at*;have hp:AA (.sl false 1 ((Ad z.natAbs).map AR)):=⟨KR _⟩
   generalize(Ad z.natAbs).map AR=l at*;generalize(if z<0 then(-1:Int)else 1)=sg at*;generalize decide (z<0)=nb at*;refine fR 0 ?_;refine AC.seq ?_;refine AC.seq ?_;refine Ao w1 100 (by kernel_rfl) ?_;refine AT (As (@ne_eq (List D)) hne ER) ?_;refine AD kT ?_;refine AD kT ?_;refine AM ?_;refine An ?_;refine fR 300 ?_;refine dI cp ?_;refine fR 400 ?_;refine dI cm ?_;refine Ah ?_;exact AL rfl AA.out
theorem yS (a b:Nat)(ha:(Ad a).length<1000000)(hb:(Ad b).length<1000000):AI C0 207 [wD a,wD b] (wD (a+b)):=by
 have:=nN (Ad a) (Ad b) (FC a) (FC b) (Fv ha (by decide)) (Fv hb (by decide))
 rwa [Er,Er]at this
theorem fQ (a b:Nat)(h:b<=a)(ha:(Ad a).length<1000000):AI C0 209 [wD a,wD b] (wD (a-b)):=by
 have:=oq (Ad a) (Ad b) (FC a) (FC b) (Fv ha (by decide)) (HV b a h) (by rw[Er,Er];exact h)
 rwa [Er,Er]at this
theorem xr (a b:Nat)(ha:(Ad a).length<1000000)(hb:(Ad b).length<1000000):AI C0 206 [wD a,wD b] (wD (a*b)):=by
 have:=oG (Ad a) (Ad b) (FC a) (FC b) ha hb
 rwa [Er,Er]at this
theorem Gw {n k:Nat}(h:n<BB^k):(Ad n).length<=k:=by
 induction k generalizing n with
 |zero=>
  have:n=0:=by simpa using h
  subst this;rw[Fi];exact Af _
 |succ k ih=>
  by_cases h0:n=0
  ·subst h0;rw[Fi];exact BS _
  ·rw[F8 h0,Bo]
   exact Nat.succ_le_succ (ih (E3 (by rw[BP,<-CK];exact h)))
theorem JQ (n:Nat):n<BB^(Ad n).length:=by
 have:=Hc (FC n)
 rwa [Er]at this
theorem XZ (a b:Nat):(Ad (a+b)).length<=max (Ad a).length (Ad b).length+1:=by
 refine Gw ?_;have h1:=JQ a;have h2:=JQ b;have m1:BB^(Ad a).length<=BB^max (Ad a).length (Ad b).length:=FM (by decide) (Nat.le_max_left _ _);have m2:BB^(Ad b).length<=BB^max (Ad a).length (Ad b).length:=FM (by decide) (Nat.le_max_right _ _);rw[CK];generalize BB^max (Ad a).length (Ad b).length=q at*;unfold BB;omega
theorem Xa (a b:Nat):(Ad (a-b)).length<=(Ad a).length:=HV _ _ (Nat.sub_le _ _)
def EA (x y:GI):GI:=if x.sm=true/\y.sm=true/\x.z+y.z = -9223372036854775808 then⟨x.z+y.z,true⟩else AW (x.z+y.z)
theorem Mm (x y:GI):(EA x y).z=x.z+y.z:=by unfold EA;split<;>rfl
theorem MZ (x y:GI):(EA x y).wf:=by
 unfold EA;split
 ·rename_i h
  refine⟨λ_=>?_,λh=>by cases h⟩;dsimp only;rw[h.2.2];decide
 ·exact Cf _
theorem jC (x y:GI)(hx:x.sm=true)(hy:y.sm=true)(h1 : -9223372036854775808<=x.z+y.z)(h2:x.z+y.z<9223372036854775808):AI C0 153 [x.D,y.D] (EA x y).D:=by
 obtain⟨a,sa⟩:=x;obtain⟨b,sb⟩:=y;dsimp only at hx hy h1 h2;subst hx;subst hy;have e:(EA ⟨a,true⟩ ⟨b,true⟩).D=Cx (a+b):=by
  unfold EA;dsimp only;split
  ·rfl
  ·rename_i h
   have h3:¬a+b = -9223372036854775808:=λh0=>h ⟨rfl,rfl,h0⟩
   rw[JY ⟨by omega,h2⟩];rfl
 rw[e];show AI C0 _ [Cx a,Cx b] _;refine Ag.walk w1 UN rfl λF=>?_
 refine fR 0 ?_;refine AC.seq ?_;refine sZ 100 ?_
 repeat'(first|(refine And.intro (by exact B8) ?_;refine Au ?_)|((refine Bw (λhb=>?_) (λhb=>?_))<;>(try simp only[Bi,Bu]at hb)<;>(try simp only[hb])<;>(refine Au ?_)))
 refine AM ?_;have e1:IntKind.i64.wrap (a+b)=a+b:=wI (by omega) (by omega);have e2:(decide (a+b>a)==decide (b>0))=true:=by
  rw[EB,C4];omega
 refine sZ 200 ?_;refine J7 e1 ?_;refine fR 300 ?_;rw[e2];refine AM ?_;refine fR 400 ?_;refine Ah ?_;exact AL rfl AA.out
theorem nM (x y:GI)(hx:x.wf)(hy:y.wf)(fx:x.few)(fy:y.few)(hn:¬(x.sm=true/\y.sm=true∧-9223372036854775808<=x.z+y.z/\x.z+y.z<9223372036854775808)):AI C0 153 [x.D,y.D] (AW (x.z+y.z)).D:=by
 refine Ag.walk w1 UN rfl λF=>?_
 have cx:=JR x hx;have cy:=JR y hy;have hpr:AA (AW (x.z+y.z)).w:=AJ;have hpx:AA x.w:=AJ;have hpy:AA y.w:=AJ;have la:=XZ x.z.natAbs y.z.natAbs;have ls:=Xa x.z.natAbs y.z.natAbs;have ls':=Xa y.z.natAbs x.z.natAbs;unfold GI.few at fx fy;dsimp only[GI.D]at*;refine fR 0 ?_;refine EU ⟨[(2,.optr 0 0 2 0 0),(3,.optr 1 1 2 0 0),(4,.optr 2 2 2 0 0)],[⟨2,2,120,2,[Cx 0]⟩,⟨1,1,120,2,[.agg [i64 y.s,y.w]]⟩,⟨0,0,120,2,[.agg [i64 x.s,x.w]]⟩],60⟩ ?_ ?_
 ·obtain⟨a,sa⟩:=x
  obtain⟨b,sb⟩:=y;clear cx cy la ls ls' hpr;have nx:sa=false->(Ad a.natAbs).map AR≠[]:=λh=>HZ (by
   intro h0;subst h;exact hx.2 rfl ⟨by dsimp only;omega,by dsimp only;omega⟩)
  have ny:sb=false->(Ad b.natAbs).map AR≠[]:=λh=>HZ (by
   intro h0;subst h;exact hy.2 rfl ⟨by dsimp only;omega,by dsimp only;omega⟩)
  unfold GI.s GI.w wD wL at*;dsimp only at*;generalize(Ad a.natAbs).map AR=ka at*;generalize(Ad b.natAbs).map AR=kb at*;cases sa with
  |false=>
   have nx:=nx rfl;dsimp only at*;generalize(if a<0 then(-1:Int)else 1)=sg at*;generalize(match sb with|true=>b|false=>if b<0 then(-1:Int)else 1)=sh at*;generalize(match sb with|true=>CM|false=>D.sl false 1 kb)=wy at*;refine AC.seq ?_;refine Ao w1 100 (by kernel_rfl) ?_;refine AT (As (@ne_eq (List D)) nx ER) ?_;refine AD kT ?_;refine AD kT ?_;refine AM ?_;refine An ?_;exact And.intro (by trivial) (AK)
  |true=>
   dsimp only at*;cases sb with
   |false=>
    have ny:=ny rfl;dsimp only at*;generalize(if b<0 then(-1:Int)else 1)=sh at*;refine AC.seq ?_;refine Ao w1 100 (by kernel_rfl) ?_;refine AT (As (@ne_eq (List D)) ny ER) ?_;refine AD (BW kT (@ne_eq (List D)) ny ER) ?_;refine AD (BW kT (@ne_eq (List D)) ny ER) ?_;refine AM ?_;refine An ?_;exact And.intro (by trivial) (AK)
   |true=>
    have ra:=hx.1 rfl;have rb:=hy.1 rfl;dsimp only at*;have e2:(decide (IntKind.i64.wrap (a+b)>a)==decide (b>0))=false:=by
     have hov:¬(-9223372036854775808<=a+b/\a+b<9223372036854775808):=λh=>hn ⟨rfl,rfl,h.1,h.2⟩
     have ew:IntKind.i64.wrap (a+b)=a+b-18446744073709551616/\9223372036854775808<=a+b\/IntKind.i64.wrap (a+b)=a+b+18446744073709551616/\a+b < -9223372036854775808:=by
      have e1:(2:Int)^IntKind.i64.bits=18446744073709551616:=rfl;have e2:(2:Int)^(IntKind.i64.bits-1)=9223372036854775808:=rfl;have e3:IntKind.i64.signed=true:=rfl;unfold IntKind.wrap;simp only[e1,e2,e3,GY,GX];split<;>omega
     rw[Bs,ne_eq,C4];omega
    refine sZ 100 ?_
    repeat'(first|(refine And.intro (by exact B8) ?_;refine Au ?_)|((refine Bw (λhb=>?_) (λhb=>?_))<;>(try simp only[Bi,Bu]at hb)<;>(try simp only[hb])<;>(refine Au ?_)))
    refine AM ?_;refine fR 200 ?_;refine fR 300 ?_;rw[e2];refine AM ?_;refine An ?_;exact And.intro (by trivial) (AK)
 ·refine fR 500 ?_
  refine dI cx ?_;refine fR 600 ?_;refine dI cy ?_;refine AC.seq ?_;refine AC.block ?_;refine fR 700 ?_
  by_cases hs:(decide (x.z<0))=(decide (y.z<0))
  ·have e1:(decide (x.z<0)==decide (y.z<0))=true:=EB.2 hs
   rw[e1];have ca:=yS x.z.natAbs y.z.natAbs fx fy;have cm:=LY (decide (x.z<0)) (x.z.natAbs+y.z.natAbs) (by omega);have ez:Dv (decide (x.z<0)) (x.z.natAbs+y.z.natAbs)=x.z+y.z:=by
    rw[C4]at hs
    by_cases h:x.z<0
    ·rw[AX h];have:=hs.1 h;show -(((x.z.natAbs+y.z.natAbs:Nat)):Int)=_;omega
    ·rw[Ac h];have:¬y.z<0:=λh0=>h (hs.2 h0);show(((x.z.natAbs+y.z.natAbs:Nat)):Int)=_;omega
   rw[ez]at cm;dsimp only[GI.D]at cm;refine AM ?_;refine fR 800 ?_;refine dI ca ?_;refine dI cm ?_;refine Ah ?_;exact AL rfl AA.out
  ·have e1:(decide (x.z<0)==decide (y.z<0))=false:=Bs.2 hs
   rw[e1];have cc:=Qc x.z.natAbs y.z.natAbs (by omega) (by omega);refine AM ?_;refine fR 900 ?_;refine dI cc ?_
   by_cases hc:y.z.natAbs<=x.z.natAbs
   ·have e2:decide (Dx (x.z.natAbs:Nat) (y.z.natAbs:Nat)>=0)=true:=AX (by unfold Dx;split<;>(try split)<;>omega)
    rw[e2];have ca:=fQ x.z.natAbs y.z.natAbs hc fx;have cm:=LY (decide (x.z<0)) (x.z.natAbs-y.z.natAbs) (by omega);have ez:Dv (decide (x.z<0)) (x.z.natAbs-y.z.natAbs)=x.z+y.z:=by
     rw[C4]at hs
     by_cases h:x.z<0
     ·rw[AX h];have:¬y.z<0:=λh0=>hs ⟨λ_=>h0,λ_=>h⟩;show -(((x.z.natAbs-y.z.natAbs:Nat)):Int)=_;omega
     ·rw[Ac h];have:y.z<0:=DT λh0=>hs ⟨λh1=>Ae h1 h,λh1=>Ae h1 h0⟩;show(((x.z.natAbs-y.z.natAbs:Nat)):Int)=_;omega
    rw[ez]at cm;dsimp only[GI.D]at cm;refine AM ?_;refine fR 1000 ?_;refine dI ca ?_;refine dI cm ?_;refine Ah ?_;exact AL rfl AA.out
   ·have e2:decide (Dx (x.z.natAbs:Nat) (y.z.natAbs:Nat)>=0)=false:=Ac (by unfold Dx;split<;>(try split)<;>omega)
    rw[e2];have ca:=fQ y.z.natAbs x.z.natAbs (by omega) fy;have cm:=LY (decide (y.z<0)) (y.z.natAbs-x.z.natAbs) (by omega);have ez:Dv (decide (y.z<0)) (y.z.natAbs-x.z.natAbs)=x.z+y.z:=by
     rw[C4]at hs
     by_cases h:y.z<0
     ·rw[AX h];have:¬x.z<0:=λh0=>hs ⟨λ_=>h,λ_=>h0⟩;show -(((y.z.natAbs-x.z.natAbs:Nat)):Int)=_;omega
     ·rw[Ac h];have:x.z<0:=DT λh0=>hs ⟨λh1=>Ae h1 h0,λh1=>Ae h1 h⟩;show(((y.z.natAbs-x.z.natAbs:Nat)):Int)=_;omega
    rw[ez]at cm;dsimp only[GI.D]at cm;refine AM ?_;refine An ?_;refine fR 1100 ?_;refine dI ca ?_;refine dI cm ?_;refine Ah ?_;exact AL rfl AA.out
theorem Oj (x y:GI)(hx:x.wf)(hy:y.wf)(fx:x.few)(fy:y.few):AI C0 153 [x.D,y.D] (EA x y).D:=by
 by_cases h:x.sm=true/\y.sm=true∧-9223372036854775808<=x.z+y.z/\x.z+y.z<9223372036854775808
 ·exact jC x y h.1 h.2.1 h.2.2.1 h.2.2.2
 ·have:=nM x y hx hy fx fy h
  have e:EA x y=AW (x.z+y.z):=by
   unfold EA;rw[AF];rintro⟨h1,h2,h3⟩;exact h ⟨h1,h2,by omega,by omega⟩
  rw[e];exact this
theorem Yp {z:Int}(h:(Ad z.natAbs).length<1000000):(AW (-z)).few:=by
 show(Ad (-z).natAbs).length<1000000;rw[MB];exact h
def IS (x y:GI):GI:=EA x (AW (-y.z))
theorem cJ (x y:GI):(IS x y).z=x.z-y.z:=by unfold IS;rw[Mm];show x.z + -y.z=_;omega
theorem ZV (x y:GI):(IS x y).wf:=MZ _ _
theorem eK (x y:GI)(hx:x.wf)(hy:y.wf)(fx:x.few)(fy:y.few):AI C0 284 [x.D,y.D] (IS x y).D:=by
 refine Ag.walk w1 bo rfl λF=>?_
 have c1:=Om y hy fy;have c2:=Oj x (AW (-y.z)) hx (Cf _) fx (Yp fy);unfold IS;refine fR 0 ?_;refine AC.seq ?_;refine B5 w1 100 [0,1,2] [3,4] (by kernel_rfl) ?_;refine B7 ?_;refine BX.same _ (c1) AJ ?_;refine B7 ?_;refine dI c2 ?_;refine Ah ?_;exact AL rfl AA.out
theorem vV (x y:GI)(hx:x.wf)(hy:y.wf)(fx:x.few)(fy:y.few):AI C0 273 [x.D,y.D] (i64 (Dx x.z y.z)):=by
 by_cases h:x.sm=true/\y.sm=true
 ·obtain⟨a,sa⟩:=x
  obtain⟨b,sb⟩:=y;obtain⟨h1,h2⟩:=h;dsimp only at h1 h2;subst h1;subst h2;exact nk a b
 ·have cs:=eK x y hx hy fx fy
  have cg:=M1 (IS x y) (ZV x y);rw[cJ]at cg;have e:max (-1) (min 1 (x.z-y.z))=Dx x.z y.z:=by unfold Dx;split<;>(try split)<;>omega
  rw[e]at cg;have hpr:AA (IS x y).w:=AJ;have hpx:AA x.w:=AJ;have hpy:AA y.w:=AJ;dsimp only[GI.D]at*;generalize(IS x y).s=rs at*;generalize(IS x y).w=rw at*;generalize Dx x.z y.z=r at*;refine Ag.walk w1 UR rfl λF=>?_
  obtain⟨a,sa⟩:=x;obtain⟨b,sb⟩:=y;have nx:sa=false->(Ad a.natAbs).map AR≠[]:=λh=>HZ (by
   intro h0;subst h;exact hx.2 rfl ⟨by dsimp only;omega,by dsimp only;omega⟩)
  have ny:sb=false->(Ad b.natAbs).map AR≠[]:=λh=>HZ (by
   intro h0;subst h;exact hy.2 rfl ⟨by dsimp only;omega,by dsimp only;omega⟩)
  unfold GI.s GI.w wD wL at*;dsimp only at*;generalize(Ad a.natAbs).map AR=ka at*;generalize(Ad b.natAbs).map AR=kb at*;cases sa with
  |false=>
   have nx:=nx rfl;dsimp only at*;generalize(if a<0 then(-1:Int)else 1)=sg at*;generalize(match sb with|true=>b|false=>if b<0 then(-1:Int)else 1)=sh at*;generalize(match sb with|true=>CM|false=>D.sl false 1 kb)=wy at*;refine fR 0 ?_;refine AC.seq ?_;refine AC.seq ?_;refine Ao w1 100 (by kernel_rfl) ?_;refine AT (As (@ne_eq (List D)) nx ER) ?_;refine AD kT ?_;refine AD kT ?_;refine AM ?_;refine An ?_;refine fR 700 ?_;refine dI cs ?_;refine dI cg ?_;refine Ah ?_;exact AL rfl AA.out
  |true=>
   dsimp only at*;cases sb with
   |false=>
    have ny:=ny rfl;dsimp only at*;generalize(if b<0 then(-1:Int)else 1)=sh at*;refine fR 0 ?_;refine AC.seq ?_;refine AC.seq ?_;refine Ao w1 100 (by kernel_rfl) ?_;refine AT (As (@ne_eq (List D)) ny ER) ?_;refine AD (BW kT (@ne_eq (List D)) ny ER) ?_;refine AD (BW kT (@ne_eq (List D)) ny ER) ?_;refine AM ?_;refine An ?_;refine fR 700 ?_;refine dI cs ?_;refine dI cg ?_;refine Ah ?_;exact AL rfl AA.out
   |true=>exact Ae ⟨rfl,rfl⟩ h
theorem LE (a b:Nat):(Ad (a*b)).length<=(Ad a).length+(Ad b).length:=by
 refine Gw ?_;rw[Fw];exact Nat.mul_lt_mul'' (JQ a) (JQ b)
theorem nE (a b:Int):Dv (decide (a<0) != decide (b<0)) (a.natAbs*b.natAbs)=a*b:=by
 rw[<-NS]
 by_cases h1:a<0<;>by_cases h2:b<0
 ·rw[AX h1,AX h2]
  have:0<=a*b:=Int.mul_nonneg_of_nonpos_of_nonpos (by omega) (by omega)
  show(((a*b).natAbs:Nat):Int)=a*b;omega
 ·rw[AX h1,Ac h2]
  have:a*b<=0:=Int.mul_nonpos_of_nonpos_of_nonneg (by omega) (by omega)
  show -(((a*b).natAbs:Nat):Int)=a*b;omega
 ·rw[Ac h1,AX h2]
  have:a*b<=0:=Int.mul_nonpos_of_nonneg_of_nonpos (by omega) (by omega)
  show -(((a*b).natAbs:Nat):Int)=a*b;omega
 ·rw[Ac h1,Ac h2]
  have:0<=a*b:=Int.mul_nonneg (by omega) (by omega)
  show(((a*b).natAbs:Nat):Int)=a*b;omega
theorem oF (x y:GI)(hx:x.wf)(hy:y.wf)(fx:(Ad x.z.natAbs).length<400000)(fy:(Ad y.z.natAbs).length<400000)(hn:¬(x.sm=true/\y.sm=true/\(x.z*y.z).natAbs<=9223372036854775807)):AI C0 152 [x.D,y.D] (AW (x.z*y.z)).D:=by
 refine Ag.walk w1 UM rfl λF=>?_
 have cx:=JR x hx;have cy:=JR y hy;have hpr:AA (AW (x.z*y.z)).w:=AJ;have hpx:AA x.w:=AJ;have hpy:AA y.w:=AJ;have lm:=LE x.z.natAbs y.z.natAbs;have ca:=xr x.z.natAbs y.z.natAbs (by omega) (by omega);have cm:=LY (decide (x.z<0) != decide (y.z<0)) (x.z.natAbs*y.z.natAbs) (by omega);rw[nE]at cm;dsimp only[GI.D]at*;refine fR 0 ?_;refine EU ⟨[(2,.optr 0 0 2 0 0),(3,.optr 1 1 2 0 0),(4,.optr 2 2 2 0 0)],[⟨2,2,120,2,[Cx 0]⟩,⟨1,1,120,2,[.agg [i64 y.s,y.w]]⟩,⟨0,0,120,2,[.agg [i64 x.s,x.w]]⟩],90⟩ ?_ ?_
 ·obtain⟨a,sa⟩:=x
  obtain⟨b,sb⟩:=y;clear cx cy lm ca cm hpr;have nx:sa=false->(Ad a.natAbs).map AR≠[]:=λh=>HZ (by
   intro h0;subst h;exact hx.2 rfl ⟨by dsimp only;omega,by dsimp only;omega⟩)
  have ny:sb=false->(Ad b.natAbs).map AR≠[]:=λh=>HZ (by
   intro h0;subst h;exact hy.2 rfl ⟨by dsimp only;omega,by dsimp only;omega⟩)
  unfold GI.s GI.w wD wL at*;dsimp only at*;generalize(Ad a.natAbs).map AR=ka at*;generalize(Ad b.natAbs).map AR=kb at*;cases sa with
  |false=>
   have nx:=nx rfl;dsimp only at*;generalize(if a<0 then(-1:Int)else 1)=sg at*;generalize(match sb with|true=>b|false=>if b<0 then(-1:Int)else 1)=sh at*;generalize(match sb with|true=>CM|false=>D.sl false 1 kb)=wy at*;refine AC.seq ?_;refine Ao w1 100 (by kernel_rfl) ?_;refine AT (As (@ne_eq (List D)) nx ER) ?_;refine AD kT ?_;refine AD kT ?_;refine AM ?_;refine An ?_;exact And.intro (by trivial) (AK)
  |true=>
   dsimp only at*;cases sb with
   |false=>
    have ny:=ny rfl;dsimp only at*;generalize(if b<0 then(-1:Int)else 1)=sh at*;refine AC.seq ?_;refine Ao w1 100 (by kernel_rfl) ?_;refine AT (As (@ne_eq (List D)) ny ER) ?_;refine AD (BW kT (@ne_eq (List D)) ny ER) ?_;refine AD (BW kT (@ne_eq (List D)) ny ER) ?_;refine AM ?_;refine An ?_;exact And.intro (by trivial) (AK)
   |true=>
    have ra:=hx.1 rfl;have rb:=hy.1 rfl;dsimp only at*;have sa:=Ob ra.1 ra.2;have sb:=Ob rb.1 rb.2;have la:a.natAbs<BB:=by unfold BB;omega
    have lb:b.natAbs<BB:=by unfold BB;omega
    have c0:=OF a.natAbs b.natAbs la lb;have hab:a.natAbs*b.natAbs=(a*b).natAbs:=(NS a b).symm;have hbig:9223372036854775807<(a*b).natAbs:=DT λh=>hn ⟨rfl,rfl,by omega⟩
    rw[hab]at c0;generalize(a*b).natAbs=p at*;refine sZ 100 ?_
    repeat'(first|(refine And.intro (by exact B8) ?_;refine Au ?_)|((refine Bw (λhb=>?_) (λhb=>?_))<;>(try simp only[Bi,Bu]at hb)<;>(try simp only[hb])<;>(refine Au ?_)))
    refine AM ?_;refine AC.seq ?_;refine B5 w1 200 [0,1,2,3,4,5,6,7,8,9,10] [11] (by kernel_rfl) ?_;refine B7 ?_;refine BX.same _ (sa) AJ ?_;refine B7 ?_;refine BX.same _ (sb) AJ ?_;refine B7 ?_;refine BX.same _ (c0) AJ ?_;refine B7 ?_;refine AC.seq ?_
    by_cases h0:p/18446744073709551616=0
    ·rw[h0]
     have h1:p%18446744073709551616=p:=by omega
     rw[h1];have e3:decide ((p:Int)<=9223372036854775807)=false:=Ac (by omega);refine Ao w1 300 (by kernel_rfl) ?_
     repeat'(first|(refine And.intro (by exact B8) ?_;refine Au ?_)|((refine Bw (λhb=>?_) (λhb=>?_))<;>(try simp only[Bi,Bu]at hb)<;>(try simp only[hb])<;>(refine Au ?_)))
     rw[e3];refine AM ?_;refine An ?_;exact And.intro (by trivial) (AK)
    ·have e3:(((p/18446744073709551616:Nat):Int)==0)=false:=Bs.2 (by omega)
     refine Ao w1 300 (by kernel_rfl) ?_;refine AT e3 ?_;refine AD e3 ?_;refine AD e3 ?_;refine AM ?_;refine An ?_;exact And.intro (by trivial) (AK)
 ·refine fR 700 ?_
  refine dI cx ?_;refine fR 800 ?_;refine dI cy ?_;refine fR 900 ?_;refine dI ca ?_;refine dI cm ?_;refine Ah ?_;exact AL rfl AA.out
theorem jq (a b:Int)(hc:Sm (a*b))(ha : -9223372036854775808<=a/\a<9223372036854775808)(hb : -9223372036854775808<=b/\b<9223372036854775808):AI C0 152 [Cx a,Cx b] (Cx (a*b)):=by
 refine Ag.walk w1 UM rfl λF=>?_
 have hab:a.natAbs*b.natAbs=(a*b).natAbs:=(NS a b).symm;have h1:a.natAbs*b.natAbs/18446744073709551616=0:=by rw[hab];have:=hc.1;have:=hc.2;omega
 have h2:a.natAbs*b.natAbs%18446744073709551616=(a*b).natAbs:=by rw[hab];have:=hc.1;have:=hc.2;omega
 have c0:=OF a.natAbs b.natAbs (by omega) (by omega);rw[h1,h2]at c0;refine fR 0 ?_;refine AC.seq ?_;refine sZ 100 ?_
 repeat'(first|(refine And.intro (by exact B8) ?_;refine Au ?_)|((refine Bw (λhb=>?_) (λhb=>?_))<;>(try simp only[Bi,Bu]at hb)<;>(try simp only[hb])<;>(refine Au ?_)))
 refine AM ?_;refine AC.seq ?_;refine B5 w1 200 [0,1,2,3,4,5,6,7,8,9,10] [11] (by kernel_rfl) ?_;refine B7 ?_;refine BX.same _ (Ob ha.1 ha.2) AJ ?_;refine B7 ?_;refine BX.same _ (Ob hb.1 hb.2) AJ ?_;refine B7 ?_;refine BX.same _ (c0) AJ ?_;refine B7 ?_;refine sZ 300 ?_
 repeat'(first|(refine And.intro (by exact B8) ?_;refine Au ?_)|((refine Bw (λhb=>?_) (λhb=>?_))<;>(try simp only[Bi,Bu]at hb)<;>(try simp only[hb])<;>(refine Au ?_)))
 have e3:decide ((((a*b).natAbs:Nat):Int)<=9223372036854775807)=true:=AX (by have:=hc.1;have:=hc.2;omega);rw[e3];refine AM ?_;refine AC.seq ?_;refine fR 400 ?_;refine AM ?_;have e4:IntKind.i64.wrap (((a*b).natAbs:Nat):Int)=((a*b).natAbs:Nat):=wN (by have:=hc.1;have:=hc.2;omega)
 (refine Bw (λh41=>?_) (λh41=>?_))<;>(try simp only[Bi,Bu]at h41)<;>(try simp only[h41])
 ·have e5:IntKind.i64.wrap (0-(((a*b).natAbs:Nat):Int)) = -((a*b).natAbs:Nat):=by
   rw[wI (by have:=hc.1;have:=hc.2;omega) (by have:=hc.1;have:=hc.2;omega)];omega
  have e6 : -(((a*b).natAbs:Nat):Int)=a*b:=by
   have hs:(a<0)≠(b<0):=by simpa using h41
   have:a*b<=0:=by
    by_cases h1:a<0
    ·have h2:¬b<0:=λh2=>hs (by simp[h1,h2])
     exact Int.mul_nonpos_of_nonpos_of_nonneg (by omega) (by omega)
    ·have h2:b<0:=DT λh2=>hs (by simp[h1,h2])
     exact Int.mul_nonpos_of_nonneg_of_nonpos (by omega) (by omega)
   omega
  refine sZ 500 ?_;refine J7 (As e4 e5 e6) ?_;refine Ah ?_;exact AL rfl AA.out
 ·have e6:(((a*b).natAbs:Nat):Int)=a*b:=by
   have hs:¬((a<0)≠(b<0)):=by simpa using h41
   have:0<=a*b:=by
    by_cases h1:a<0
    ·have h2:b<0:=DT λh2=>hs (by simp[h1,h2])
     exact Int.mul_nonneg_of_nonpos_of_nonpos (by omega) (by omega)
    ·have h2:¬b<0:=λh2=>hs (by simp[h1,h2])
     exact Int.mul_nonneg (by omega) (by omega)
   omega
  rw[e6]at e4;refine An ?_;refine sZ 600 ?_;refine J7 (Aj e6 e4) ?_;refine Ah ?_;exact AL rfl AA.out
theorem dV (x y:GI)(hx:x.wf)(hy:y.wf)(fx:(Ad x.z.natAbs).length<400000)(fy:(Ad y.z.natAbs).length<400000):AI C0 152 [x.D,y.D] (AW (x.z*y.z)).D:=by
 by_cases h:x.sm=true/\y.sm=true/\(x.z*y.z).natAbs<=9223372036854775807
 ·obtain⟨a,sa⟩:=x
  obtain⟨b,sb⟩:=y;obtain⟨h1,h2,h3⟩:=h;dsimp only at h1 h2 h3;subst h1;subst h2;have hs:Sm (a*b):=⟨by omega,by omega⟩
  dsimp only;rw[JY hs];exact jq a b hs (hx.1 rfl) (hy.1 rfl)
 ·exact oF x y hx hy fx fy h
def Lx (x:GI):GI:=if x.z<0 then AW (-x.z)else x
theorem qA (x:GI):(Lx x).z=(x.z.natAbs:Nat):=by
 unfold Lx;split
 ·show -x.z=_;omega
 ·omega
theorem nK (x:GI)(h:x.wf):(Lx x).wf:=by
 unfold Lx;split
 ·exact Cf _
 ·exact h
theorem dA (x:GI)(h:x.wf)(hf:x.few):AI C0 250 [x.D] (Lx x).D:=by
 refine Ag.walk w1 bj rfl λF=>?_
 have hs:=bv x h;have cn:=Om x h hf;have hpx:AA x.w:=AJ;have hpr:AA (AW (-x.z)).w:=AJ;unfold Lx
 by_cases hz:x.z<0
 ·have e:decide (x.s<0)=true:=AX (by rw[hs];exact hz)
  rw[AG hz];dsimp only[GI.D]at*;refine fR 0 ?_;refine AC.seq ?_;refine fR 100 ?_;rw[e];refine AM ?_;refine fR 200 ?_;refine dI cn ?_;refine Ah ?_;exact AL rfl AA.out
 ·have e:decide (x.s<0)=false:=Ac (by rw[hs];exact hz)
  rw[AF hz];dsimp only[GI.D]at*;refine fR 0 ?_;refine AC.seq ?_;refine fR 100 ?_;rw[e];refine AM ?_;refine An ?_;refine fR 300 ?_;refine Ah ?_;exact AL rfl AA.out
structure LM (B Y u1 u0:Nat)(q r:Nat):Prop where
 eq:q*(Y/B)+r=u1
 up:u1*B+u0<(q+1)*Y
 q2:q<=B+1
theorem Wi {B Y u1 u0:Nat}(hB:0<B)(hY:B*B<=2*Y)(hY2:Y<B*B)(hev:B%2=0)(hu:u1<Y)(h0:u0<B):
  LM B Y u1 u0 (u1/(Y/B)) (u1-u1/(Y/B)*(Y/B))/\u1-u1/(Y/B)*(Y/B)<B:=by
 have e:=EW Y B;have m:=B1 Y hB;generalize hg:Y/B=y1 at*;generalize Y%B=y0 at*;have hy1:y1<B:=by
  rcases BG y1 B with h|h
  ·exact h
  ·have:=CY B h
   omega
 have hy2:B<=2*y1:=by
  rcases BG (2*y1) B with h|h
  ·exfalso
   have h1:2*y1+2<=B:=by omega
   have h2:=CY B h1;have h3:B*(2*y1+2)=2*(B*y1)+2*B:=by
    rw[BL,IY,BP B 2]
   omega
  ·exact h
 have e1:=EW u1 y1;have m1:=B1 u1 (show 0<y1 by omega);have c1:y1*(u1/y1)=u1/y1*y1:=BP _ _;refine⟨⟨by rw[hg];omega,?_,?_⟩,by omega⟩
 ·generalize hq:u1/y1=q at*
  have h1:u1+1<=(q+1)*y1:=by rw[Bv];omega
  have h2:=CI B h1;have h3:(q+1)*Y=(q+1)*y1*B+(q+1)*y0:=by
   rw[<-e,BL,BP B y1,Bx]
  rw[Bv]at h2;omega
 ·rcases BG (B+1) (u1/y1)with h|h
  ·exfalso
   have h1:=CY y1 (show B+2<=u1/y1 by omega);have h2:y1*(B+2)=B*y1+2*y1:=by rw[BL,BP y1 B,BP y1 2]
   omega
  ·exact h
theorem W2 {B Y u1 u0 q r:Nat}(hB:0<B)(hu:u1<Y)(h0:u0<B)(I:LM B Y u1 u0 q r)
  (c:B<=q\/B*r+u0<q*(Y%B)):0<q/\LM B Y u1 u0 (q-1) (r+Y/B):=by
 have e:=EW Y B;obtain⟨i1,i2,i3⟩:=I;generalize hg:Y/B=y1 at*;generalize Y%B=y0 at*;have hq:0<q:=by
  rcases c with c|c
  ·omega
  ·rcases Dk q with h|h
   ·subst h;omega
   ·exact h
 obtain⟨p,rfl⟩:∃p,q=p+1:=⟨q-1,by omega⟩
 refine⟨hq,⟨?_,?_,?_⟩⟩
 ·rw[IW,hg,BP p];rw[Bv,BP p]at i1;omega
 ·rw[IW]
  rcases c with c|c
  ·have h1:=CI Y c
   have h2:(u1+1)*B<=Y*B:=CI B hu;rw[Bv]at h2;rw[BP Y B]at h2;omega
  ·have h3:(p+1)*Y=(p+1)*y1*B+(p+1)*y0:=by
    rw[<-e,BL,BP B y1,Bx]
   have h4:u1*B=(p+1)*y1*B+r*B:=by rw[<-i1,Bv]
   rw[BP r B]at h4;omega
 ·omega
theorem S9 {B Y u1 u0 q r:Nat}(I:LM B Y u1 u0 q r)
  (c:q*(Y%B)<=B*r+u0):q=(u1*B+u0)/Y:=by
 have e:=EW Y B;obtain⟨i1,i2,i3⟩:=I;have h3:q*Y=q*(Y/B)*B+q*(Y%B):=by
  conv=>lhs;rw[<-e]
  rw[BL,BP B (Y/B),Bx]
 have h4:u1*B=q*(Y/B)*B+r*B:=by rw[<-i1,Bv]
 rw[BP r B]at h4;have h5:0<Y:=by
  rcases Dk Y with h|h
  ·subst h;omega
  ·exact h
 symm
 apply Nat.div_eq_of_lt_le
 ·omega
 ·exact i2
theorem Wh {B Y u1 u0 q r:Nat}(hB:0<B)(I:LM B Y u1 u0 q r)(hq:q<=B)(hr:B<=r):
  q=(u1*B+u0)/Y:=by
 refine S9 I ?_;have m:=B1 Y hB;have h1:q*(Y%B)<=B*B:=Ig hq (by omega);have h2:=CY B hr;omega
theorem jS {B N S y u32 u1 u0 v:Nat}(hS:0<S)(hy:0<y)(hN:N*S=u32*(B*B)+(u1*B+u0))(hv:v=(u32*B+u1)%(y*S)):
  (u32*B+u1)/(y*S)*B+(v*B+u0)/(y*S)=N/y/\(v*B+u0)%(y*S)/S=N%y:=by
 have hY0:0<y*S:=HS hy hS;have e1:=EW (u32*B+u1) (y*S);have e2:=EW (v*B+u0) (y*S);have m2:=B1 (v*B+u0) hY0;rw[<-hv]at e1;have dY:N*S/(y*S)=N/y:=PU _ _ hS;have mY:N*S%(y*S)=N%y*S:=PV _ _ _;generalize(u32*B+u1)/(y*S)=q1 at*;generalize(v*B+u0)/(y*S)=q0 at*;generalize(v*B+u0)%(y*S)=r at*;generalize y*S=Y at*;have hT:N*S=r+Y*(q1*B+q0):=by
  have c1:u32*(B*B)+u1*B=Y*q1*B+v*B:=by
   rw[<-Bx,<-Bv,<-e1,Bv]
  rw[hN,BL,<-Bx Y q1 B];omega
 refine⟨?_,?_⟩
 ·rw[<-dY,hT,SG _ _ hY0,HL m2,BU]
 ·rw[hT,SL,Dd m2]at mY
  rw[mY,Nat.mul_div_cancel _ hS]
theorem lx {hi lo y s:Nat}(hs:s<=63)(h1:hi<y)(hlo:lo<18446744073709551616):
  lo/2^(64-s)<2^s/\hi*2^s+lo/2^(64-s)<y*2^s /\
   (hi*18446744073709551616+lo)*2^s=(hi*2^s+lo/2^(64-s))*18446744073709551616+lo*2^s%18446744073709551616:=by
 have hp:0<2^s:=Gs s;have hpp:2^(64-s)*2^s=18446744073709551616:=by
  rw[<-Fw,show 64-s+s=64 by omega]
 have hl:lo*2^s/18446744073709551616=lo/2^(64-s):=by
  rw[<-hpp,PU _ _ hp]
 have hl2:lo/2^(64-s)<2^s:=E3 (by rw[hpp];exact hlo);refine⟨hl2,?_,?_⟩
 ·have:(hi+1)*2^s<=y*2^s:=CI _ h1
  rw[Bv]at this;omega
 ·have e:=EW (lo*2^s) 18446744073709551616
  rw[hl]at e;rw[Bv,Bv,Nat.mul_right_comm];omega
theorem Uc {a b s:Nat}(h:b<2^s):(a*2^s) ||| b=a*2^s+b:=by
 rw[BP,Nat.two_pow_add_eq_or_of_lt h]
theorem dT (x:Nat)(hx:x<BB):AI C0 227 [AR x] (i64 (64-(Lib.bitLen x:Int))):=by
 refine⟨⟨_,_,Tryz.func227,rfl,by kernel_rfl⟩,λY w vs hG hnG hX hvs hr=>?_⟩
 have:=QV hvs hr
 subst this;refine(Tryz.bits_LeadingZeros64 x w (by omega) (by unfold BB at hx;omega)).mono ?_;rintro e w' ⟨rfl,rfl⟩;exact⟨_,_,rfl,.refl _ _,rfl,.prim _⟩
theorem WT {x:Nat}(h0:x≠0)(hx:x<BB):∃s,s<=63/\(64-(Lib.bitLen x:Int))=(s:Nat)/\9223372036854775808<=x*2^s/\x*2^s<18446744073709551616:=by
 obtain⟨h1,h2,h3⟩:=Lib.bitLenAux_bounds 64 x hx h0;have h4:=Lib.bitLen_le x 64 (Af _) hx;have h5:Lib.bitLenAux 64 x=Lib.bitLen x:=rfl;rw[h5]at h1 h2 h3;refine⟨64-Lib.bitLen x,by omega,by omega,?_,?_⟩
 ·have:=CI (2^(64-Lib.bitLen x)) h2
  rw[<-Fw,show Lib.bitLen x-1+(64-Lib.bitLen x)=63 by omega]at this;exact this
 ·have:=(Nat.mul_lt_mul_right (Gs (64-Lib.bitLen x))).2 h3
  rw[<-Fw,show Lib.bitLen x+(64-Lib.bitLen x)=64 by omega]at this;exact this
theorem Il (n:Nat):IntKind.u64.wrap (n:Int)=((n%18446744073709551616:Nat):Int):=by
 have e1:(2:Int)^IntKind.u64.bits=18446744073709551616:=rfl;unfold IntKind.wrap;simp only[e1];have e3:IntKind.u64.signed=false:=rfl;rw[e3];simp only[HR,Hx,if_false];omega
theorem Ox (x s:Nat)(hs:s<=63):Ku .u64 (x:Int) (s:Int)=((x*2^s%18446744073709551616:Nat):Int):=by
 have hm:min ((s:Int)).toNat (IntKind.bits .u64)=s:=by
  have:IntKind.bits .u64=64:=rfl
  rw[this];omega
 unfold Ku;rw[hm]
 have:(x:Int)*2^s=((x*2^s:Nat):Int):=by simp
 rw[this];exact Il _
theorem NB (x s:Nat)(hs:s<=64):L6 .u64 (x:Int) (s:Int)=((x/2^s:Nat):Int):=by
 have hm:min ((s:Int)).toNat (IntKind.bits .u64)=s:=by
  have:IntKind.bits .u64=64:=rfl
  rw[this];omega
 unfold L6;rw[hm]
 have:(2:Int)^s=((2^s:Nat):Int):=by simp
 rw[this,Int.fdiv_eq_ediv_of_nonneg _ (Int.natCast_nonneg _)];exact(Int.natCast_ediv _ _).symm
theorem Rx (a:Nat)(ha:a<18446744073709551616):(BitVec.ofInt (IntKind.bits .u64) (a:Int)).toNat=a:=by
 rw[show IntKind.bits .u64=64 from rfl,BitVec.ofInt_natCast,BitVec.toNat_ofNat];exact Dd ha
theorem VU (a b:Nat)(ha:a<18446744073709551616)(hb:b<18446744073709551616):G1 .or .u64 (a:Int) (b:Int)=((a ||| b:Nat):Int):=by
 have h:a ||| b<2^64:=Nat.or_lt_two_pow ha hb;show IntKind.u64.wrap ((BitVec.ofInt (IntKind.bits .u64) (a:Int) ||| BitVec.ofInt (IntKind.bits .u64) (b:Int)).toNat:Int)=_;rw[BitVec.toNat_or,Rx a ha,Rx b hb,Il];exact congrArg Nat.cast (Dd h)
theorem dB (a:Nat)(ha:a<18446744073709551616):G1 .and .u64 (a:Int) 4294967295=((a%4294967296:Nat):Int):=by
 show IntKind.u64.wrap ((BitVec.ofInt (IntKind.bits .u64) (a:Int) &&& BitVec.ofInt (IntKind.bits .u64) ((4294967295:Nat):Int)).toNat:Int)=_;rw[BitVec.toNat_and,Rx a ha,Rx _ (by decide),Il,show(4294967295:Nat)=2^32-1 from rfl,Nat.and_two_pow_sub_one_eq_mod];exact congrArg Nat.cast (Dd (by omega))
theorem Uq (a b:Nat):IntKind.u64.wrap ((a:Int).tdiv (b:Int))=((a/b%18446744073709551616:Nat):Int):=by
 rw[<-Int.ofNat_tdiv];exact Il _
theorem cQ {a b:Nat}(h:b<=a)(ha:a<18446744073709551616):IntKind.u64.wrap ((a:Int)-(b:Int))=((a-b:Nat):Int):=by
 rw[<-Int.natCast_sub h,Il];exact congrArg Nat.cast (Dd (by omega))
section
variable {C:BC} {B F:Ab} {s:St} {rd:Option Nat} {Q:Exit->Ab->St->Prop}
theorem fX {a b:Code}(S:Nat->St)(h1:AC C B rd F a s (λe F1 s1=>I3 (F1=F/\∃n,Wk s1 (S n)) (λe=>Q e F1 s1) e))(h2:∀n,AC C B rd F b (S n) Q):AC C B rd F (.seq a b) s Q:=
 AC.seq (h1.mono λe F1 s1 h=>by
  cases e with
  |normal=>
   obtain⟨h0,n,h3⟩:=(show F1=F/\∃n,Wk s1 (S n)from h)
   rw[h0];exact AC.weak (S n) h3 (h2 n)
  |ret=>exact h
  |exit j=>exact h
  |goto l=>exact h
  |panic c=>exact h
  |outgrown=>exact h)
end
theorem Mi (z:Int):IntKind.u64.wrap z=z%18446744073709551616:=by
 have e1:(2:Int)^IntKind.u64.bits=18446744073709551616:=rfl;unfold IntKind.wrap;simp only[e1];have e3:IntKind.u64.signed=false:=rfl;rw[e3];simp only[HR,Hx,if_false]
theorem iD (a b:Nat)(ha:a<4294967296)(hb:b<4294967296):IntKind.u64.wrap (IntKind.u64.wrap ((a:Int)*4294967296)+(b:Int))=((a*4294967296+b:Nat):Int):=by
 rw[Mi,Mi];omega
theorem XY (a c q Y:Nat)(hY:0<Y)(hY2:Y<18446744073709551616)(hq:q=(a*4294967296+c)/Y):
  IntKind.u64.wrap (IntKind.u64.wrap (IntKind.u64.wrap ((a:Int)*4294967296)+(c:Int))-IntKind.u64.wrap ((q:Int)*(Y:Int)))=(((a*4294967296+c)%Y:Nat):Int):=by
 have e:=EW (a*4294967296+c) Y;have m:=B1 (a*4294967296+c) hY;rw[<-hq,BP Y q]at e;generalize(a*4294967296+c)%Y=v at*;rw[<-Fx q Y];generalize q*Y=Q at*;rw[Mi,Mi,Mi,Mi];omega
structure q7 (hi lo y s Y u u10:Nat):Prop where
 s63:s<=63
 eY:Y=y*2^s
 big:9223372036854775808<=Y
 Yl:Y<18446744073709551616
 uY:u<Y
 u10l:u10<18446744073709551616
 N:(hi*BB+lo)*2^s=u*18446744073709551616+u10
 e8:Ku .u64 (y:Int) (s:Int)=(Y:Int)
 e9:L6 .u64 (Y:Int) 32=((Y/4294967296:Nat):Int)
 e10:G1 .and .u64 (Y:Int) 4294967295=((Y%4294967296:Nat):Int)
 ew:IntKind.u64.wrap (64-(s:Int))=((64-s:Nat):Int)
 e11:G1 .or .u64 (Ku .u64 (hi:Int) (s:Int)) (L6 .u64 (lo:Int) ((64-s:Nat):Int))=(u:Int)
 e12:Ku .u64 (lo:Int) (s:Int)=(u10:Int)
 e13:L6 .u64 (u10:Int) 32=((u10/4294967296:Nat):Int)
 e14:G1 .and .u64 (u10:Int) 4294967295=((u10%4294967296:Nat):Int)
theorem l8 {hi lo y s:Nat}(h1:hi<y)(hlo:lo<BB)(hs:s<=63)(t1:9223372036854775808<=y*2^s)(t2:y*2^s<18446744073709551616):
  ∃Y u u10,q7 hi lo y s Y u u10:=by
 obtain⟨m1,m2,m3⟩:=lx hs h1 hlo;have hpos:0<2^s:=Gs s;have hh:hi*2^s<18446744073709551616:=DY (Nat.le_add_right _ _) (Fv m2 t2);have hl:lo/2^(64-s)<18446744073709551616:=DY (Fy _ _) hlo;refine⟨_,_,_,hs,rfl,t1,t2,m2,B1 _ (by decide),m3,?_,NB _ 32 (by decide),dB _ t2,?_,?_,Ox lo s hs,NB _ 32 (by decide),dB _ (B1 _ (by decide))⟩
 ·rw[Ox y s hs,Dd t2]
 ·rw[wU (by omega) (by omega)];omega
 ·rw[Ox hi s hs,Dd hh,NB lo (64-s) (by omega),VU _ _ hh hl,Uc m1]
theorem Xs (hi lo y:Nat)(h1:hi<y)(hlo:lo<BB)(hy:y<BB):AI C0 225 [AR hi,AR lo,AR y] (.tup [AR ((hi*BB+lo)/y),AR ((hi*BB+lo)%y)]):=by
 refine Ag.walk w1 b5 rfl λF=>?_
 have y0:¬(y:Int)=0:=by omega
 have c1:((y:Int)==0)=false:=by simp;omega
 have c2:decide ((y:Int)<=(hi:Int))=false:=Ac (by omega);refine sR 0 ?_;refine AC.seq ?_;refine sZ 100 ?_;refine AT c1 ?_;refine AM ?_;refine An ?_;refine AC.seq ?_;refine sZ 300 ?_;refine AT c2 ?_;refine AM ?_;refine An ?_;refine AC.seq ?_;refine sR 500 ?_;refine AM ?_
 (refine Bw (λh27=>?_) (λh27=>?_))<;>(try simp only[Bi,Bu]at h27)<;>(try simp only[h27])
 ·have hi0:hi=0:=by simpa using h27
  subst hi0;refine AC.seq ?_;refine B5 w1 600 [0,1,2,3,4,5,6] [7] (by kernel_rfl) ?_;refine BN ?_;refine Ah ?_;refine AL ?_ AA.out;have l1:lo/y<18446744073709551616:=DY (Fy _ _) hlo;rw[Uq,Dd l1,Gt,BU];rfl
 ·obtain⟨s,hs,es,t1,t2⟩:=WT (x:=y) (by omega) hy
  have cl:=dT y hy;rw[es]at cl;have ws:IntKind.u64.wrap (s:Int)=(s:Int):=wU (by omega) (by omega);obtain⟨Y,u,u10,L⟩:=l8 h1 hlo hs t1 t2;have ew0:(0:Int)<=IntKind.u64.wrap (64-(s:Int)):=by rw[L.ew];omega
  refine An ?_;refine sR 700 ?_;refine cI cl ?_;rw[ws];refine sZ 800 ?_;refine AT L.e8 ?_;refine sZ 900 ?_;refine AT L.e9 ?_;refine sZ 1000 ?_;refine AT L.e10 ?_;refine sZ 1100 ?_;refine AD (Aj L.ew L.e11) ?_;refine sZ 1200 ?_;refine AT L.e12 ?_;refine sZ 1300 ?_;refine AT L.e13 ?_;refine sZ 1400 ?_;refine AT L.e14 ?_;have hB:2147483648<=Y/4294967296:=by have:=L.big;omega
  have hB2:Y/4294967296<4294967296:=by have:=L.Yl;omega
  have n0:¬((Y/4294967296:Nat):Int)=0:=by omega
  obtain⟨I0,r0⟩:=Wi (B:=4294967296) (u0:=u10/4294967296) (by decide) (by have:=L.big;omega) L.Yl (by decide) L.uY (by have:=L.u10l;omega);have q0l:=I0.q2;have hu64:u<18446744073709551616:=Fv L.uY L.Yl;have hqy:=Nat.div_mul_le_self u (Y/4294967296);have e15:IntKind.u64.wrap ((u:Int).tdiv ((Y/4294967296:Nat):Int))=((u/(Y/4294967296):Nat):Int):=by
   rw[Uq,Dd (by omega)]
  have e16:IntKind.u64.wrap ((u:Int)-IntKind.u64.wrap (((u/(Y/4294967296):Nat):Int)*((Y/4294967296:Nat):Int)))=((u-u/(Y/4294967296)*(Y/4294967296):Nat):Int):=by
   rw[<-Fx,Il,Dd (by omega),cQ hqy hu64]
  refine sZ 1500 ?_;refine AT e15 ?_;refine sZ 1600 ?_;refine AT e16 ?_;have hu1:u10/4294967296<4294967296:=by have:=L.u10l;omega
  have hy0:Y%4294967296<4294967296:=B1 _ (by decide);generalize hu1e:u10/4294967296=u1 at*;generalize hu0e:u10%4294967296=u0 at*;refine fX (λn=>⟨[(2,AR Y),(6,u64 0),(7,u64 0),(8,AR s),(9,AR (Y/4294967296)),(10,AR (Y%4294967296)),(11,AR u),(13,AR u1),(14,AR u0),(15,AR ((u*4294967296+u1)/Y))],[],n⟩) ?_ λn=>?_
  ·refine AC.block ?_
   refine GT (α:=Nat×Nat×Nat) (λp=>⟨[(2,AR Y),(6,u64 0),(7,u64 0),(8,AR s),(9,AR (Y/4294967296)),(10,AR (Y%4294967296)),(11,AR u),(13,AR u1),(14,AR u0),(15,AR p.1),(16,AR p.2.1)],[],p.2.2⟩) (λp=>p.1)
    (λp F'=>F'=F/\LM 4294967296 Y u u1 p.1 p.2.1/\p.2.1<4294967296) (_,_,_)
    ⟨rfl,I0,r0⟩ AK ?_
   rintro⟨q,r,m⟩ F' ⟨rfl,I,hr⟩;dsimp only at I hr⊢;have hq2:=I.q2;refine AC.seq ?_;obtain⟨b,hbt⟩:∃b:Bool,b=decide (4294967296<=q\/4294967296*r+u1<q*(Y%4294967296)):=⟨_,rfl⟩
   refine EU ⟨[(2,AR Y),(6,u64 0),(7,u64 0),(8,AR s),(9,AR (Y/4294967296)),(10,AR (Y%4294967296)),(11,AR u),(13,AR u1),(14,AR u0),(15,AR q),(16,AR r),(78,Aq b)],[],m+30⟩ ?_ ?_
   ·rcases BG q 4294967296 with hq|hq
    ·have e1:decide ((q:Int)>=4294967296)=false:=Ac (by omega)
     have hqy:q*(Y%4294967296)<=4294967295*4294967295:=Ig (by omega) (by omega);have k1:IntKind.u64.wrap ((q:Int)*((Y%4294967296:Nat):Int))=((q*(Y%4294967296):Nat):Int):=by
      rw[<-Fx,Il,Dd (by omega)]
     have k2:IntKind.u64.wrap (4294967296*(r:Int))=((4294967296*r:Nat):Int):=by rw[wU (by omega) (by omega)];omega
     have k3:IntKind.u64.wrap (((4294967296*r:Nat):Int)+(u1:Int))=((4294967296*r+u1:Nat):Int):=by rw[wU (by omega) (by omega)];omega
     have k4:decide (((q*(Y%4294967296):Nat):Int)>((4294967296*r+u1:Nat):Int))=b:=by
      rw[hbt];exact C4.2 ⟨λh=>Or.inr (by omega),λh=>by rcases h with h|h<;>omega⟩
     refine Ao w1 1700 (by kernel_rfl) ?_;refine AD e1 ?_;refine AD (CF kF k1 k2 k3 k4) ?_;exact And.intro (by trivial) (AK)
    ·have e1:decide ((q:Int)>=4294967296)=true:=AX (by omega)
     have hb:b=true:=by rw[hbt];exact AX (Or.inl hq)
     subst hb;refine Ao w1 1700 (by kernel_rfl) ?_;refine AD e1 ?_;refine AD kT ?_;exact And.intro (by trivial) (AK)
   ·cases b
    ·have hc:=DN hbt.symm
     have hq:=S9 I (by omega);subst hq;refine AM ?_;refine B6 ?_;exact⟨rfl,_,AK⟩
    ·have hc:=Cz hbt.symm
     obtain⟨hq0,I2⟩:=W2 (by decide) L.uY hu1 I hc;have hq3:=I2.q2;have k1:IntKind.u64.wrap ((q:Int)-1)=((q-1:Nat):Int):=by rw[wU (by omega) (by omega)];omega
     have k2:IntKind.u64.wrap ((r:Int)+((Y/4294967296:Nat):Int))=((r+Y/4294967296:Nat):Int):=by rw[wU (by omega) (by omega)];omega
     refine AM ?_;refine An ?_;refine AC.block ?_;refine sZ 1800 ?_;refine AT k1 ?_;refine sZ 1900 ?_;refine AT k2 ?_;refine sR 2000 ?_;refine AM ?_
     (refine Bw (λh85=>?_) (λh85=>?_))<;>(try simp only[Bi,Bu]at h85)<;>(try simp only[h85])
     ·have hq:=Wh (by decide) I2 (by omega) (by have:=Cz h85;omega)
      rw[hq];refine B6 ?_;exact⟨rfl,_,AK⟩
     ·refine An ?_
      refine⟨(q-1,r+Y/4294967296,_),⟨rfl,I2,by have:=DN h85;dsimp only;omega⟩,by dsimp only;omega,AK⟩
  ·have hY0:0<Y:=by have:=L.big;omega
   have e21:=XY u u1 _ Y hY0 L.Yl rfl;have q1l:(u*4294967296+u1)/Y<4294967296:=by
    refine E3 ?_
    have:(u+1)*4294967296<=Y*4294967296:=CI _ L.uY
    rw[Bv]at this;omega
   have hvY:(u*4294967296+u1)%Y<Y:=B1 _ hY0;have tr:=jS (B:=4294967296) (N:=hi*BB+lo) (S:=2^s) (y:=y) (u32:=u) (u1:=u1) (u0:=u0) (v:=(u*4294967296+u1)%Y) (Gs s) (by omega) (by rw[L.N];omega) (by rw[L.eY]);rw[<-L.eY]at tr;clear e15 e16 I0 r0 q0l hqy;obtain⟨q1,hq1e⟩:∃x,x=(u*4294967296+u1)/Y:=⟨_,rfl⟩
   rw[<-hq1e]at e21 q1l tr⊢;obtain⟨v,hve⟩:∃x,x=(u*4294967296+u1)%Y:=⟨_,rfl⟩
   rw[<-hve]at e21 hvY tr;have hu0:u0<4294967296:=by rw[<-hu0e];exact B1 _ (by decide)
   obtain⟨J0,s0⟩:=Wi (B:=4294967296) (u0:=u0) (by decide) (by have:=L.big;omega) L.Yl (by decide) hvY hu0;have q0l:=J0.q2;have hv64:v<18446744073709551616:=Fv hvY L.Yl;have hqy:=Nat.div_mul_le_self v (Y/4294967296);have e22:IntKind.u64.wrap ((v:Int).tdiv ((Y/4294967296:Nat):Int))=((v/(Y/4294967296):Nat):Int):=by
    rw[Uq,Dd (by omega)]
   have e23:IntKind.u64.wrap ((v:Int)-IntKind.u64.wrap (((v/(Y/4294967296):Nat):Int)*((Y/4294967296:Nat):Int)))=((v-v/(Y/4294967296)*(Y/4294967296):Nat):Int):=by
    rw[<-Fx,Il,Dd (by omega),cQ hqy hv64]
   refine sZ 2100 ?_;refine AT e21 ?_;refine sZ 2200 ?_;refine AT e22 ?_;refine sZ 2300 ?_;refine AT e23 ?_;refine fX (λn=>⟨[(2,AR Y),(6,u64 0),(7,u64 0),(8,AR s),(9,AR (Y/4294967296)),(10,AR (Y%4294967296)),(11,AR u),(13,AR u1),(14,AR u0),(15,AR q1),(17,AR v),(18,AR ((v*4294967296+u0)/Y))],[],n⟩) ?_ λn=>?_
   ·refine AC.block ?_
    refine GT (α:=Nat×Nat×Nat) (λp=>⟨[(2,AR Y),(6,u64 0),(7,u64 0),(8,AR s),(9,AR (Y/4294967296)),(10,AR (Y%4294967296)),(11,AR u),(13,AR u1),(14,AR u0),(15,AR q1),(17,AR v),(18,AR p.1),(16,AR p.2.1)],[],p.2.2⟩) (λp=>p.1)
     (λp F'=>F'=F/\LM 4294967296 Y v u0 p.1 p.2.1/\p.2.1<4294967296) (_,_,_)
     ⟨rfl,J0,s0⟩ AK ?_
    rintro⟨q,r,m⟩ F' ⟨rfl,I,hr⟩;dsimp only at I hr⊢;have hq2:=I.q2;refine AC.seq ?_;obtain⟨b,hbt⟩:∃b:Bool,b=decide (4294967296<=q\/4294967296*r+u0<q*(Y%4294967296)):=⟨_,rfl⟩
    refine EU ⟨[(2,AR Y),(6,u64 0),(7,u64 0),(8,AR s),(9,AR (Y/4294967296)),(10,AR (Y%4294967296)),(11,AR u),(13,AR u1),(14,AR u0),(15,AR q1),(17,AR v),(18,AR q),(16,AR r),(113,Aq b)],[],m+30⟩ ?_ ?_
    ·rcases BG q 4294967296 with hq|hq
     ·have e1:decide ((q:Int)>=4294967296)=false:=Ac (by omega)
      have hqy:q*(Y%4294967296)<=4294967295*4294967295:=Ig (by omega) (by omega);have k1:IntKind.u64.wrap ((q:Int)*((Y%4294967296:Nat):Int))=((q*(Y%4294967296):Nat):Int):=by
       rw[<-Fx,Il,Dd (by omega)]
      have k2:IntKind.u64.wrap (4294967296*(r:Int))=((4294967296*r:Nat):Int):=by rw[wU (by omega) (by omega)];omega
      have k3:IntKind.u64.wrap (((4294967296*r:Nat):Int)+(u0:Int))=((4294967296*r+u0:Nat):Int):=by rw[wU (by omega) (by omega)];omega
      have k4:decide (((q*(Y%4294967296):Nat):Int)>((4294967296*r+u0:Nat):Int))=b:=by
       rw[hbt];exact C4.2 ⟨λh=>Or.inr (by omega),λh=>by rcases h with h|h<;>omega⟩
      refine Ao w1 2400 (by kernel_rfl) ?_;refine AD e1 ?_;refine AD (CF kF k1 k2 k3 k4) ?_;exact And.intro (by trivial) (AK)
     ·have e1:decide ((q:Int)>=4294967296)=true:=AX (by omega)
      have hb:b=true:=by rw[hbt];exact AX (Or.inl hq)
      subst hb;refine Ao w1 2400 (by kernel_rfl) ?_;refine AD e1 ?_;refine AD kT ?_;exact And.intro (by trivial) (AK)
    ·cases b
     ·have hc:=DN hbt.symm
      have hq:=S9 I (by omega);subst hq;refine AM ?_;refine B6 ?_;exact⟨rfl,_,AK⟩
     ·have hc:=Cz hbt.symm
      obtain⟨hq0,I2⟩:=W2 (by decide) hvY hu0 I hc;have hq3:=I2.q2;have k1:IntKind.u64.wrap ((q:Int)-1)=((q-1:Nat):Int):=by rw[wU (by omega) (by omega)];omega
      have k2:IntKind.u64.wrap ((r:Int)+((Y/4294967296:Nat):Int))=((r+Y/4294967296:Nat):Int):=by rw[wU (by omega) (by omega)];omega
      refine AM ?_;refine An ?_;refine AC.block ?_;refine sZ 2500 ?_;refine AT k1 ?_;refine sZ 2600 ?_;refine AT k2 ?_;refine sR 2700 ?_;refine AM ?_
      (refine Bw (λh120=>?_) (λh120=>?_))<;>(try simp only[Bi,Bu]at h120)<;>(try simp only[h120])
      ·have hq:=Wh (by decide) I2 (by omega) (by have:=Cz h120;omega)
       rw[hq];refine B6 ?_;exact⟨rfl,_,AK⟩
      ·refine An ?_
       refine⟨(q-1,r+Y/4294967296,_),⟨rfl,I2,by have:=DN h120;dsimp only;omega⟩,by dsimp only;omega,AK⟩
   ·have e28:=XY v u0 _ Y hY0 L.Yl rfl
    have hm28:(v*4294967296+u0)%Y<Y:=B1 _ hY0;have q2l:(v*4294967296+u0)/Y<4294967296:=by
     refine E3 ?_
     have:(v+1)*4294967296<=Y*4294967296:=CI _ hvY
     rw[Bv]at this;omega
    have k1:=iD q1 ((v*4294967296+u0)/Y) q1l q2l;have k2:=NB ((v*4294967296+u0)%Y) s (by omega);rw[tr.1]at k1;rw[tr.2]at k2;refine sZ 2800 ?_;refine AD (As k1 e28 k2) ?_;refine Ah ?_;exact AL rfl AA.out
theorem WA {n2 v1 P U V q:Nat}(hU:U<(n2+1)*P)(hV:v1*P<=V)(hq:n2+1<=(q+1)*v1):U<(q+1)*V:=by
 have h1:=CI P hq;have h2:=CY (q+1) hV;rw[Bx]at h1;omega
theorem We {n3 D P U V q:Nat}(hU:U<(n3+1)*P)(hV:D*P<=V)(hq:n3<q*D):U<q*V:=by
 have h1:=CI P (show n3+1<=q*D from hq);have h2:=CY q hV;rw[Bx]at h1;omega
theorem XV {n3 D P U V q B v:Nat}(hU:n3*P<=U)(hV:V=D*P+v)(hv:v<P)(hq:q*D<=n3)(hqB:q<=B)(hD:B<=D):q*V<=U+V:=by
 have h1:=CI P hq;rw[Bx]at h1;have h2:q*v<=B*P:=Ig hqB (by omega);have h3:=CI P hD;have h4:q*V=q*(D*P)+q*v:=by rw[hV,BL]
 omega
theorem Wl {c x s:Nat}(hs:s<=63)(hc:c<2^s)(hx:x<18446744073709551616):
  c |||(x*2^s%18446744073709551616)=c+x*2^s%18446744073709551616/\c+x*2^s%18446744073709551616<18446744073709551616 /\
   c+x*2^s%18446744073709551616+18446744073709551616*(x/2^(64-s))=c+x*2^s/\x/2^(64-s)<2^s:=by
 have hp:0<2^s:=Gs s;have hpp:2^(64-s)*2^s=18446744073709551616:=by
  rw[<-Fw,show 64-s+s=64 by omega]
 have hl:x*2^s/18446744073709551616=x/2^(64-s):=by
  rw[<-hpp,PU _ _ hp]
 have hm:x*2^s%18446744073709551616=x%2^(64-s)*2^s:=by
  rw[<-hpp,PV]
 have hl2:x/2^(64-s)<2^s:=E3 (by rw[hpp];exact hx);have e:=EW (x*2^s) 18446744073709551616;rw[hl]at e;have ho:c |||(x*2^s%18446744073709551616)=c+x*2^s%18446744073709551616:=by
  rw[hm,Nat.or_comm,Uc hc,Kz]
 have hlt:c+x*2^s%18446744073709551616<18446744073709551616:=by
  rw[hm]
  have:(x%2^(64-s)+1)*2^s<=2^(64-s)*2^s:=CI _ (B1 _ (Gs _))
  rw[hpp,Bv]at this;omega
 exact⟨ho,hlt,by omega,hl2⟩
structure Ra (w out:List Nat)(s i c:Nat):Prop where
 le:i<=w.length
 len:out.length=w.length+1
 wd:Wd out
 val:AS out=AS (w.take i)*2^s
 at_:out[i]?=some c
 cl:c<2^s
 zero:∀k,i<k->∀d,out[k]?=some d->d=0
theorem pD {w out:List Nat}{s i c x:Nat}(hs:s<=63)(hw:Wd w)(hi:i<w.length)(hx:w[i]?=some x)(I:Ra w out s i c):
  Ra w ((out.set i (c+x*2^s%18446744073709551616)).set (i+1) (x/2^(64-s))) s (i+1) (x/2^(64-s)):=by
 have hxl:x<BB:=hw x (Av hx);obtain⟨_,d2,d3,d4⟩:=Wl hs I.cl hxl;obtain⟨z,hz⟩:∃z,out[i+1]?=some z:=⟨out[i+1]'(by have:=I.len;omega),BE _⟩
 have hz0:=I.zero _ (HM i) z hz;subst hz0;have s1:=JT (d:=c+x*2^s%18446744073709551616) I.at_;have hz1:(out.set i (c+x*2^s%18446744073709551616))[i+1]?=some 0:=by rw[Ie (by omega)];exact hz
 have s2:=JT (d:=x/2^(64-s)) hz1;have hbx:AS (w.take (i+1))=AS (w.take i)+BB^i*x:=by rw[FB hx,Gh (i:=i) (by rw[Ba];omega)]
 have hhi:x/2^(64-s)<BB:=DY (Fy _ _) hxl;refine⟨by omega,by rw[DE,DE];exact I.len,(I.wd.set d2).set hhi,?_,?_,d4,λk hk d hd=>?_⟩
 ·have e1:BB^(i+1)*(x/2^(64-s))=BB^i*(18446744073709551616*(x/2^(64-s))):=by rw[CK,Bx]
  have e2:BB^i*(c+x*2^s%18446744073709551616+18446744073709551616*(x/2^(64-s)))=BB^i*(c+x*2^s):=by rw[d3]
  rw[BL,BL _ c (x*2^s)]at e2;rw[hbx,Bv,<-I.val,Bx];omega
 ·rw[Vj (by rw[DE];have:=I.len;omega)]
 ·rw[Ie (by omega),Ie (by omega)]at hd
  exact I.zero k (by omega) d hd
def Up (w:List Nat)(s:Nat)(H:Hp)(n:Nat)(d:D)(H':Hp)(n':Nat):Prop:=
 ∃(out:List Nat) (g:Nat),out.length=w.length+1/\Wd out/\AS out=AS w*2^s/\d=.osl 103 g 1 0 (w.length+1)/\H'=⟨103,g,210,1,out.map AR⟩::H/\n<=n'
theorem W4 (w:List Nat)(s:Nat)(hs:s<=63)(hw:Wd w)(hl:w.length<4000000)(H:Hp)(n:Nat):Cd C0 228 [wL w,i64 s] H n (Up w s H n):=by
 refine Cd.walk w1 b7 rfl λF=>?_
 unfold wL;have ew:(((w.map AR).length:Nat):Int)=(w.length:Int):=by rw[Ak]
 have wl:IntKind.i64.wrap ((w.length:Int)+1)=((w.length+1:Nat):Int):=by rw[wI (by omega) (by omega)];omega
 have r3:List.replicate (w.length+1) (ofV (.int .u64 0))=(List.replicate (w.length+1) 0).map AR:=by rw[Jw];rfl
 refine sR 0 ?_;refine sZ 100 ?_;refine AT (As ew wl kN) ?_;refine AC.seq ?_;refine sZ 200 ?_;refine AT ew ?_;obtain⟨g,hg⟩:∃g,g=n+1+1+1+1:=⟨_,rfl⟩
 rw[<-hg];have I0:Ra w (List.replicate (w.length+1) 0) s 0 0:=⟨BS _,by simp,MW _,by simp[AS,P2],by simp,Gs s,λk _ d hd=>PP (Av hd)⟩
 refine AC.weak ⟨[(0,.sl false 1 (w.map AR)),(1,i64 s),(4,CM),(5,.osl 103 g 1 0 (w.length+1)),(12,.sl false 1 (w.map AR)),(13,i64 w.length),(14,i64 0)],⟨103,g,210,1,(List.replicate (w.length+1) 0).map AR⟩::H,n+30⟩ (by rw[<-r3];exact AK) ?_;refine AC.block ?_;refine AC.loop (α:=Nat×Nat×List Nat×Nat) (λp=>⟨[(0,.sl false 1 (w.map AR)),(1,i64 s),(4,CM),(5,.osl 103 g 1 0 (w.length+1)),(12,.sl false 1 (w.map AR)),(13,i64 w.length),(14,i64 p.1)],⟨103,g,210,1,p.2.2.1.map AR⟩::H,p.2.2.2⟩) (λp=>w.length-p.1)
  (λp=>Ra w p.2.2.1 s p.1 p.2.1/\n<=p.2.2.2) (0,0,List.replicate (w.length+1) 0,n+30)
  ⟨I0,Nat.le_add_right _ _⟩ AK ?_
 rintro⟨i,c,o,m⟩ F ⟨I,hm⟩;dsimp only at I hm⊢;refine sR 300 ?_;refine AC.seq ?_;refine AM ?_
 (refine Bw (λh15=>?_) (λh15=>?_))<;>(try simp only[Bi,Bu]at h15)<;>(try simp only[h15])
 ·have hi:i<w.length:=by simpa using h15
  obtain⟨x,hx⟩:∃x,w[i]?=some x:=⟨w[i],BE hi⟩
  have hx':=DS hx;have hc':=DS I.at_;have hxl:x<BB:=hw x (Av hx);obtain⟨d1,d2,d3,d4⟩:=Wl hs I.cl hxl;have J:=pD hs hw hi hx I;have e5:G1 .or .u64 (c:Int) (Ku .u64 (x:Int) (s:Int))=((c+x*2^s%18446744073709551616:Nat):Int):=by
   rw[Ox x s hs,VU _ _ (by omega) (B1 _ (by decide)),d1]
  refine An ?_;refine AC.seq ?_;refine AC.block ?_;refine sR 400 ?_;refine Bq kT hx' ?_;refine BN ?_;refine AC.seq ?_;refine B5 w1 500 [0,1,2,3,4,5,6] [7,8,9] (by kernel_rfl) ?_;refine AD (BW e5 kN BU hc') ?_;refine D6 rfl rfl ?_;refine Mu rfl rfl rfl hc' ?_;refine AD @map_set ?_;refine AC.seq ?_;obtain⟨z,hz⟩:∃z,o[i+1]?=some z:=⟨o[i+1]'(by have:=I.len;omega),BE _⟩
  have hz0:=I.zero _ (HM i) z hz;subst hz0;have hz1:(o.set i (c+x*2^s%18446744073709551616))[i+1]?=some 0:=by rw[Ie (by omega)];exact hz
  have hz':=DS hz1;have wi:IntKind.i64.wrap ((i:Int)+1)=((i+1:Nat):Int):=wI (by omega) (by omega);rcases Dk s with hs0|hs0
  ·have e1:decide ((s:Int)>0)=false:=Ac (by omega)
   have hx0:x/2^(64-s)=0:=by rw[hs0];exact HL hxl
   have hset:(o.set i (c+x*2^s%18446744073709551616)).set (i+1) 0=o.set i (c+x*2^s%18446744073709551616):=by
    refine PO λk=>?_
    rcases Nat.decEq (i+1) k with hk|hk
    ·rw[Ie hk]
    ·subst hk
     rw[Vj (by have:=(List.getElem?_eq_some_iff.1 hz1).1;exact this),hz1]
   rw[hx0,hset]at J;refine Ao w1 600 (by kernel_rfl) ?_;refine AT e1 ?_;refine AM ?_;refine An ?_;refine Ao w1 800 (by kernel_rfl) ?_;refine AT wi ?_;refine⟨(i+1,0,o.set i (c+x*2^s%18446744073709551616),m+200),⟨J,by dsimp only;omega⟩,by dsimp only;omega,AK⟩
  ·have e1:decide ((s:Int)>0)=true:=AX (by omega)
   have w64:IntKind.i64.wrap (64-(s:Int))=((64-s:Nat):Int):=by rw[wI (by omega) (by omega)];omega
   have w640:(0:Int)<=IntKind.i64.wrap (64-(s:Int)):=by rw[w64];omega
   have e36:=NB x (64-s) (by omega);refine Ao w1 600 (by kernel_rfl) ?_;refine AT e1 ?_;refine AM ?_;refine Ao w1 700 (by kernel_rfl) ?_;refine AD (EM wi w64 e36 kN BU hz') ?_
   try rw[map_set]
   refine Ao w1 800 (by kernel_rfl) ?_;refine AT wi ?_;refine⟨(i+1,x/2^(64-s),(o.set i (c+x*2^s%18446744073709551616)).set (i+1) (x/2^(64-s)),m+200),⟨J,by dsimp only;omega⟩,by dsimp only;omega,AK⟩
 ·have hi:i=w.length:=by
   have:¬i<w.length:=by simpa using h15
   have:=I.le
   omega
  subst hi;have hv:=I.val;rw[CA (Af _)]at hv;refine B6 ?_;refine sR 900 ?_;refine Ah ?_;exact⟨o,g,I.len,I.wd,hv,rfl,rfl,by omega⟩
section
variable {C:BC} {B F:Ab} {s:St} {rd:Option Nat} {Q:Exit->Ab->St->Prop}
theorem Cw {a b:Code}{α:Type}(S:α->St)(J:α->Prop)(h1:AC C B rd F a s (λe F1 s1=>I3 (F1=F/\∃x,J x/\Wk s1 (S x)) (λe=>Q e F1 s1) e))(h2:∀x,J x->AC C B rd F b (S x) Q):AC C B rd F (.seq a b) s Q:=
 AC.seq (h1.mono λe F1 s1 h=>by
  cases e with
  |normal=>
   obtain⟨h0,x,hx,h3⟩:=(show F1=F/\∃x,J x/\Wk s1 (S x)from h)
   rw[h0];exact AC.weak (S x) h3 (h2 x hx)
  |ret=>exact h
  |exit j=>exact h
  |goto l=>exact h
  |panic c=>exact h
  |outgrown=>exact h)
end
theorem il {q v c:Nat}(hq:q<BB)(hv:v<BB)(hc:c<BB):
  (q*v%BB+c)%BB+BB*(q*v/BB+(q*v%BB+c)/BB)=q*v+c/\q*v/BB+(q*v%BB+c)/BB<BB:=by
 have hqv:q*v<=(18446744073709551616-1)*(18446744073709551616-1):=Ig (by unfold BB at hq;omega) (by unfold BB at hv;omega);have hk:(18446744073709551616-1)*(18446744073709551616-1)=340282366920938463426481119284349108225:=by decide
 rw[hk]at hqv;generalize q*v=p at*;have e1:=Eo p BB;have e2:=Eo (p%BB+c) BB;have l1:=B1 p (show BB>0 by decide);have l2:=B1 (p%BB+c) (show BB>0 by decide);unfold BB at*;generalize p/18446744073709551616=A at*;generalize p%18446744073709551616=D at*;generalize(D+c)/18446744073709551616=E at*;generalize(D+c)%18446744073709551616=G at*;omega
theorem CR {l:List Nat}{i:Nat}(h:i<l.length):∃a,l[i]?=some a:=⟨l[i],BE h⟩
theorem Vb {l:List Nat}{k a:Nat}(hl:l.length=k+1)(ha:l[k]?=some a):AS l=AS (l.take k)+BB^k*a:=by
 rw[KS ha,HO (by omega)];simp[AS]
theorem yO {l:List Nat}{k a b:Nat}(hl:l.length=k+2)(ha:l[k]?=some a)(hb:l[k+1]?=some b):AS l=AS (l.take k)+BB^k*(a+BB*b):=by
 rw[KS ha]
 have:l.drop (k+1)=[b]:=by
  rw[EK (by omega),HO (by omega)]
  congr 1
  exact(List.getElem?_eq_some_iff.1 hb).2
 rw[this];simp[AS]
theorem yP {l:List Nat}{k a b c:Nat}(hl:l.length=k+3)(ha:l[k]?=some a)(hb:l[k+1]?=some b)(hc:l[k+2]?=some c):AS l=AS (l.take k)+BB^k*(a+BB*(b+BB*c)):=by
 rw[KS ha];have h1:=Vb (l:=l.drop (k+1)) (k:=1) (a:=c) (by rw[Dq];omega) (by rw[HQ,EX];exact hc);have h2:(l.drop (k+1)).take 1=[b]:=by
  rw[EK (by omega)];simp only[List.take_succ_cons,MC]
  congr 1
  exact(List.getElem?_eq_some_iff.1 hb).2
 rw[h1,h2];simp[AS]
structure Mk (P v:List Nat)(m p0 p1 p2 v2 v1:Nat):Prop where
 lP:P.length=m+3
 lv:v.length=m+2
 wP:Wd P
 wv:Wd v
 h0:P[m]?=some p0
 h1:P[m+1]?=some p1
 h2:P[m+2]?=some p2
 g2:v[m]?=some v2
 g1:v[m+1]?=some v1
 top:0<v1
 less:AS P<AS v*BB
namespace Mk
variable {P v:List Nat} {m p0 p1 p2 v2 v1:Nat} (S:Mk P v m p0 p1 p2 v2 v1)
include S
theorem valP:AS P=AS (P.take m)+BB^m*(p0+BB*(p1+BB*p2)):=yP S.lP S.h0 S.h1 S.h2
theorem valv:AS v=AS (v.take m)+BB^m*(v2+BB*v1):=yO S.lv S.g2 S.g1
theorem lowP:AS (P.take m)<BB^m:=by
 have:=Hc (S.wP.take m)
 rwa [Ba,E8 (by have:=S.lP;omega)]at this
theorem lowv:AS (v.take m)<BB^m:=by
 have:=Hc (S.wv.take m)
 rwa [Ba,E8 (by have:=S.lv;omega)]at this
theorem p0l:p0<BB:=S.wP _ (Av S.h0)
theorem p1l:p1<BB:=S.wP _ (Av S.h1)
theorem p2l:p2<BB:=S.wP _ (Av S.h2)
theorem v1l:v1<BB:=S.wv _ (Av S.g1)
theorem v2l:v2<BB:=S.wv _ (Av S.g2)
theorem below3:AS P<(p0+BB*(p1+BB*p2)+1)*BB^m:=by
 rw[S.valP,Bv,JH,BP (BB^m)]
 have:=S.lowP
 omega
theorem below2:AS P<(p1+BB*p2+1)*BB^(m+1):=by
 have h:=S.below3;have h1:=S.p0l;generalize p1+BB*p2=t at*;have h2:(p0+BB*t+1)*BB^m<=(BB*(t+1))*BB^m:=CI _ (by rw[BL BB t 1];omega);have h3:(t+1)*BB^(m+1)=(BB*(t+1))*BB^m:=by rw[CK,BP (BB^m) BB,<-Bx,BP (t+1) BB]
 omega
theorem abovev:v1*BB^(m+1)<=AS v:=by
 rw[S.valv,CK,BL]
 have:v1*(BB^m*BB)=BB^m*(BB*v1):=by rw[BP v1,Bx]
 omega
theorem abovev2:(v2+BB*v1)*BB^m<=AS v:=by
 rw[S.valv,BP];omega
theorem pos:0<AS v:=CU (HS S.top (Nat.pow_pos (by decide))) S.abovev
theorem p2v1:p2<=v1:=by
 rcases BG v1 p2 with h|h
 ·exfalso
  have e1:BB^(m+2)*p2<=AS P:=by
   rw[S.valP,BL,BL,BL]
   have:BB^(m+2)*p2=BB^m*(BB*(BB*p2)):=by rw[CK,CK,Bx,Bx]
   omega
  have e2:AS v<BB^(m+1)*(v1+1):=by
   have h1:=S.lowv;have h2:=S.v2l;have e3:BB^(m+1)*(v1+1)=BB^m*(BB*v1+BB):=by rw[CK,Bx,BL,EC]
   have e4:BB^m*(v2+BB*v1+1)<=BB^m*(BB*v1+BB):=CY _ (by omega);rw[BL _ _ 1,EC]at e4;rw[S.valv,e3];omega
  have e5:BB^(m+1)*(v1+1)*BB=BB^(m+2)*(v1+1):=by rw[Nat.mul_right_comm,<-CK]
  have e6:BB^(m+2)*(v1+1)<=BB^(m+2)*p2:=CY _ h;have e7:(AS v)*BB<=BB^(m+1)*(v1+1)*BB:=CI _ (J3 e2)
  have:=S.less
  omega
 ·exact h
end Mk
theorem jv {B q v2 r c p0:Nat}(hq:q<B)(hv:v2<B)(h:0<c\/q*v2<=r*B+p0):q*v2<=(r+B*c)*B+p0:=by
 rcases h with h|h
 ·have h2:q*v2<=B*B:=Ig (by omega) (by omega)
  have h4:B*1<=B*c:=CY _ h;have h3:B*B<=(r+B*c)*B:=CI _ (by omega);omega
 ·have h3:r*B<=(r+B*c)*B:=CI _ (by omega)
  omega
structure Lq (U V n2 v1 q r c:Nat):Prop where
 eq:q*v1+(r+BB*c)=n2
 up:U<(q+1)*V
 qB:q<BB
 rB:r<BB
 c1:c<=1
section
variable {P v:List Nat} {m p0 p1 p2 v2 v1:Nat} (S:Mk P v m p0 p1 p2 v2 v1)
include S
theorem jw (h:v1<=p2):Lq (AS P) (AS v) (p1+BB*p2) v1 18446744073709551615 ((p1+v1+0)%BB) ((p1+v1+0)/BB):=by
 have h1:p2=v1:=Nat.le_antisymm S.p2v1 h;have h2:=S.less;have h3:=S.p1l;have h4:=S.v1l;have e:=Eo (p1+v1+0) BB;refine⟨?_,?_,by decide,B1 _ (by decide),?_⟩
 ·rw[e,h1]
  show 18446744073709551615*v1+(p1+v1+0)=p1+18446744073709551616*v1;omega
 ·rw[BP];exact h2
 ·have:p1+v1+0<2*BB:=by omega
  exact Na (E3 (by rw[BP];exact this))
theorem gx (h:p2<v1):Lq (AS P) (AS v) (p1+BB*p2) v1 ((p2*BB+p1)/v1) ((p2*BB+p1)%v1) 0:=by
 have c0:p2*BB+p1=p1+BB*p2:=by rw[BP,Kz]
 rw[c0];have e:=EW (p1+BB*p2) v1;have l:=B1 (p1+BB*p2) S.top;have h3:=S.p1l;have h4:=S.v1l;have c1:=BP v1 ((p1+BB*p2)/v1);refine⟨by omega,WA S.below2 S.abovev ?_,?_,by omega,by decide⟩
 ·rw[Bv];omega
 ·refine E3 ?_
  have:BB*(p2+1)<=BB*v1:=CY _ h
  rw[BL]at this;rw[BP v1];omega
theorem iZ {q r:Nat}(G:Lq (AS P) (AS v) (p1+BB*p2) v1 q r 0)(h:r*BB+p0<q*v2):
  0<q/\Lq (AS P) (AS v) (p1+BB*p2) v1 (q-1) ((r+v1+0)%BB) ((r+v1+0)/BB):=by
 obtain⟨e,u,b,rb,_⟩:=G;rcases Dk q with h0|h0
 ·subst h0;omega
 obtain⟨k,rfl⟩:∃k,q=k+1:=⟨q-1,by omega⟩
 have e1:=Eo (r+v1+0) BB;have h4:=S.v1l;have e2:(k+1)*(v2+BB*v1)=(k+1)*v2+BB*((k+1)*v1):=by rw[BL,IY]
 have hn3:p0+BB*(p1+BB*p2)<(k+1)*(v2+BB*v1):=by
  rw[e2,<-e,BL BB,EY,DX r,BP BB r];omega
 refine⟨by omega,⟨?_,?_,by omega,B1 _ (by decide),?_⟩⟩
 ·rw[IW,e1,<-e,Bv];omega
 ·rw[IW];exact We S.below3 S.abovev2 hn3
 ·have:r+v1+0<2*BB:=by omega
  exact Na (E3 (by rw[BP];exact this))
theorem Wc {q r c:Nat}(G:Lq (AS P) (AS v) (p1+BB*p2) v1 q r c)(h:0<c\/q*v2<=r*BB+p0):q*AS v<=AS P+AS v:=by
 obtain⟨e,u,b,rb,c1⟩:=G;have h5:=S.v2l;have hq:q*v2<=(r+BB*c)*BB+p0:=jv b h5 h;have e2:q*(v2+BB*v1)=q*v2+BB*(q*v1):=by rw[BL,IY]
 refine XV (n3:=p0+BB*(p1+BB*p2)) (D:=v2+BB*v1) (P:=BB^m) (B:=BB) (v:=AS (v.take m)) ?_ ?_ S.lowv ?_ (by omega) ?_
 ·rw[S.valP,BP];omega
 ·rw[S.valv,BP];omega
 ·rw[e2,<-e,BL BB]
  have:BB*(r+BB*c)=(r+BB*c)*BB:=BP _ _
  omega
 ·have:=S.top
  have h1:=CY BB (show 1<=v1 from this);omega
end
theorem i7 {x r p0:Nat}(hp:p0<BB):(x/BB<r\/x/BB=r/\x%BB<=p0)↔x<=r*BB+p0:=by
 have e:=EW x BB;have l:=B1 x (show 0<BB by decide);generalize x/BB=h at*;generalize x%BB=d at*;unfold BB at*;omega
theorem TG {U V q N:Nat}(h:N+q*V=U+0)(hu:U<(q+1)*V):U/V=q/\U%V=N:=by
 have h1:U=N+V*q:=by rw[BP];omega
 have h2:N<V:=by rw[Bv]at hu;omega
 subst h1;exact⟨by rw[SG _ _ (by omega),HL h2,BU],by rw[SL,Dd h2]⟩
theorem XK {U V q N N3 T c:Nat}(h:N+q*V=U+T)(hN:N<T)(hu:q*V<=U+V)(h3:N3+T*c=N+V)(hc:c<=1)(h3l:N3<T):0<q/\U/V=q-1/\U%V=N3:=by
 rcases Dk q with h0|h0
 ·subst h0;omega
 obtain⟨k,rfl⟩:∃k,q=k+1:=⟨q-1,by omega⟩
 rw[Bv,JH]at h hu;have hc1:c=1:=by
  rcases Dk c with h4|h4
  ·subst h4;omega
  ·omega
 subst hc1;have h5:N3+k*V=U+0:=by omega
 have h6:U<(k+1)*V:=by rw[Bv];omega
 obtain⟨a,b⟩:=TG h5 h6;exact⟨by omega,by rw[a];omega,b⟩
theorem g9 {A P v:List Nat}{q i z x d b c b' c' lo:Nat}(hz:A[i]?=some z)(hx:v[i]?=some x)(hI:AS A+q*AS (v.take i)=AS P+BB^i*(c+b))
  (h1:lo+BB*c'=q*x+c) (h2:d+lo+b=z+BB*b'):AS (A.set i d)+q*AS (v.take (i+1))=AS P+BB^(i+1)*(c'+b'):=by
 have hs:=JT (d:=d) hz;have hi:i<v.length:=(List.getElem?_eq_some_iff.1 hx).1;rw[FB hx,Gh (i:=i) (by rw[Ba];omega),BL,IY q,CK,Bx];have e:BB^i*(d+q*x+(c+b))=BB^i*(z+BB*(c'+b')):=by congr 1;rw[BL BB];omega
 rw[BL,BL,BL (BB^i) z]at e;omega
theorem gW {A P:List Nat}{i z d X b c b':Nat}(hz:A[i]?=some z)(hI:AS A+X=AS P+BB^i*(c+b))(h2:d+c+b=z+BB*b'):AS (A.set i d)+X=AS P+BB^(i+1)*b':=by
 have hs:=JT (d:=d) hz;rw[CK,Bx];have e:BB^i*(d+(c+b))=BB^i*(z+BB*b'):=by congr 1;omega
 rw[BL,BL (BB^i) z]at e;omega
theorem gR {A P v:List Nat}{i z x c:Nat}(hz:A[i]?=some z)(hx:v[i]?=some x)(hI:AS A+BB^i*c=AS P+AS (v.take i)):
  AS (A.set i ((z+x+c)%BB))+BB^(i+1)*((z+x+c)/BB)=AS P+AS (v.take (i+1)):=by
 have hs:=JT (d:=(z+x+c)%BB) hz;have hi:i<v.length:=(List.getElem?_eq_some_iff.1 hx).1;rw[FB hx,Gh (i:=i) (by rw[Ba];omega),CK,Bx];have e:BB^i*((z+x+c)%BB+BB*((z+x+c)/BB))=BB^i*(z+x+c):=by rw[Eo]
 rw[BL,BL,BL (BB^i) z]at e;omega
theorem gU {A:List Nat}{i z c X:Nat}(hz:A[i]?=some z)(hI:AS A+BB^i*c=X):
  AS (A.set i ((z+c)%BB))+BB^(i+1)*((z+c)/BB)=X:=by
 have hs:=JT (d:=(z+c)%BB) hz;rw[CK,Bx];have e:BB^i*((z+c)%BB+BB*((z+c)/BB))=BB^i*(z+c):=by rw[Eo]
 rw[BL,BL (BB^i) z]at e;omega
theorem Lg {A P Z:List Nat}{i z:Nat}(h:P[i]?=some z):((A++(P++Z)).map AR)[A.length+i]?=some (AR z):=by
 have hi:i<P.length:=(List.getElem?_eq_some_iff.1 h).1;refine DS ?_;rw[E6 (by omega),Kx,GW hi];exact h
theorem Qs {A P Z:List Nat}{i d:Nat}(hi:i<P.length):((A++(P++Z)).map AR).set (A.length+i) (AR d)=(A++(P.set i d++Z)).map AR:=by
 rw[map_set,NV _ _ (by omega),Kx,List.set_append_left _ _ hi]
set_option maxHeartbeats 2000000
def nj (A P Z v:List Nat)(gq Tq gu:Nat)(qs:List D)(d:D)(H':Hp)(_:Nat):Prop:=
 ∃P':List Nat,P'.length=P.length/\Wd P'/\AS P'=AS P%AS v/\d=AR (AS P/AS v)/\H'=[⟨1505,gq,Tq,1,qs⟩,⟨103,gu,210,1,(A++(P'++Z)).map AR⟩]
theorem oo (A P Z v:List Nat)(m p0 p1 p2 v2 v1:Nat)(S:Mk P v m p0 p1 p2 v2 v1)(hm:A.length+m<4000000)(gq Tq gu:Nat)(qs:List D)(n:Nat):
  Cd C0 229 [.osl 103 gu 1 A.length (m+3),wL v] [⟨1505,gq,Tq,1,qs⟩,⟨103,gu,210,1,(A++(P++Z)).map AR⟩] n (nj A P Z v gq Tq gu qs):=by
 refine Cd.walk w1 b8 rfl λF=>?_
 unfold wL;have hPl:=S.lP;have hvl:=S.lv;have ev:(((v.map AR).length:Nat):Int)=((m+2:Nat):Int):=by rw[Ak,hvl]
 have k1:IntKind.i64.wrap (((m+2:Nat):Int)-1)=((m+1:Nat):Int):=by rw[wI (by omega) (by omega)];omega
 have k2:IntKind.i64.wrap (((m+2:Nat):Int)-2)=(m:Int):=by rw[wI (by omega) (by omega)];omega
 have hp0:=Lg (A:=A) (Z:=Z) S.h0;have hp1:=Lg (A:=A) (Z:=Z) S.h1;have hp2:=Lg (A:=A) (Z:=Z) S.h2;have hv1:=DS S.g1;have hv2:=DS S.g2;have l0:=S.p0l;have l1:=S.p1l;have l2:=S.p2l;have lv1:=S.v1l;have lv2:=S.v2l;refine sR 0 ?_;refine sZ 100 ?_;refine AT ev ?_;refine sR 200 ?_;refine sR 300 ?_;refine Cw (α:=Nat×Nat×Nat×Nat) (λp=>⟨[(0,.osl 103 gu 1 A.length (m+3)),(1,.sl false 1 (v.map AR)),(5,i64 ((m+2:Nat):Int)),(6,AR p.1),(7,AR p.2.1),(8,AR p.2.2.1)],[⟨1505,gq,Tq,1,qs⟩,⟨103,gu,210,1,(A++(P++Z)).map AR⟩],p.2.2.2⟩)
  (λp=>Lq (AS P) (AS v) (p1+BB*p2) v1 p.1 p.2.1 p.2.2.1) ?_ ?_
 ·refine AC.seq ?_
  refine B5 w1 400 [0,1,2,3,4,5,6,7,8] [9] (by kernel_rfl) ?_;refine AD (As kN k1 hp2) ?_;refine Bq kT hv1 ?_;refine AD (As kN k1 hp2) ?_;rcases BG p2 v1 with h|h
  ·have e1:decide ((p2:Int)>=(v1:Int))=false:=Ac (by omega)
   have G:=gx S h;rw[e1];refine AM ?_;refine B5 w1 700 [0,1,2,3,4,5,6,7,8,9,10,11,12,13,14,15,16,17,18] [19] (by kernel_rfl) ?_;refine AD (BW kN k1 hp2 hp1) ?_;refine Bq kT hv1 ?_;refine AD (BW kN k1 hp2 hp1) ?_;refine BX.same _ (Xs p2 p1 v1 h l1 lv1) AJ ?_;refine BN ?_;exact⟨trivial,⟨(p2*BB+p1)/v1,(p2*BB+p1)%v1,0,_⟩,G,AK⟩
  ·have e1:decide ((p2:Int)>=(v1:Int))=true:=AX (by omega)
   have G:=jw S h;rw[e1];refine AM ?_;refine sR 500 ?_;refine B5 w1 600 [0,1,2,3,4,5,6,7,8,9,10,11,12,13,14] [15] (by kernel_rfl) ?_;refine AD (BW kN k1 hp2 hp1) ?_;refine Bq kT hv1 ?_;refine AD (BW kN k1 hp2 hp1) ?_;exact⟨trivial,⟨18446744073709551615,(p1+v1+0)%BB,(p1+v1+0)/BB,_⟩,G,AK⟩
 rintro⟨q0,r0,c0,n0⟩ G0;dsimp only at G0⊢;refine Cw (α:=Nat×Nat) (λp=>⟨[(0,.osl 103 gu 1 A.length (m+3)),(1,.sl false 1 (v.map AR)),(5,i64 ((m+2:Nat):Int)),(6,AR p.1)],[⟨1505,gq,Tq,1,qs⟩,⟨103,gu,210,1,(A++(P++Z)).map AR⟩],p.2⟩)
  (λp=>p.1<BB/\AS P<(p.1+1)*AS v/\p.1*AS v<=AS P+AS v) ?_ ?_
 ·refine AC.block ?_
  refine GT (α:=Nat×Nat×Nat×Nat) (λp=>⟨[(0,.osl 103 gu 1 A.length (m+3)),(1,.sl false 1 (v.map AR)),(5,i64 ((m+2:Nat):Int)),(6,AR p.1),(7,AR p.2.1),(8,AR p.2.2.1)],[⟨1505,gq,Tq,1,qs⟩,⟨103,gu,210,1,(A++(P++Z)).map AR⟩],p.2.2.2⟩)
   (λp=>p.1) (λp F'=>F'=F/\Lq (AS P) (AS v) (p1+BB*p2) v1 p.1 p.2.1 p.2.2.1) (q0,r0,c0,n0) ⟨rfl,G0⟩ AK ?_
  rintro⟨q,r,c,n1⟩ F' ⟨rfl,G⟩;dsimp only at G⊢;refine AC.seq ?_;refine AC.seq ?_;rcases Dk c with hc|hc
  ·subst hc
   have e8:(((0:Nat):Int)==0)=true:=rfl;refine Ao w1 800 (by kernel_rfl) ?_;refine AT e8 ?_;refine AM ?_;refine An ?_;refine AC.block ?_;have lq:=G.qB;have cm:=OF q v2 lq lv2;refine sZ 900 ?_;refine AD (Aj kN k2) ?_;refine Bq kT hv2 ?_;refine AD (Aj kN k2) ?_;refine BD.same _ cm AJ ?_;refine BN ?_;have ht:=i7 (x:=q*v2) (r:=r) l0;obtain⟨b,hb⟩:∃b:Bool,b=decide (q*v2<=r*BB+p0):=⟨_,rfl⟩
   refine AC.seq ?_;refine EU ⟨[(0,.osl 103 gu 1 A.length (m+3)),(1,.sl false 1 (v.map AR)),(5,i64 ((m+2:Nat):Int)),(6,AR q),(7,AR r),(91,Aq b)],[⟨1505,gq,Tq,1,qs⟩,⟨103,gu,210,1,(A++(P++Z)).map AR⟩],n1+100⟩ ?_ ?_
   ·change(q*v2/18446744073709551616<r\/q*v2/18446744073709551616=r/\q*v2%18446744073709551616<=p0)↔_ at ht
    generalize q*v2/18446744073709551616=hi at*;generalize q*v2%18446744073709551616=lo at*;rcases BG hi r with h|h
    ·have e1:decide ((hi:Int)<(r:Int))=true:=AX (by omega)
     have hb1:b=true:=by rw[hb];exact AX (ht.1 (.inl h))
     subst hb1;refine Ao w1 1000 (by kernel_rfl) ?_;refine AD e1 ?_;refine AD kT ?_;exact And.intro (by trivial) (AK)
    ·have e1:decide ((hi:Int)<(r:Int))=false:=Ac (by omega)
     rcases Nat.eq_or_lt_of_le h with h2|h2
     ·have e2:((hi:Int)==(r:Int))=true:=EB.2 (by omega)
      have e3:decide ((lo:Int)<=(p0:Int))=b:=by
       rw[hb];exact C4.2 ⟨λh3=>ht.1 (.inr ⟨h2.symm,by omega⟩),λh3=>by rcases ht.2 h3 with h4|h4<;>omega⟩
      refine Ao w1 1000 (by kernel_rfl) ?_;refine AD e1 ?_;refine AD (Aj kF e2) ?_;refine AD (EM kF e2 kN k2 hp0 e3) ?_;exact And.intro (by trivial) (AK)
     ·have e2:((hi:Int)==(r:Int))=false:=Bs.2 (by omega)
      have hb1:b=false:=by rw[hb];exact Ac λh3=>by rcases ht.2 h3 with h4|h4<;>omega
      subst hb1;refine Ao w1 1000 (by kernel_rfl) ?_;refine AD e1 ?_;refine AD kF ?_;simp only[e2];refine AD (Aj kF Hx) ?_;exact And.intro (by trivial) (AK)
   ·cases b
    ·have hn:=DN hb.symm
     obtain⟨hq0,G2⟩:=iZ S G (by omega);have j1:IntKind.u64.wrap ((q:Int)-1)=((q-1:Nat):Int):=by rw[wU (by omega) (by have:=G.qB;unfold BB at this;omega)];omega
     refine AM ?_;refine An ?_;refine sZ 1100 ?_;refine AT j1 ?_;refine Ao w1 1200 (by kernel_rfl) ?_;refine AD (Aj kN k1) ?_;refine Bq kT hv1 ?_;refine AD (Aj kN k1) ?_;exact⟨(q-1,(r+v1+0)%BB,(r+v1+0)/BB,_),⟨trivial,G2⟩,by dsimp only;omega,AK⟩
    ·have hn:=Cz hb.symm
     refine AM ?_;refine B6 ?_;exact⟨rfl,⟨q,_⟩,⟨G.qB,G.up,Wc S G (.inr hn)⟩,AK⟩
  ·have e8:((c:Int)==0)=false:=Bs.2 (by omega)
   refine Ao w1 800 (by kernel_rfl) ?_;refine AT e8 ?_;refine AM ?_;refine B6 ?_;exact⟨rfl,⟨q,_⟩,⟨G.qB,G.up,Wc S G (.inl hc)⟩,AK⟩
 rintro⟨q,n1⟩ ⟨hq,hup,hdn⟩;dsimp only at hq hup hdn⊢;clear hp0 hp1 hp2;refine sR 1300 ?_;refine AC.seq ?_;refine sR 1400 ?_;refine AC.block ?_;refine AC.loop (α:=Nat×Nat×Nat×List Nat×Nat) (λp=>⟨[(0,.osl 103 gu 1 A.length (m+3)),(1,.sl false 1 (v.map AR)),(5,i64 ((m+2:Nat):Int)),(6,AR q),(11,AR p.2.1),(12,AR p.2.2.1),(104,i64 ((m+2:Nat):Int)),(105,i64 p.1)],[⟨1505,gq,Tq,1,qs⟩,⟨103,gu,210,1,(A++(p.2.2.2.1++Z)).map AR⟩],p.2.2.2.2⟩) (λp=>m+2-p.1)
  (λp=>p.1<=m+2/\p.2.1<=1/\p.2.2.1<BB/\p.2.2.2.1.length=m+3/\Wd p.2.2.2.1/\AS p.2.2.2.1+q*AS (v.take p.1)=AS P+BB^p.1*(p.2.2.1+p.2.1)) (0,0,0,P,_) ⟨BS _,BS _,(show 0<BB by decide),hPl,S.wP,by simp[AS]⟩ AK ?_
 rintro⟨i,b,c,p,n2⟩ F ⟨hi,hb,hc,hpl,hpw,hI⟩;dsimp only at hi hb hc hpl hpw hI⊢;have hv1':=hv1;clear hv1 hv2;refine sR 1500 ?_;refine AC.seq ?_;refine AM ?_
 (refine Bw (λhlt=>?_) (λhlt=>?_))<;>(try simp only[Bi,Bu]at hlt)<;>(try simp only[hlt])
 ·have hi2:i<m+2:=by
   have:=Cz hlt
   omega
  obtain⟨x,hx⟩:=CR (l:=v) (i:=i) (by omega);have hx':=DS hx;have hxl:x<BB:=S.wv x (Av hx);obtain⟨z,hz⟩:=CR (l:=p) (i:=i) (by omega);have hz':=Lg (A:=A) (Z:=Z) hz;have hzl:z<BB:=hpw z (Av hz);have cm:=OF q x hq hxl;have md:=il hq hxl hc;obtain⟨h,l,lo,k,c',eh,el,elo,ek,ec,hlo,hc',hmd⟩:∃h l lo k c',q*x/18446744073709551616=h/\q*x%18446744073709551616=l/\(l+c+0)%18446744073709551616=lo/\(l+c+0)/18446744073709551616=k/\h+k=c'/\lo<BB/\c'<BB/\lo+BB*c'=q*x+c:=
   ⟨_,_,_,_,_,rfl,rfl,rfl,rfl,rfl,B1 _ (by decide),md.2,md.1⟩
  rw[eh,el]at cm;have j1:IntKind.u64.wrap ((h:Int)+(k:Int))=(c':Int):=by rw[<-Int.natCast_add,ec];exact Vr hc'
  have hsub:=Tg (a:=z) (b:=lo) hb;have hdig:=TJ hzl hlo hb;have hb':(if z<lo+b then 1 else 0)<=1:=by split<;>decide
  have hd:(z+BB-lo-b)%BB<BB:=B1 _ (by decide);generalize(if z<lo+b then 1 else 0)=b' at*;generalize(z+BB-lo-b)%BB=d at*;have wi:IntKind.i64.wrap ((i:Int)+1)=((i+1:Nat):Int):=wI (by omega) (by omega);refine An ?_;refine AC.seq ?_;refine AC.block ?_;refine sR 1600 ?_;refine sZ 1700 ?_;refine AD kN ?_;refine Bq kT hx' ?_;refine AD kN ?_;refine BD.same _ cm AJ ?_;refine BN ?_;refine sR 1800 ?_;refine sZ 1900 ?_;refine AT (Aj elo ek) ?_;refine sZ 2000 ?_;refine AT j1 ?_;refine Ao w1 2100 (by kernel_rfl) ?_;refine AD (Aj kN hz') ?_
  first|(refine D6 rfl rfl ?_;refine Qj rfl rfl (hsub) ?_)|(refine Eb rfl rfl ?_;refine OV rfl rfl (hsub) ?_)
  refine AD (Aj kN hz') ?_;rw[Qs (by omega)];refine Ao w1 2200 (by kernel_rfl) ?_;refine AT wi ?_;exact⟨(i+1,b',c',p.set i d,_),⟨hi2,hb',hc',by dsimp only;rw[DE];exact hpl,hpw.set hd,g9 hz hx hI hmd hdig⟩,by dsimp only;omega,AK⟩
 ·have hi2:i=m+2:=by
   have:=DN hlt
   omega
  subst hi2;rw[CA (by omega)]at hI;obtain⟨z,hz⟩:=CR (l:=p) (i:=m+2) (by omega);have hz':=Lg (A:=A) (Z:=Z) hz;have hzl:z<BB:=hpw z (Av hz);have hsub:=Tg (a:=z) (b:=c) hb;have hdig:=TJ hzl hc hb;have hb':(if z<c+b then 1 else 0)<=1:=by split<;>decide
  have hd:(z+BB-c-b)%BB<BB:=B1 _ (by decide);generalize(if z<c+b then 1 else 0)=b' at*;generalize(z+BB-c-b)%BB=d at*;have hT:=gW hz hI hdig;have hml:m+2<p.length:=by omega
  refine B6 ?_;refine sZ 2300 ?_;refine AD (Aj kN hz') ?_
  first|(refine D6 rfl rfl ?_;refine Qj rfl rfl (hsub) ?_)|(refine Eb rfl rfl ?_;refine OV rfl rfl (hsub) ?_)
  refine AD (Aj kN hz') ?_;rw[Qs hml];have hpl2:(p.set (m+2) d).length=m+3:=by rw[DE];exact hpl
  have hpw2:=hpw.set (i:=m+2) hd;clear hz' hz hdig hsub hI;generalize p.set (m+2) d=p2 at*;refine AC.seq ?_;refine AC.seq ?_;rcases Dk b' with hb0|hb0
  ·subst hb0
   have e24:(((0:Nat):Int)==0)=true:=rfl;obtain⟨ed,em⟩:=TG hT hup;refine Ao w1 2400 (by kernel_rfl) ?_;refine AT e24 ?_;refine AM ?_;refine sR 2500 ?_;refine Ah ?_;exact⟨p2,by omega,hpw2,em.symm,by rw[ed],rfl⟩
  ·have hb1:b'=1:=by omega
   subst hb1;have e24:(((1:Nat):Int)==0)=false:=rfl;have hpL:=Hc hpw2;rw[hpl2]at hpL;refine Ao w1 2400 (by kernel_rfl) ?_;refine AT e24 ?_;refine AM ?_;refine An ?_;refine sR 2600 ?_;refine AC.seq ?_;refine sR 2700 ?_;refine AC.block ?_;refine AC.loop (α:=Nat×Nat×List Nat×Nat) (λp=>⟨[(0,.osl 103 gu 1 A.length (m+3)),(1,.sl false 1 (v.map AR)),(5,i64 ((m+2:Nat):Int)),(6,AR q),(17,AR p.2.1),(156,i64 ((m+2:Nat):Int)),(157,i64 p.1)],[⟨1505,gq,Tq,1,qs⟩,⟨103,gu,210,1,(A++(p.2.2.1++Z)).map AR⟩],p.2.2.2⟩) (λp=>m+2-p.1)
    (λp=>p.1<=m+2/\p.2.1<=1/\p.2.2.1.length=m+3/\Wd p.2.2.1/\AS p.2.2.1+BB^p.1*p.2.1=AS p2+AS (v.take p.1)) (0,0,p2,_) ⟨BS _,BS _,hpl2,hpw2,by simp[AS]⟩ AK ?_
   rintro⟨i,c3,p3,n3⟩ F ⟨hi,hc3,hpl3,hpw3,hI⟩;dsimp only at hi hc3 hpl3 hpw3 hI⊢;refine sR 2800 ?_;refine AC.seq ?_;refine AM ?_
   (refine Bw (λhlt=>?_) (λhlt=>?_))<;>(try simp only[Bi,Bu]at hlt)<;>(try simp only[hlt])
   ·have hi2:i<m+2:=by
     have:=Cz hlt
     omega
    obtain⟨x,hx⟩:=CR (l:=v) (i:=i) (by omega);have hx':=DS hx;have hxl:x<BB:=S.wv x (Av hx);obtain⟨z,hz⟩:=CR (l:=p3) (i:=i) (by omega);have hz':=Lg (A:=A) (Z:=Z) hz;have hzl:z<BB:=hpw3 z (Av hz);have hadd:=Xh (a:=z) (b:=x) hc3;have J:=gR hz hx hI;have hs:(z+x+c3)%BB<BB:=B1 _ (by decide);have hc':(z+x+c3)/BB<=1:=by
     have:z+x+c3<2*BB:=by omega
     exact Na (E3 (by rw[BP];exact this))
    generalize(z+x+c3)%BB=d at*;generalize(z+x+c3)/BB=c' at*;have wi:IntKind.i64.wrap ((i:Int)+1)=((i+1:Nat):Int):=wI (by omega) (by omega);refine An ?_;refine AC.seq ?_;refine AC.block ?_;refine sR 2900 ?_;refine PI w1 3000 [0,1,2,3,4,5,6,7,8,9,10,11,12,13,14,15,16] [17] 16 [12,10,9,8,7,6,5,4,3,2,1,0,11,13,15] (103) (by kernel_rfl) (by kernel_rfl) ?_;refine Au ?_;refine MG (Aj kN hz') ?_;refine MP rfl rfl rfl rfl ?_;refine Mt (λ_ _=>rfl) (by exact B8) ⟨rfl,by omega⟩ hx' ?_
    try dsimp only[D.cells,spot]
    refine MG (Aj kN hz') ?_;refine MP rfl rfl rfl rfl ?_;refine OV rfl rfl hadd ?_;refine MG (Aj kN hz') ?_;refine And.intro (by first|exact Or.inl AB|exact Or.inl rfl) ?_;refine AD kN ?_;rw[Qs (by omega)];refine Ao w1 3100 (by kernel_rfl) ?_;refine AT wi ?_;exact⟨(i+1,c',p3.set i d,_),⟨hi2,hc',by dsimp only;rw[DE];exact hpl3,hpw3.set hs,J⟩,by dsimp only;omega,AK⟩
   ·have hi2:i=m+2:=by
     have:=DN hlt
     omega
    subst hi2;rw[CA (l:=v) (by omega)]at hI;obtain⟨z,hz⟩:=CR (l:=p3) (i:=m+2) (by omega);have hz':=Lg (A:=A) (Z:=Z) hz;have hzl:z<BB:=hpw3 z (Av hz);have J:=gU hz hI;have hs:(z+c3)%BB<BB:=B1 _ (by decide);have hc':(z+c3)/BB<=1:=by
     have:z+c3<2*BB:=by omega
     exact Na (E3 (by rw[BP];exact this))
    have j1:IntKind.u64.wrap ((z:Int)+(c3:Int))=(((z+c3)%BB:Nat):Int):=by rw[<-Int.natCast_add];exact Il _
    generalize(z+c3)%BB=d at*;generalize(z+c3)/BB=c' at*;have hml:m+2<p3.length:=by omega
    have hpl4:(p3.set (m+2) d).length=m+3:=by rw[DE];exact hpl3
    have hpw4:=hpw3.set (i:=m+2) hs;have hpL4:=Hc hpw4;rw[hpl4]at hpL4;obtain⟨q0p,ed,em⟩:=XK (by rw[EC]at hT;exact hT) hpL hdn J hc' hpL4;have j2:IntKind.u64.wrap ((q:Int)-1)=((q-1:Nat):Int):=by rw[wU (by omega) (by unfold BB at hq;omega)];omega
    refine B6 ?_;refine sZ 3200 ?_;refine AD (As kN hz' j1) ?_;rw[Qs hml];refine sZ 3300 ?_;refine AT j2 ?_;refine Ah ?_;exact⟨p3.set (m+2) d,by omega,hpw4,em.symm,by rw[ed],rfl⟩
theorem Cd.toP {C:BC}{f:Nat}{args:List D}{Φ:D->Hp->Nat->Prop}{Ψ:D->Prop}(h:Cd C f args [] 0 Φ)(k:∀d H n,Φ d H n->∃d',Fz H [] d d'/\B4 d'/\Ψ d'):Ag C f args Ψ:=by
 refine⟨h.1,λY w vs hG hnG hX' hvs hr=>?_⟩
 let F0:Ab:=⟨w,Y,λ_=>False,0,nol,[]⟩
 have m0:Ap C F0 nol [] w:=⟨⟨by simp,.nil,by simp⟩,rfl,rfl,rfl,Af _,λ_ _ _=>rfl,hX',hG,hnG,by simp[F0],λ_ _ _ h=>h,λ_ cs _ _ h=>⟨cs,_,h,rfl⟩⟩
 have hoe:AN F0.X nol []=Y:=funext λb=>propext (by simp[AN,F0])
 refine(h.2 F0 nol w vs m0 (λ_ _ _=>rfl) (by simp) hvs (λi d hd=>by rw[hoe];exact hr i d hd)).mono ?_;rintro e w' ⟨v,d,H',n',ρ',rfl,hΦ,m,x,fr,g,r⟩;obtain⟨d',h3,h4,h5⟩:=k d H' n' hΦ;have hH:Cg H' [] H' []:=by
  generalize H'=H0
  have:∀H1:Hp,Cg H0 [] H1 []:=λH1=>by
   induction H1 with
   |nil=>exact .nil
   |cons e r ih=>exact .drop ih
  exact this H0
 obtain⟨m2,hO,hN⟩:=hH.mem m;have r3:=h3.rep m hO hN r;have r4:=h4 _ nol _ _ _ r3;exact⟨v,d',rfl,⟨m.os,m.tape,m.output,m.size,λb hb=>m.blk b hb (by simp[F0])⟩,h5,r4.anti λb hb=>.inl hb⟩
theorem ay {H Hf:Hp}{a a' b b':D}(h1:Fz H Hf a a')(h2:Fz H Hf b b'):Fz H Hf (.tup [a,b]) (.tup [a',b']):=
 .tup rfl λi d d' hd hd'=>by
  match i with
  | 0=>simp at hd hd';subst hd;subst hd';exact h1
  | 1=>simp at hd hd';subst hd;subst hd';exact h2
  |i+2=>simp at hd
theorem YE {a b:D}(h1:B4 a)(h2:B4 b):B4 (.tup [a,b]):=B4.tup λd hd=>by
 simp only[A8,DW,or_false]at hd;rcases hd with rfl|rfl
 ·exact h1
 ·exact h2
theorem gt (K g T:Nat)(l l':List Nat)(h:l.take l'.length=l'):Fz [⟨K,g,T,1,l.map AR⟩] [] (.osl K g 1 0 l'.length) (wL l'):=by
 have hll:l'.length<=l.length:=by
  have:=congrArg List.length h
  rw[Ba]at this;omega
 have key:∀(j:Nat) (d d':D),(l.map AR)[0+j]?=some d->(l'.map AR)[j]?=some d'->d=d':=λj d d' h1 h2=>by
  rw[<-h,A7,Em]at h2;rw[BU,A7]at h1;split at h2
  ·rw[h1]at h2;exact F3 h2
  ·simp at h2
 refine .osl (e:=⟨K,g,T,1,l.map AR⟩) (by simp[Hp.get]) rfl rfl rfl (by simp;exact hll) (by simp) (λj d d' h1 h2=>by rw[key j d d' h1 h2]) λj d d' q c c' h1 h2 h3 h4=>?_
 rw[key j d d' h1 h2]at h3;rw[h3]at h4;cases h4;exact Fz.refl _
theorem qS:wD 0=.sl false 1 []:=by unfold wD;rw[Fi];rfl
theorem kP (w:List Nat)(s:Nat)(hs:s<=63)(hw:Wd w)(hl:w.length<4000000):Ag C0 228 [wL w,i64 s] (λd=>∃out:List Nat,out.length=w.length+1/\Wd out/\AS out=AS w*2^s/\d=wL out):=
 (W4 w s hs hw hl [] 0).toP λd H n ⟨out,g,h1,h2,h3,h4,h5,_⟩=>by
  subst h4;subst h5;refine⟨wL out,?_,KR _,out,h1,h2,h3,rfl⟩
  have:=gt 103 g 210 out out (by simp)
  rw[h1]at this;exact this
theorem kC {n k:Nat}(h1:BB^k<=n)(h2:n<BB^(k+1)):(Ad n).length=k+1:=by
 have h3:=Gw h2;have h4:=DY h1 (JQ n);have h5:=(Nat.pow_lt_pow_iff_right (show 1<BB by decide)).1 h4;omega
theorem Sx:∀(n:Nat) {k a:Nat},(Ad n).length=k+1->(Ad n)[k]?=some a->a≠0:=λn=>by
 induction n using Nat.strongRecOn with
 |ind n ih=>
  intro k a h1 h2
  by_cases h0:n=0
  ·subst h0;rw[Fi]at h1;cases h1
  ·rw[F8 h0]at h1 h2
   rw[Bo]at h1;have h3:=Nat.succ.inj h1;cases k with
   |zero=>
    have h4:Ad (n/BB)=[]:=E5 h3;have h5:n/BB=0:=by rw[<-Er (n/BB),h4];rfl
    have h6:=Eo n BB;rw[h5]at h6;simp at h2;intro h7;subst h7;rw[h2]at h6;omega
   |succ k=>
    rw[Jy]at h2;exact ih _ (Hw (D3 h0) (by decide)) h3 h2
theorem YP {n k:Nat}(h:(Ad n).length=k+1):BB^k<=n:=by
 obtain⟨a,ha⟩:=CR (l:=Ad n) (i:=k) (by omega);have h1:=Sx n h ha;have h2:=Vb h ha;rw[Er]at h2;have h3:=CY (BB^k) (show 1<=a by omega);omega
theorem us {b m y s:Nat}(hs:s<=63)(hl:(Ad b).length=m+1)(hy:(Ad b)[m]?=some y)(h:y*2^s<BB):(Ad (b*2^s)).length=m+1:=by
 have hp:0<2^s:=Gs s;have hpp:2^(64-s)*2^s=BB:=by rw[<-Fw,show 64-s+s=64 by omega]
 have h1:y<2^(64-s):=by
  rw[<-hpp]at h;exact Nat.lt_of_mul_lt_mul_right h
 refine kC ?_ ?_
 ·have:=YP hl
  exact BQ this (Nat.le_mul_of_pos_right _ hp)
 ·have h2:=Vb hl hy
  have h3:=Hc ((FC b).take m);rw[Ba,hl,E8 (by omega)]at h3;rw[Er]at h2;have h4:b<BB^m*(y+1):=by rw[BL,EC];omega
  have h5:BB^m*(y+1)<=BB^m*2^(64-s):=CY _ h1;have h6:b*2^s<BB^m*2^(64-s)*2^s:=SJ (CU h4 h5) hp;rw[Bx,hpp]at h6;exact h6
theorem Xw {l:List Nat}{j a:Nat}(h:l[j]?=some a):AS (l.drop j)=a+BB*AS (l.drop (j+1)):=by
 have hj:j<l.length:=(List.getElem?_eq_some_iff.1 h).1;rw[EK hj,(List.getElem?_eq_some_iff.1 h).2];rfl
theorem QW {l:List Nat}{j a:Nat}(h:j<l.length):(l.set j a).drop j=a::l.drop (j+1):=by
 rw[EK (by rw[DE];exact h)]
 congr 1
 ·exact List.getElem_set_self _
 ·rw[List.drop_set_of_lt (by omega)]
theorem iT {a q:List Nat}{j x b rest:Nat}(hb:0<b)(hx:a[j]?=some x)(hj:j<q.length)(hI:AS (q.drop (j+1))*b+rest=AS (a.drop (j+1))):
  AS ((q.set j ((rest*BB+x)/b)).drop j)*b+(rest*BB+x)%b=AS (a.drop j)/\(rest*BB+x)%b<b:=by
 refine⟨?_,B1 _ hb⟩;rw[QW hj,Xw hx,<-hI,AS];have e:=EW (rest*BB+x) b;rw[Bv,BL BB,Bx BB,BP BB rest,BP _ b];omega
theorem QC {q b r a:Nat}(h:q*b+r=a)(hr:r<b):q=a/b/\r=a%b:=by
 subst h;rw[BP];exact⟨by rw[Nat.mul_add_div (by omega),HL hr,DX],by rw[Nat.mul_add_mod,Dd hr]⟩
structure Lf (X:Nat)(v U q:List Nat)(lu lq k:Nat):Prop where
 lU:U.length=lu
 lQ:q.length=lq
 wU:Wd U
 wq:Wd q
 val:BB^k*AS (q.drop k)*AS v+AS U=X
 less:AS (U.drop k)<AS v
theorem fE {U:List Nat}(j n:Nat):U=U.take j++((U.drop j).take n++U.drop (j+n)):=by
 rw[<-List.drop_drop,E2,E2]
theorem mN {X:Nat}{v U q:List Nat}{lu lq j m:Nat}(I:Lf X v U q lu lq (j+1))(hv:v.length=m+2)(wv:Wd v)(v1 v2:Nat)(h2:v[m]?=some v2)(h1:v[m+1]?=some v1)(ht:0<v1)(hj:j+(m+3)<=lu):
  ∃p0 p1 p2,Mk ((U.drop j).take (m+3)) v m p0 p1 p2 v2 v1/\AS (U.drop (j+(m+3)))=0/\AS ((U.drop j).take (m+3))=AS (U.drop j):=by
 obtain⟨lU,lQ,wU,wq,val,less⟩:=I;obtain⟨x,hx⟩:=CR (l:=U) (i:=j) (by omega);have hxl:=wU x (Av hx);have e1:=Xw hx;have hlt:AS (U.drop j)<AS v*BB:=by
  have:BB*(AS (U.drop (j+1))+1)<=BB*AS v:=CY _ less
  rw[BL,BP BB (AS v)]at this;omega
 have hPl:((U.drop j).take (m+3)).length=m+3:=by rw[Ba,Dq];omega
 have e2:AS (U.drop j)=AS ((U.drop j).take (m+3))+BB^(m+3)*AS (U.drop (j+(m+3))):=by
  conv=>lhs;rw[<-E2 (m+3) (U.drop j)]
  rw[KE,hPl,List.drop_drop]
 have hvl:=Hc wv;rw[hv]at hvl;have hz:AS (U.drop (j+(m+3)))=0:=by
  rcases Dk (AS (U.drop (j+(m+3))))with h|h
  ·exact h
  ·exfalso
   have e3:BB^(m+3)*1<=BB^(m+3)*AS (U.drop (j+(m+3))):=CY _ h;have e4:AS v*BB<=BB^(m+2)*BB:=CI _ (J3 hvl);have e5:BB^(m+2)*BB=BB^(m+3):=(CK BB (m+2)).symm;rw[e5]at e4;omega
 rw[hz,EY,DX]at e2;obtain⟨p0,h0⟩:=CR (l:=(U.drop j).take (m+3)) (i:=m) (by omega);obtain⟨p1,h3⟩:=CR (l:=(U.drop j).take (m+3)) (i:=m+1) (by omega);obtain⟨p2,h4⟩:=CR (l:=(U.drop j).take (m+3)) (i:=m+2) (by omega);exact⟨p0,p1,p2,⟨hPl,hv,λa ha=>wU a (Jv (El ha)),wv,h0,h3,h4,h2,h1,ht,by rw[<-e2];exact hlt⟩,hz,e2.symm⟩
theorem mM {X:Nat}{v U q P':List Nat}{lu lq j m:Nat}(I:Lf X v U q lu lq (j+1))(hv:0<AS v)(hj:j+(m+3)<=lu)(hjq:j<lq)(hz:AS (U.drop (j+(m+3)))=0)(hP:AS ((U.drop j).take (m+3))=AS (U.drop j))
  (h1:P'.length=m+3) (h2:Wd P') (h3:AS P'=AS ((U.drop j).take (m+3))%AS v) (hd:AS ((U.drop j).take (m+3))/AS v<BB):
  Lf X v (U.take j++(P'++U.drop (j+(m+3)))) (q.set j (AS ((U.drop j).take (m+3))/AS v)) lu lq j:=by
 obtain⟨lU,lQ,wU,wq,val,less⟩:=I;have hA:(U.take j).length=j:=by rw[Ba];omega
 have e0:AS U=AS (U.take j)+BB^j*AS (U.drop j):=by
  conv=>lhs;rw[<-E2 j U]
  rw[KE,hA]
 have e1:AS (P'++U.drop (j+(m+3)))=AS P':=by rw[KE,hz,EY,DX]
 refine⟨?_,by rw[DE];exact lQ,?_,wq.set hd,?_,?_⟩
 ·rw[Bh,Bh,hA,h1,Dq];omega
 ·exact Wd.append (wU.take j) (Wd.append h2 λa ha=>wU a (Jv ha))
 ·rw[QW (by omega),AS,KE,hA,e1,h3,hP]
  rw[e0]at val;have e2:=EW (AS (U.drop j)) (AS v);have e3:BB^(j+1)*AS (q.drop (j+1))*AS v=BB^j*(BB*AS (q.drop (j+1))*AS v):=by
   rw[CK,Bx,Bx,Bx]
  rw[e3]at val;have e4:BB^j*AS (U.drop j)=BB^j*(AS v*(AS (U.drop j)/AS v))+BB^j*(AS (U.drop j)%AS v):=by
   rw[<-BL,e2]
  rw[Bx,Bv,BL,BP (AS (U.drop j)/AS v)];omega
 ·rw[List.drop_left' hA,e1,h3]
  exact B1 _ hv
theorem je {a b s:Nat}{U v:List Nat}{k lu lq:Nat}(hU:AS U=a*2^s)(hv:AS v=b*2^s)(wU:Wd U)(lU:U.length=lu){q:List Nat}(hq:q=List.replicate lq 0)(hk:lq<=k)
  (hab:a<BB^k*b):Lf (a*2^s) v U q lu lq k:=by
 subst hq;refine⟨lU,Id,wU,MW _,?_,?_⟩
 ·rw[HO (by rw[Id];exact hk)]
  rw[show AS []=0 from rfl,EY,Gt,BU,hU]
 ·rcases BG (AS (U.drop k)) (AS v)with h|h
  ·exact h
  ·exfalso
   have e0:AS U=AS (U.take k)+BB^(U.take k).length*AS (U.drop k):=by
    conv=>lhs;rw[<-E2 k U]
    rw[KE]
   have hp:0<2^s:=Gs s;have h3:a*2^s<BB^k*b*2^s:=SJ hab hp;rw[Bx,<-hv]at h3;rcases BG U.length k with hl|hl
   ·rw[HO (by omega)]at h
    rw[show AS []=0 from rfl]at h;rw[Nat.le_zero.1 h,EY]at h3;omega
   ·rw[Ba,E8 hl]at e0
    have:=CY (BB^k) h
    omega
theorem mL {a b s:Nat}{v U q:List Nat}{lu lq:Nat}(I:Lf (a*2^s) v U q lu lq 0)(hv:AS v=b*2^s):AS q=a/b/\AS U=a%b*2^s:=by
 obtain⟨lU,lQ,wU,wq,val,less⟩:=I;simp only[MD,JH,Fd]at val less;obtain⟨h1,h2⟩:=QC val less;rw[hv,PU _ _ (Gs s)]at h1;rw[hv,PV]at h2;exact⟨h1,h2⟩
structure OM (U u:List Nat)(s i:Nat):Prop where
 len:u.length=U.length
 wd:Wd u
 rest:∀k,i<=k->u[k]?=U[k]?
 val:∀c,U[i]?=some c->AS (U.take i)+BB^i*(c%2^s)=2^s*AS (u.take i)
theorem iV {U:List Nat}{s r:Nat}(wU:Wd U)(h:AS U=r*2^s)(hs:s<=63):OM U U s 0:=by
 refine⟨rfl,wU,λ_ _=>rfl,λc hc=>?_⟩;have e:=KS hc;simp only[MC,MD,JH,AS,BU,EY]at e⊢;have hpp:2^(64-s)*2^s=BB:=by rw[<-Fw,show 64-s+s=64 by omega]
 have e1:(AS U)%2^s=0:=by rw[h];exact Nat.mul_mod_left _ _
 rw[e,<-hpp,Nat.mul_right_comm,Nat.add_mul_mod_self_right]at e1;exact e1
theorem WW {c d s:Nat}(hs:s<=63)(hc:c<BB):c/2^s ||| d*2^(64-s)%BB=c/2^s+d%2^s*2^(64-s)/\c/2^s+d%2^s*2^(64-s)<BB /\
  c%2^s+2^s*(c/2^s+d%2^s*2^(64-s))=c+BB*(d%2^s):=by
 have hpp:2^s*2^(64-s)=BB:=by rw[<-Fw,show s+(64-s)=64 by omega]
 have h1:d*2^(64-s)%BB=d%2^s*2^(64-s):=by rw[<-hpp,PV]
 have h2:c/2^s<2^(64-s):=E3 (by rw[hpp];exact hc);have h3:d%2^s<2^s:=B1 _ (Gs s);have h4:(d%2^s+1)*2^(64-s)<=2^s*2^(64-s):=CI _ h3;rw[hpp,Bv,JH]at h4;have e:=Eo c (2^s);refine⟨?_,by omega,?_⟩
 ·rw[h1,Nat.or_comm,Uc h2,Kz]
 ·rw[BL,IY,hpp,BP (d%2^s)]
  omega
theorem jk {U u:List Nat}{s i c d:Nat}(hs:s<=63)(wU:Wd U)(I:OM U u s i)(hc:U[i]?=some c)(hd:U[i+1]?=some d):
  OM U (u.set i (c/2^s+d%2^s*2^(64-s))) s (i+1):=by
 obtain⟨len,wd,rest,val⟩:=I;have hcl:=wU c (Av hc);obtain⟨_,e2,e3⟩:=WW (d:=d) hs hcl;have hi:i<U.length:=(List.getElem?_eq_some_iff.1 hc).1;refine⟨by rw[DE];exact len,wd.set e2,λk hk=>?_,λc' hc'=>?_⟩
 ·rw[Ie (by omega)];exact rest k (by omega)
 ·rw[hd]at hc'
  cases hc';have v0:=val c hc;rw[QX (by omega),Gh (i:=i) (by rw[Ba];omega),FB hc,Gh (i:=i) (by rw[Ba];omega),BL,<-v0,CK,Bx,IY (2^s)];have e4:BB^i*(c%2^s+2^s*(c/2^s+d%2^s*2^(64-s)))=BB^i*(c+BB*(d%2^s)):=by rw[e3]
  rw[BL,BL (BB^i) c]at e4;omega
theorem ji {U u:List Nat}{s n r:Nat}(I:OM U u s n)(hn:n<U.length)(hU:AS U=r*2^s)(hl:AS U<BB^n):AS (u.take n)=r:=by
 obtain⟨c,hc⟩:=CR hn;have e:=KS hc;have hz:c+BB*AS (U.drop (n+1))=0:=by
  rcases Dk (c+BB*AS (U.drop (n+1)))with h|h
  ·exact h
  ·have:=CY (BB^n) h
   omega
 have hc0:c=0:=by omega
 subst hc0;have v0:=I.val 0 hc;rw[hz,EY,DX]at e;rw[Nat.zero_mod,EY,DX,<-e,hU,BP]at v0;exact(Nat.eq_of_mul_eq_mul_left (Gs s) v0).symm
theorem Yx {a b:Nat}(h:a<b):decide (Dx (a:Int) (b:Int)<0)=true:=AX (by unfold Dx;split<;>(try split)<;>omega)
theorem Qb {a b:Nat}(h:b<=a):decide (Dx (a:Int) (b:Int)<0)=false:=Ac (by unfold Dx;split<;>(try split)<;>omega)
theorem qT {env:Ar}{t K g n N t2:Nat}{z:List Nat}{T:Nat}{d2:D}(hl:z.length=N)(he:env.get t=.osl K g 1 0 N:=by exact rfl)(h2:env.get t2=d2:=by exact rfl):Wk ⟨env,[⟨K,g,T,1,z.map AR⟩],n⟩ ⟨[(t,.sl false 1 (z.map AR)),(t2,d2)],[],n⟩:=by
 subst hl;refine⟨.drop .nil,⟨?_,?_,trivial⟩,Af _⟩
 ·dsimp only
  rw[he]
  have:=RM K g T 1 (z.map AR)
  rwa [Ak]at this
 ·dsimp only
  rw[h2];exact .refl _
theorem jg (a b:Nat)(hab:a<b)(ha:(Ad a).length<1000000)(hb:(Ad b).length<1000000):AI C0 168 [wD a,wD b] (.tup [wD (a/b),wD (a%b)]):=by
 rw[HL hab,Dd hab,qS];refine Ag.walk w1 RH rfl λF=>?_
 have cc:=Qc a b (by omega) (by omega);have e1:=Yx hab;refine sR 0 ?_;refine AC.seq ?_;refine sR 100 ?_;refine cI cc ?_;rw[e1];refine AM ?_;refine sR 200 ?_;refine Ah ?_;exact⟨_,ay (.nil 1) (.refl _),YE (.sl λe he=>by cases he) (KR _),rfl⟩
theorem mO (a b:Nat)(hab:b<=a)(ha:(Ad a).length<1000000)(hb:(Ad b).length=1)(hb0:b≠0):AI C0 168 [wD a,wD b] (.tup [wD (a/b),wD (a%b)]):=by
 have cc:=Qc a b (by omega) (by omega);have e1:=Qb hab;have hbl:b<BB:=by
  have:=JQ b
  rw[hb,Nat.pow_one]at this;exact this
 have hlb:(Ad b)[0]?=some b:=by rw[MN hb0 hbl];rfl
 have va:=Er a;have wa:=FC a;refine Ag.walk w1 RH rfl λF=>?_
 unfold wD wL at cc⊢;change AC C0 F none F _ _ (RZ X1.tt _ (· = .tup [wD (a/b),wD (a%b)]));generalize Ad a=la at*;generalize Ad b=lb at*;have hb':=DS hlb;have e3:((((lb.map AR).length:Nat):Int)==1)=true:=by rw[Ak,hb];rfl
 have ea:(((la.map AR).length:Nat):Int)=(la.length:Int):=by rw[Ak]
 have wl:IntKind.i64.wrap ((la.length:Int)-1)=(la.length:Int)-1:=wI (by omega) (by omega);have r3:List.replicate la.length (ofV (.int .u64 0))=(List.replicate la.length 0).map AR:=by rw[Jw];rfl
 refine sR 0 ?_;refine AC.seq ?_;refine sR 100 ?_;refine cI cc ?_;rw[e1];refine AM ?_;refine An ?_;refine AC.seq ?_;refine sZ 300 ?_;refine AT e3 ?_;refine AM ?_;refine sZ 400 ?_;refine AT (Aj ea kN) ?_;refine sR 500 ?_;refine AC.seq ?_;refine sZ 600 ?_;refine AT (Aj ea wl) ?_;refine AC.block ?_;refine AC.loop (α:=Nat×Nat×List Nat×Nat) (λp=>⟨[(0,.sl false 1 (la.map AR)),(1,.sl false 1 (lb.map AR)),(6,.osl 402 11 1 0 la.length),(7,AR p.2.1),(8,i64 ((p.1:Int)-1))],[⟨402,11,210,1,p.2.2.1.map AR⟩],p.2.2.2⟩) (λp=>p.1)
  (λp=>p.1<=la.length/\p.2.1<b/\p.2.2.1.length=la.length/\Wd p.2.2.1/\AS (p.2.2.1.drop p.1)*b+p.2.1=AS (la.drop p.1)) (la.length,0,List.replicate la.length 0,_)
  ⟨Af _,D3 hb0,by simp,MW _,by simp[AS]⟩ (by rw[<-r3];exact AK) ?_
 rintro⟨k,r,q,m⟩ F ⟨h1,h2,h3,h4,h5⟩;dsimp only at h1 h2 h3 h4 h5⊢;clear cc e1 e3 ea wl r3;refine AC.seq ?_;refine sR 700 ?_;refine AM ?_
 (refine Bw (λh20=>?_) (λh20=>?_))<;>(try simp only[Bi,Bu]at h20)<;>(try simp only[h20])
 ·obtain⟨j,rfl⟩:∃j,k=j+1:=⟨k-1,by
   have:(k:Int)-1>=0:=by simpa using h20
   omega⟩
  have wj:((j+1:Nat):Int)-1=(j:Int):=by omega
  obtain⟨x,hx⟩:=CR (l:=la) (i:=j) (by omega);obtain⟨z,hz⟩:=CR (l:=q) (i:=j) (by omega);have hx':=DS hx;have hz':=DS hz;have hxl:=wa x (Av hx);have cd:=Xs r x b h2 hxl hbl;obtain⟨J1,J2⟩:=iT (D3 hb0) hx (by omega) h5;have hql:(r*BB+x)/b<BB:=by
   refine E3 ?_
   have:(r+1)*BB<=b*BB:=CI _ h2
   rw[Bv]at this;omega
  have wi:IntKind.i64.wrap ((j:Int)-1)=(j:Int)-1:=wI (by omega) (by omega);generalize(r*BB+x)/b=d at*;generalize(r*BB+x)%b=r' at*;rw[wj];refine An ?_;refine AC.seq ?_;refine AC.block ?_;refine PI w1 900 [0,1,2,3,4,5,6,7,8,9,10,11,12,13,14,15] [16] 15 [11,9,8,7,6,5,4,3,2,1,0,10,12,14] (402) (by kernel_rfl) (by kernel_rfl) ?_;refine Au ?_;refine MG kN ?_;refine MP rfl rfl rfl rfl ?_;refine Mt (λ_ _=>rfl) (by exact B8) ⟨rfl,by omega⟩ hx' ?_
  try dsimp only[D.cells,spot]
  refine MG kN ?_;refine MP rfl rfl rfl rfl ?_;refine Mt (λ_ _=>rfl) (by exact B8) ⟨rfl,by omega⟩ hb' ?_
  try dsimp only[D.cells,spot]
  refine MG kN ?_;refine MP rfl rfl rfl rfl ?_;refine LW (λ_ _=>rfl) (by exact B8) ?_;refine Au ?_;refine BX.same _ cd AJ ?_;refine MG (As kN BU hz') ?_;refine And.intro (by first|exact Or.inl AB|exact Or.inl rfl) ?_;refine AD (Aj kN BU) ?_;rw[map_set];refine Ao w1 800 (by kernel_rfl) ?_;refine AT wi ?_;exact⟨(j,r',q.set j d,_),⟨by dsimp only;omega,J2,by dsimp only;rw[DE];exact h3,h4.set hql,J1⟩,by dsimp only;omega,AK⟩
 ·have hk:k=0:=by
   have:¬((k:Int)-1>=0):=by simpa using h20
   omega
  subst hk;rw[Fd,Fd,va]at h5;obtain⟨q1,q2⟩:=QC h5 h2;refine B6 ?_;refine AC.weak ⟨[(6,.sl false 1 (q.map AR)),(7,AR r)],[],_⟩ (qT h3) ?_;refine sR 1000 ?_;refine BD.same _ (trim_ok q h4 (by omega)) AJ ?_;refine BN ?_;have hrl:Wd [r]:=λa ha=>by
   simp only[A8,DW,or_false]at ha;subst ha;exact Fv h2 hbl
  refine BD.pure [wL [r]] _ ⟨.nn true 1 _,trivial⟩ (trim_ok [r] hrl (by simp)) AJ ?_;refine BN ?_;refine Ah ?_;exact AL (by rw[q1,q2];simp[AS]) AA.out
set_option maxHeartbeats 4000000
theorem Yt {H:Hp}{K g T:Nat}{l:List Nat}{N:Nat}(hl:l.length=N)(he:Hp.get H K=some ⟨K,g,T,1,l.map AR⟩:=by exact rfl):Fz H [] (.osl K g 1 0 N) (.sl false 1 (l.map AR)):=by
 subst hl;have key:∀(j:Nat) (d d':D),(l.map AR)[0+j]?=some d->(l.map AR)[j]?=some d'->d=d':=λj d d' h1 h2=>by
  rw[BU]at h1;rw[h1]at h2;exact F3 h2
 refine .osl (e:=⟨K,g,T,1,l.map AR⟩) he rfl rfl rfl (by simp) (by simp) (λj d d' h1 h2=>by rw[key j d d' h1 h2]) λj d d' q c c' h1 h2 h3 h4=>?_
 rw[key j d d' h1 h2]at h3;rw[h3]at h4;cases h4;exact Fz.refl _
theorem jh (a b m:Nat)(hab:b<=a)(ha:(Ad a).length<1000000)(hb:(Ad b).length=m+2):AI C0 168 [wD a,wD b] (.tup [wD (a/b),wD (a%b)]):=by
 have hlen:=HV b a hab;have cc:=Qc a b (by omega) (by omega);have e1:=Qb hab;obtain⟨y,hy⟩:=CR (l:=Ad b) (i:=m+1) (by omega);have y0:=Sx b hb hy;have yl:y<BB:=FC b y (Av hy);obtain⟨s,hs,es,t1,t2⟩:=WT y0 yl;have cl:=dT y yl;rw[es]at cl;have hvl:=us hs hb hy t2;obtain⟨v,hv⟩:∃v,v=Ad (b*2^s):=⟨_,rfl⟩
 have wv:Wd v:=by rw[hv];exact FC _
 have vv:AS v=b*2^s:=by rw[hv];exact Er _
 rw[<-hv]at hvl;obtain⟨v1,h1⟩:=CR (l:=v) (i:=m+1) (by omega);obtain⟨v2,h2⟩:=CR (l:=v) (i:=m) (by omega);have v10:v1≠0:=Sx (b*2^s) (by rw[<-hv];exact hvl) (by rw[<-hv];exact h1);have vpos:0<AS v:=by
  rw[vv];refine HS ?_ (Gs s);refine D3 λh=>?_
  subst h;rw[Fi]at hb;cases hb
 have va:=Er a;have vb:=Er b;have wa:=FC a;have wb:=FC b;have hup:=JQ a;have hbge:=YP hb;refine Ag.walk w1 RH rfl λF=>?_
 unfold wD wL at cc⊢;change AC C0 F none F _ _ (RZ X1.tt _ (· = .tup [wD (a/b),wD (a%b)]));generalize Ad a=la at*;generalize Ad b=lb at*;obtain⟨lq,hlq⟩:∃lq,la.length=lq+(m+2):=⟨la.length-(m+2),by omega⟩
 have hy':=DS hy;have e3:((((lb.map AR).length:Nat):Int)==1)=false:=by rw[Ak,hb];exact Bs.2 (by omega)
 have elb:(((lb.map AR).length:Nat):Int)=((m+2:Nat):Int):=by rw[Ak,hb]
 have wlb0:IntKind.i64.wrap (((m+2:Nat):Int)-1)=((m+1:Nat):Int):=by rw[wI (by omega) (by omega)];omega
 have wlb:IntKind.i64.wrap ((((lb.map AR).length:Nat):Int)-1)=((m+1:Nat):Int):=by rw[elb];exact wlb0
 have ea:(((la.map AR).length:Nat):Int)=(la.length:Int):=by rw[Ak]
 have ev:(((v.map AR).length:Nat):Int)=((m+2:Nat):Int):=by rw[Ak,hvl]
 have wq1:IntKind.i64.wrap ((la.length:Int)-((m+2:Nat):Int))=(lq:Int):=by rw[wI (by omega) (by omega)];omega
 have wq2:IntKind.i64.wrap ((lq:Int)+1)=((lq+1:Nat):Int):=by rw[wI (by omega) (by omega)];omega
 have wq1':IntKind.i64.wrap ((la.length:Int)-((m+2:Nat):Int))=((lq+1:Nat):Int)-1:=by rw[wI (by omega) (by omega)];omega
 have wraw:IntKind.i64.wrap (IntKind.i64.wrap ((((la.map AR).length:Nat):Int)-((m+2:Nat):Int))+1)=((lq+1:Nat):Int):=by rw[ea,wq1,wq2]
 have r3:List.replicate (lq+1) (ofV (.int .u64 0))=(List.replicate (lq+1) 0).map AR:=by rw[Jw];rfl
 refine sR 0 ?_;refine AC.seq ?_;refine sR 100 ?_;refine cI cc ?_;rw[e1];refine AM ?_;refine An ?_;refine AC.seq ?_;refine sZ 300 ?_;refine AT e3 ?_;refine AM ?_;refine An ?_;refine sZ 1100 ?_;refine AD (BW wlb elb wlb0 kN) ?_;refine Bq kT hy' ?_;refine AD (BW wlb elb wlb0 kN) ?_;refine cI cl ?_;refine Cw (α:=Nat) (λn=>⟨[(0,.sl false 1 (la.map AR)),(9,i64 s),(10,.sl false 1 (v.map AR))],[],n⟩) (λ_=>True) ?_ ?_
 ·refine rI 1200 ?_
  refine BD.prop [wL lb,i64 s] _ (EZ.refl _) (kP lb s hs wb (by omega)) AJ ?_;rintro d ⟨out,o1,o2,o3,rfl⟩;have hvo:wD (AS out)=.sl false 1 (v.map AR):=by rw[o3,vb,hv];rfl
  refine BN ?_;refine BD.same _ (trim_ok out o2 (by omega)) AJ ?_;refine BN ?_;simp only[hvo];exact⟨trivial,_,trivial,AK⟩
 rintro n0 -;clear cc e1 e3 elb wlb wlb0 hy' cl es t1 t2 yl y0 hy wb;refine sR 1300 ?_;refine BD.own _ (W4 la s hs wa (by omega) [] _) ?_;rintro d H' n1 ⟨U,gu,u1,u2,u3,rfl,rfl,-⟩;rw[va]at u3;refine BN ?_;refine sZ 1400 ?_;refine AT ev ?_;refine Cw (α:=Nat×Nat) (λp=>⟨[(0,.sl false 1 (la.map AR)),(9,i64 s),(10,.sl false 1 (v.map AR)),(11,.osl 103 gu 1 0 (la.length+1)),(12,i64 ((m+2:Nat):Int)),(13,.osl 1505 p.1 1 0 (lq+1))],[⟨1505,p.1,210,1,(List.replicate (lq+1) 0).map AR⟩,⟨103,gu,210,1,U.map AR⟩],p.2⟩) (λ_=>True) ?_ ?_
 ·refine Ao w1 1500 (by kernel_rfl) ?_
  refine AT (CF ea wq1 wq2 kN r3) ?_;exact⟨trivial,⟨n1+9,n1+20⟩,trivial,by rw[<-r3];exact AK⟩
 rintro⟨g,n2⟩ -;dsimp only;have I0:Lf (a*2^s) v U (List.replicate (lq+1) 0) (la.length+1) (lq+1) (lq+1):=by
  refine je u3 vv u2 u1 rfl (Af _) ?_
  have:BB^(lq+1)*BB^(m+1)<=BB^(lq+1)*b:=CY _ hbge
  rw[<-Fw,show lq+1+(m+1)=la.length by omega]at this;omega
 refine AC.seq ?_;refine sZ 1600 ?_;refine AT (Aj ea wq1') ?_;refine AC.block ?_;refine AC.loop (α:=Nat×List Nat×List Nat×Nat) (λp=>⟨[(9,i64 s),(10,.sl false 1 (v.map AR)),(11,.osl 103 gu 1 0 (la.length+1)),(12,i64 ((m+2:Nat):Int)),(13,.osl 1505 g 1 0 (lq+1)),(14,i64 ((p.1:Int)-1))],[⟨1505,g,210,1,p.2.2.1.map AR⟩,⟨103,gu,210,1,p.2.1.map AR⟩],p.2.2.2⟩) (λp=>p.1)
  (λp=>p.1<=lq+1/\Lf (a*2^s) v p.2.1 p.2.2.1 (la.length+1) (lq+1) p.1) (lq+1,U,List.replicate (lq+1) 0,_) ⟨Af _,I0⟩ AK ?_
 rintro⟨k,u,q,n3⟩ F ⟨hk,I⟩;dsimp only at hk I⊢;clear I0 wq1 wq2 wq1' wraw r3 ea;refine AC.seq ?_;refine sR 1700 ?_;refine AM ?_
 (refine Bw (λh20=>?_) (λh20=>?_))<;>(try simp only[Bi,Bu]at h20)<;>(try simp only[h20])
 ·obtain⟨j,rfl⟩:∃j,k=j+1:=⟨k-1,by
   have:(k:Int)-1>=0:=by simpa using h20
   omega⟩
  have wj:((j+1:Nat):Int)-1=(j:Int):=by omega
  obtain⟨p0,p1,p2,SI,hz,hP⟩:=mN I hvl wv v1 v2 h2 h1 (D3 v10) (by omega);have hA:(u.take j).length=j:=by rw[Ba,I.lU];omega
  have cs:=λn=>oo (u.take j) ((u.drop j).take (m+3)) (u.drop (j+(m+3))) v m p0 p1 p2 v2 v1 SI (by rw[hA];omega) g 210 gu (q.map AR) n
  rw[hA,<-fE j (m+3)]at cs;obtain⟨z,hzq⟩:=CR (l:=q) (i:=j) (by rw[I.lQ];omega);have hz':=DS hzq;have hdl:AS ((u.drop j).take (m+3))/AS v<BB:=E3 SI.less;have wi:IntKind.i64.wrap ((j:Int)-1)=(j:Int)-1:=wI (by omega) (by omega);have wjn1:IntKind.i64.wrap ((j:Int)+((m+2:Nat):Int))=((j+(m+2):Nat):Int):=by rw[wI (by omega) (by omega)];omega
  have wjn2:IntKind.i64.wrap (((j+(m+2):Nat):Int)+1)=((j+(m+3):Nat):Int):=by rw[wI (by omega) (by omega)];omega
  have wraw:IntKind.i64.wrap (IntKind.i64.wrap ((j:Int)+((m+2:Nat):Int))+1)=((j+(m+3):Nat):Int):=by rw[wjn1,wjn2]
  have els:j+(m+3)-j=m+3:=Kx _ _;have J:=λP' h1 h2 h3=>mM (P':=P') I vpos (by omega) (by omega) hz hP h1 h2 h3 hdl
  rw[wj];refine An ?_;refine AC.seq ?_;refine AC.block ?_;refine Ao w1 1900 (by kernel_rfl) ?_;refine AD (EM wraw wjn1 wjn2 kN BU els) ?_;refine BD.own _ (cs _) ?_;rintro d H' n4 ⟨P',g1,g2,g3,rfl,rfl⟩;rw[SI.lP]at g1;refine AD (As kN BU hz') ?_;rw[map_set];refine Ao w1 1800 (by kernel_rfl) ?_;refine AT wi ?_;exact⟨(j,u.take j++(P'++u.drop (j+(m+3))),q.set j (AS ((u.drop j).take (m+3))/AS v),_),⟨by dsimp only;omega,J P' g1 g2 g3⟩,by dsimp only;omega,AK⟩
 ·have hk:k=0:=by
   have:¬((k:Int)-1>=0):=by simpa using h20
   omega
  subst hk;obtain⟨q1,q2⟩:=mL I vv;have D0:=iV I.wU q2 hs;have wu:=I.wU;have wqq:=I.wq;have lu:=I.lU;have lqq:=I.lQ;have hlt:AS u<BB^(m+2):=by
   have:=I.less
   rw[Fd]at this;have h:=Hc wv;rw[show v.length=m+2 from hvl]at h;omega
  clear I;refine B6 ?_;refine AC.seq ?_;refine sR 2000 ?_;refine AC.block ?_;refine AC.loop (α:=Nat×List Nat×Nat) (λp=>⟨[(9,i64 s),(11,.osl 103 gu 1 0 (la.length+1)),(12,i64 ((m+2:Nat):Int)),(13,.osl 1505 g 1 0 (lq+1)),(96,i64 ((m+2:Nat):Int)),(97,i64 p.1)],[⟨1505,g,210,1,q.map AR⟩,⟨103,gu,210,1,p.2.1.map AR⟩],p.2.2⟩) (λp=>m+2-p.1)
   (λp=>p.1<=m+2/\OM u p.2.1 s p.1) (0,u,_) ⟨BS _,D0⟩ AK ?_
  rintro⟨i,x,n4⟩ F ⟨hi,I⟩;dsimp only at hi I⊢;have xl:=I.len;refine sR 2100 ?_;refine AC.seq ?_;refine AM ?_
  (refine Bw (λhlt2=>?_) (λhlt2=>?_))<;>(try simp only[Bi,Bu]at hlt2)<;>(try simp only[hlt2])
  ·have hi2:i<m+2:=by
    have:=Cz hlt2
    omega
   obtain⟨c,hc⟩:=CR (l:=u) (i:=i) (by omega);obtain⟨d,hd⟩:=CR (l:=u) (i:=i+1) (by omega);have hcx:x[i]?=some c:=by rw[I.rest i (Af _)];exact hc
   have hdx:x[i+1]?=some d:=by rw[I.rest (i+1) (by omega)];exact hd
   have hc':=DS hcx;have hcl:=wu c (Av hc);have hdl:=wu d (Av hd);have I2:=jk hs wu I hc hd;obtain⟨g1,g2,_⟩:=WW (d:=d) hs hcl;have esh:=NB c s (by omega);have wi:IntKind.i64.wrap ((i:Int)+1)=((i+1:Nat):Int):=wI (by omega) (by omega);refine An ?_;refine AC.seq ?_;refine AC.block ?_;refine sR 2200 ?_;refine sZ 2300 ?_;refine AD (BW kN BU hc' esh) ?_;rw[map_set];have hxi:i<x.length:=by omega
   have h2c:((x.set i (c/2^s)).map AR)[i]?=some (AR (c/2^s)):=DS (Vj hxi);have h2d:((x.set i (c/2^s)).map AR)[i+1]?=some (AR d):=DS (by rw[Ie (by omega)];exact hdx);refine AC.seq ?_;rcases Dk s with h0|h0
   ·have e24:decide ((s:Int)>0)=false:=Ac (by omega)
    have es0:x.set i (c/2^s+d%2^s*2^(64-s))=x.set i (c/2^s):=by
     rw[h0,MD,Nat.mod_one,Gt,DX]
    rw[es0]at I2;refine Ao w1 2400 (by kernel_rfl) ?_;refine AT e24 ?_;refine AD e24 ?_;refine AM ?_;refine An ?_;refine Ao w1 2600 (by kernel_rfl) ?_;refine AT wi ?_;exact⟨(i+1,x.set i (c/2^s),_),⟨hi2,I2⟩,by dsimp only;omega,AK⟩
   ·have e24:decide ((s:Int)>0)=true:=AX (by omega)
    have e24':decide (((i+1:Nat):Int)<((la.length+1:Nat):Int))=true:=AX (by omega);have w64:IntKind.i64.wrap (64-(s:Int))=((64-s:Nat):Int):=by rw[wI (by omega) (by omega)];omega
    have w640:(0:Int)<=IntKind.i64.wrap (64-(s:Int)):=by rw[w64];omega
    have e27:=Ox d (64-s) (by omega);have e28:G1 .or .u64 ((c/2^s:Nat):Int) ((d*2^(64-s)%18446744073709551616:Nat):Int)=((c/2^s+d%2^s*2^(64-s):Nat):Int):=by
     rw[VU _ _ (DY (Fy _ _) hcl) (B1 _ (by decide)),g1]
    have hset:((x.set i (c/2^s)).map AR).set i (AR (c/2^s+d%2^s*2^(64-s)))=(x.set i (c/2^s+d%2^s*2^(64-s))).map AR:=by
     rw[map_set,List.set_set]
    refine Ao w1 2400 (by kernel_rfl) ?_;refine AT e24 ?_;refine AD (As e24 wi e24') ?_;refine AM ?_;refine B5 w1 2500 [0,1,2,3,4,5,6,7,8,9,10,11] [12,13,14] (by kernel_rfl) ?_;refine AD (CS wi w64 e27 e28 kN BU (Aj h2c h2d)) ?_;refine D6 rfl rfl ?_;refine Mu rfl rfl rfl h2c ?_;refine AD hset ?_;refine Ao w1 2600 (by kernel_rfl) ?_;refine AT wi ?_;exact⟨(i+1,x.set i (c/2^s+d%2^s*2^(64-s)),_),⟨hi2,I2⟩,by dsimp only;omega,AK⟩
  ·have hi2:i=m+2:=by
    have:=DN hlt2
    omega
   subst hi2;have hr:=ji I (by omega) q2 hlt;have wx:=I.wd;refine B6 ?_;refine AC.weak ⟨[(11,.sl false 1 (x.map AR)),(12,i64 ((m+2:Nat):Int)),(13,.sl false 1 (q.map AR))],[],_⟩ ⟨.drop (.drop .nil),⟨Yt (by omega),.refl _,Yt lqq,trivial⟩,Af _⟩ ?_;have e4:List.take (m+2-0) (List.drop 0 (x.map AR))=(x.take (m+2)).map AR:=by
    rw[List.map_take];simp
   have e5:List.take (m+2) (x.map AR)=(x.take (m+2)).map AR:=by
    rw[List.map_take]
   have ex:(x.map AR).length=la.length+1:=by rw[Ak];omega
   refine AC.seq ?_;refine B5 w1 2700 [0,1,2,3,4] [5,6,7] (by kernel_rfl) ?_;refine BN ?_;refine BX.same _ (trim_ok q wqq (by omega)) AJ ?_;refine AD (BW kN Nat.sub_zero (@Fd D) e5) ?_;refine BD.same _ (trim_ok (x.take (m+2)) (wx.take _) (by rw[Ba];omega)) AJ ?_;refine BN ?_;refine Ah ?_;exact AL (by rw[q1,hr]) AA.out
theorem fF (a b:Nat)(hb:b≠0)(ha:(Ad a).length<1000000)(hbl:(Ad b).length<1000000):AI C0 168 [wD a,wD b] (.tup [wD (a/b),wD (a%b)]):=by
 rcases BG a b with h|h
 ·exact jg a b h ha hbl
 ·rcases hl:(Ad b).length with _|m
  ·have:=JQ b
   rw[hl]at this;simp at this;exact Ae this hb
  ·rcases m with _|m
   ·exact mO a b h ha hl hb
   ·exact jh a b m h ha hl
set_option maxHeartbeats 2000000
theorem Ol {x:GI}(h:x.wf)(h0:x.z ≠ -9223372036854775808):x=AW x.z:=by
 obtain⟨z,sm⟩:=x;unfold AW
 congr 1
 cases sm with
 |true=>
  have:=h.1 rfl
  dsimp only at this h0⊢;exact(AX (show Sm z from⟨by omega,by omega⟩)).symm
 |false=>
  have:=h.2 rfl
  exact(Ac this).symm
theorem Dl (z:Int):(AW z).z=z:=rfl
def Dy (x y:GI):GI×GI:=
 if x.sm=true/\y.sm=true/\x.z ≠ -9223372036854775808 then(⟨x.z/y.z,true⟩,⟨x.z%y.z,true⟩)
 else if x.z.tmod y.z<0 then(IS (AW (x.z.tdiv y.z)) ⟨1,true⟩,EA (AW (x.z.tmod y.z)) y)else(AW (x.z.tdiv y.z),AW (x.z.tmod y.z))
theorem jQ (a b:Int)(hb:0<b):(a.tmod b<0->a.tdiv b-1=a/b/\a.tmod b+b=a%b)/\(¬a.tmod b<0->a.tdiv b=a/b/\a.tmod b=a%b):=by
 have e1:=Int.tdiv_eq_ediv (a:=a) (b:=b);have e2:=Int.tmod_add_mul_tdiv a b;have e3:=Int.emod_add_mul_ediv a b;have e4:=Int.emod_nonneg a (show b≠0 by omega);have e5:=Int.emod_lt_of_pos a hb;have hsg:b.sign=1:=Int.sign_eq_one_of_pos hb;rw[hsg]at e1;split at e1
 ·rw[Int.add_zero]at e1
  rw[e1]at e2;constructor
  ·intro h;omega
  ·intro _;exact⟨e1,by omega⟩
 ·rename_i hc
  have hd:¬b ∣ a:=λh=>hc (Or.inr h)
  have hr:a%b≠0:=λh=>hd (Int.dvd_of_emod_eq_zero h)
  have e6:b*(a/b+1)=b*(a/b)+b:=by rw[Int.mul_add,Int.mul_one]
  rw[e1,e6]at e2;constructor
  ·intro _;exact⟨by omega,by omega⟩
  ·intro h;omega
theorem Zv {x y:GI}(hy:0<y.z):(Dy x y).1.z=x.z/y.z/\(Dy x y).2.z=x.z%y.z:=by
 obtain⟨f1,f2⟩:=jQ x.z y.z hy;unfold Dy;split
 ·exact⟨rfl,rfl⟩
 ·split
  ·rename_i h
   rw[cJ,Mm];exact f1 h
  ·rename_i h
   exact f2 h
theorem Y0 {x y:GI}(hx:x.wf)(hy:y.wf)(h0:0<y.z):(Dy x y).1.wf/\(Dy x y).2.wf:=by
 unfold Dy;split
 ·rename_i h
  have hx1:=hx.1 h.1;have hy1:=hy.1 h.2.1;obtain⟨_,_,h3⟩:=h;have hm:=Int.emod_lt_of_pos x.z h0;have hm2:=Int.emod_nonneg x.z (show y.z≠0 by omega);refine⟨⟨λ_=>?_,λh=>by cases h⟩,⟨λ_=>⟨by dsimp only;omega,by dsimp only;omega⟩,λh=>by cases h⟩⟩;dsimp only;have e3:=Int.emod_add_mul_ediv x.z y.z;constructor
  ·rcases Int.lt_or_le (x.z/y.z) (-9223372036854775808)with h|h
   ·exfalso
    have h8:y.z*(x.z/y.z+1)<=1*(x.z/y.z+1):=Int.mul_le_mul_of_nonpos_right (by omega) (by omega);rw[Int.mul_add,Int.mul_one]at h8;omega
   ·exact h
  ·rcases Int.lt_or_le (x.z/y.z) 9223372036854775808 with h|h
   ·exact h
   ·exfalso
    have h5:(1:Int)*(x.z/y.z)<=y.z*(x.z/y.z):=Int.mul_le_mul_of_nonneg_right (by omega) (by omega);omega
 ·split
  ·exact⟨ZV _ _,MZ _ _⟩
  ·exact⟨Cf _,Cf _⟩
theorem kO (a b:Int)(hb:0<b):Dv (decide (a<0)) (a.natAbs/b.natAbs)=a.tdiv b/\Dv (decide (a<0)) (a.natAbs%b.natAbs)=a.tmod b:=by
 obtain⟨n,rfl⟩:∃n:Nat,b=n:=⟨b.natAbs,by omega⟩
 rw[EQ]
 by_cases h:a<0
 ·obtain⟨m,rfl⟩:∃m:Nat,a = -(m:Int):=⟨a.natAbs,by omega⟩
  rw[AX h,MB,EQ,Int.neg_tdiv,Int.neg_tmod];exact⟨rfl,rfl⟩
 ·obtain⟨m,rfl⟩:∃m:Nat,a=(m:Int):=⟨a.natAbs,by omega⟩
  rw[Ac h,EQ];exact⟨rfl,rfl⟩
theorem iU (x y:GI)(hx:x.wf)(hy:y.wf)(h0:0<y.z)(fx:x.few)(fy:y.few)(hn:¬(x.sm=true/\y.sm=true/\x.z ≠ -9223372036854775808)):
  AI C0 251 [x.D,y.D] (.tup [(Dy x y).1.D,(Dy x y).2.D]):=by
 unfold Dy;rw[AF hn];refine Ag.walk w1 UQ rfl λF=>?_
 have cx:=JR x hx;have cy:=JR y hy;have cd:=fF x.z.natAbs y.z.natAbs (by omega) fx fy;obtain⟨t1,t2⟩:=kO x.z y.z h0;have lq:(Ad (x.z.natAbs/y.z.natAbs)).length<1000000:=DY (HV _ _ (Fy _ _)) fx;have lr:(Ad (x.z.natAbs%y.z.natAbs)).length<1000000:=DY (HV _ _ (Nat.mod_le _ _)) fx;have c1:=LY (decide (x.z<0)) (x.z.natAbs/y.z.natAbs) (Fv lq (by decide));have c2:=LY (decide (x.z<0)) (x.z.natAbs%y.z.natAbs) (Fv lr (by decide));rw[t1]at c1;rw[t2]at c2;have fq:(AW (x.z.tdiv y.z)).few:=by
  show(Ad (x.z.tdiv y.z).natAbs).length<1000000;rw[Int.natAbs_tdiv];exact lq
 have fr:(AW (x.z.tmod y.z)).few:=by
  show(Ad (x.z.tmod y.z).natAbs).length<1000000;rw[Int.natAbs_tmod];exact lr
 have f1:(⟨1,true⟩:GI).few:=by show(Ad 1).length<1000000;rw[MN (by decide) (by decide)];decide
 have cg:=M1 (AW (x.z.tmod y.z)) (Cf _);have cs:=eK (AW (x.z.tdiv y.z)) ⟨1,true⟩ (Cf _) ⟨λ_=>⟨by decide,by decide⟩,λh=>by cases h⟩ fq f1;have ca:=Oj (AW (x.z.tmod y.z)) y (Cf _) hy fr fy;rw[Dl]at cg;have co:AI C0 122 [i64 1] (⟨1,true⟩:GI).D:=CE DV 1000 40 (by kernel_rfl);have hpx:AA x.w:=AJ;have hpy:AA y.w:=AJ;have hpq:AA (AW (x.z.tdiv y.z)).w:=AJ;have hpr:AA (AW (x.z.tmod y.z)).w:=AJ;have hps:AA (IS (AW (x.z.tdiv y.z)) ⟨1,true⟩).w:=AJ;have hpa:AA (EA (AW (x.z.tmod y.z)) y).w:=AJ;have hp1:AA (⟨1,true⟩:GI).w:=AJ;clear t1 t2 lq lr fq fr f1;dsimp only[GI.D]at*;refine fR 0 ?_;refine EU ⟨[(2,.optr 0 0 2 0 0),(3,.optr 1 1 2 0 0),(4,.optr 2 2 2 0 0),(5,.optr 3 3 2 0 0)],[⟨3,3,120,2,[Cx 0]⟩,⟨2,2,120,2,[Cx 0]⟩,⟨1,1,120,2,[.agg [i64 y.s,y.w]]⟩,⟨0,0,120,2,[.agg [i64 x.s,x.w]]⟩],90⟩ ?_ ?_
 ·obtain⟨a,sa⟩:=x
  obtain⟨b,sb⟩:=y;clear cx cy cd c1 c2 cg cs ca co hpq hpr hps hpa hp1;have nx:sa=false->(Ad a.natAbs).map AR≠[]:=λh=>HZ (by
   intro h0;subst h;exact hx.2 rfl ⟨by dsimp only;omega,by dsimp only;omega⟩)
  have ny:sb=false->(Ad b.natAbs).map AR≠[]:=λh=>HZ (by
   intro h0;subst h;exact hy.2 rfl ⟨by dsimp only;omega,by dsimp only;omega⟩)
  unfold GI.s GI.w wD wL at*;dsimp only at*;generalize(Ad a.natAbs).map AR=ka at*;generalize(Ad b.natAbs).map AR=kb at*;cases sa with
  |false=>
   have nx:=nx rfl;dsimp only at*;generalize(if a<0 then(-1:Int)else 1)=sg at*;generalize(match sb with|true=>b|false=>if b<0 then(-1:Int)else 1)=sh at*;generalize(match sb with|true=>CM|false=>D.sl false 1 kb)=wy at*;refine AC.seq ?_;refine Ao w1 100 (by kernel_rfl) ?_;refine AT (As (@ne_eq (List D)) nx ER) ?_;refine AD kT ?_;refine AD kT ?_;refine AD kT ?_;refine AM ?_;refine An ?_;exact And.intro (by trivial) (AK)
  |true=>
   dsimp only at*;cases sb with
   |false=>
    have ny:=ny rfl;dsimp only at*;generalize(if b<0 then(-1:Int)else 1)=sh at*;refine AC.seq ?_;refine Ao w1 100 (by kernel_rfl) ?_;refine AT (As (@ne_eq (List D)) ny ER) ?_;refine AD (BW kT (@ne_eq (List D)) ny ER) ?_;refine AD (BW kT (@ne_eq (List D)) ny ER) ?_;refine AD (BW kT (@ne_eq (List D)) ny ER) ?_;refine AM ?_;refine An ?_;exact And.intro (by trivial) (AK)
   |true=>
    have ha:a = -9223372036854775808:=DT λh=>hn ⟨rfl,rfl,h⟩
    subst ha;dsimp only at*;refine sZ 100 ?_
    repeat'(first|(refine And.intro (by exact B8) ?_;refine Au ?_)|((refine Bw (λhb=>?_) (λhb=>?_))<;>(try simp only[Bi,Bu]at hb)<;>(try simp only[hb])<;>(refine Au ?_)))
    refine AM ?_;refine An ?_;exact And.intro (by trivial) (AK)
 ·refine fR 600 ?_
  refine dI cx ?_;refine fR 700 ?_;refine dI cy ?_;refine fR 800 ?_;refine dI cd ?_;refine fR 900 ?_;refine dI c1 ?_;refine dI c2 ?_;refine AC.seq ?_;refine fR 1000 ?_;refine dI cg ?_
  by_cases h:x.z.tmod y.z<0
  ·have e:decide (max (-1) (min 1 (x.z.tmod y.z))<0)=true:=AX (by omega)
   rw[AG h,e];refine AM ?_;refine B5 w1 1100 [0,1,2,3,4] [5,6,7] (by kernel_rfl) ?_;refine B7 ?_;refine BX.same _ (co) AJ ?_;refine B7 ?_;refine BX.same _ (cs) AJ ?_;refine B7 ?_;refine dI ca ?_;refine AC.seq ?_;refine PI w1 1200 [0,1,2] [3] 2 [0] (2) (by kernel_rfl) (by kernel_rfl) ?_;refine B7 ?_;refine B7 ?_;refine Ah ?_;exact AL rfl AA.out
  ·have e:decide (max (-1) (min 1 (x.z.tmod y.z))<0)=false:=Ac (by omega)
   rw[AF h,e];refine AM ?_;refine An ?_;refine AC.seq ?_;refine PI w1 1200 [0,1,2] [3] 2 [0] (2) (by kernel_rfl) (by kernel_rfl) ?_;refine B7 ?_;refine B7 ?_;refine Ah ?_;exact AL rfl AA.out
theorem Xu (x y:GI)(hx:x.wf)(hy:y.wf)(h0:0<y.z)(fx:x.few)(fy:y.few):AI C0 251 [x.D,y.D] (.tup [(Dy x y).1.D,(Dy x y).2.D]):=by
 by_cases h:x.sm=true/\y.sm=true/\x.z ≠ -9223372036854775808
 ·unfold Dy
  rw[AG h];obtain⟨a,sa⟩:=x;obtain⟨b,sb⟩:=y;obtain⟨h1,h2,h3⟩:=h;dsimp only at h1 h2 h3 h0;subst h1;subst h2;have ra:=hx.1 rfl;have rb:=hy.1 rfl;dsimp only at ra rb;exact jf a b h0 ⟨by omega,by omega⟩ ⟨by omega,by omega⟩
 ·exact iU x y hx hy h0 fx fy h
theorem eX (x y:GI)(hx:x.wf)(hy:y.wf)(h0:0<y.z)(fx:x.few)(fy:y.few):AI C0 202 [x.D,y.D] (Dy x y).1.D:=by
 refine Ag.walk w1 aP rfl λF=>?_
 have cg:=M1 y hy;have cd:=Xu x y hx hy h0 fx fy;have e1:decide (max (-1) (min 1 y.z)<0)=false:=Ac (by omega);have hpx:AA x.w:=AJ;have hpy:AA y.w:=AJ;have hpq:AA (Dy x y).1.w:=AJ;have hpr:AA (Dy x y).2.w:=AJ;dsimp only[GI.D]at*;generalize(Dy x y).1.s=qs at*;generalize(Dy x y).1.w=qw at*;generalize(Dy x y).2.s=rs at*;generalize(Dy x y).2.w=rw at*;refine fR 0 ?_;refine AC.seq ?_;refine fR 100 ?_;refine dI cg ?_;rw[e1];refine AM ?_;refine An ?_;refine fR 300 ?_;refine dI cd ?_;refine fR 400 ?_;refine Ah ?_;exact AL rfl AA.out
theorem Ye (x:GI)(h:x.wf):Lx x=AW (x.z.natAbs:Nat):=by
 have h1:=nK x h;have h2:=qA x;rw[Ol h1 (by omega),h2]
theorem H7 {n:Nat}(h:(Ad n).length<1000000):(AW (n:Int)).few:=by
 show(Ad (n:Int).natAbs).length<1000000;rw[EQ];exact h
theorem Xt {a b:Nat}(hb:0<b):Dy (AW a) (AW b)=(AW ((a/b:Nat):Int),AW ((a%b:Nat):Int)):=by
 have hb':(0:Int)<(AW (b:Int)).z:=by show(0:Int)<(b:Int);omega
 obtain⟨h1,h2⟩:=Y0 (Cf a) (Cf b) hb';obtain⟨h3,h4⟩:=Zv (x:=AW a) hb';have e3:(Dy (AW a) (AW b)).1.z=((a/b:Nat):Int):=by rw[h3];exact(Int.natCast_ediv a b).symm
 have e4:(Dy (AW a) (AW b)).2.z=((a%b:Nat):Int):=by rw[h4];exact(Int.natCast_emod a b).symm
 have c3:=Ol h1 (by rw[e3];generalize a/b=q;omega);have c4:=Ol h2 (by rw[e4];generalize a%b=q;omega);rw[e3]at c3;rw[e4]at c4;generalize Dy (AW a) (AW b)=p at*;obtain⟨p1,p2⟩:=p;dsimp only at c3 c4;rw[c3,c4]
theorem dS (x y:GI)(hx:x.wf)(hy:y.wf)(fx:x.few)(fy:y.few):AI C0 201 [x.D,y.D] (AW (Nat.gcd x.z.natAbs y.z.natAbs:Nat)).D:=by
 refine Ag.walk w1 aO rfl λF=>?_
 have c1:=dA x hx fx;have c2:=dA y hy fy;rw[Ye x hx]at c1;rw[Ye y hy]at c2;have hpx:AA x.w:=AJ;have hpy:AA y.w:=AJ;have hpm:∀n:Nat,AA (AW (n:Int)).w:=λn=>AJ
 unfold GI.few at fx fy;generalize x.z.natAbs=a at*;generalize y.z.natAbs=b at*;dsimp only[GI.D]at*;refine fR 0 ?_;refine AC.seq ?_;refine B5 w1 100 [0,1,2] [3,4,5] (by kernel_rfl) ?_;refine B7 ?_;refine BX.same _ (c1) AJ ?_;refine B7 ?_;refine dI c2 ?_;refine AC.seq ?_;refine AC.block ?_;refine AC.loop (α:=Nat×Nat×Nat) (λp=>⟨[(2,.optr 0 0 2 0 0),(3,.optr 1 1 2 0 0),(4,.optr 2 2 2 0 0)],[⟨2,2,120,2,[Cx 0]⟩,⟨1,1,120,2,[.agg [i64 (AW (p.2.1:Int)).s,(AW (p.2.1:Int)).w]]⟩,⟨0,0,120,2,[.agg [i64 (AW (p.1:Int)).s,(AW (p.1:Int)).w]]⟩],p.2.2⟩) (λp=>p.2.1)
  (λp=>Nat.gcd p.1 p.2.1=Nat.gcd a b/\(Ad p.1).length<1000000/\(Ad p.2.1).length<1000000) (a,b,_) ⟨rfl,fx,fy⟩ AK ?_
 rintro⟨u,v,n⟩ F ⟨g1,g2,g3⟩;dsimp only at g1 g2 g3⊢;have cg:=M1 (AW (v:Int)) (Cf _);rw[Dl]at cg;dsimp only[GI.D]at cg;refine AC.seq ?_;refine fR 200 ?_;refine dI cg ?_;rcases Dk v with hv|hv
 ·subst hv
  have e2:(max (-1) (min 1 ((0:Nat):Int)) != 0)=false:=by decide
  rw[e2];refine AM ?_;refine B6 ?_;refine fR 500 ?_;refine Ah ?_;refine AL ?_ AA.out;rw[<-g1,Nat.gcd_zero_right]
 ·have e2:(max (-1) (min 1 (v:Int)) != 0)=true:=by
   have:max (-1) (min 1 (v:Int))=1:=by omega
   rw[this];rfl
  have cd:=Xu (AW (u:Int)) (AW (v:Int)) (Cf _) (Cf _) (by show(0:Int)<(v:Int);omega) (H7 g2) (H7 g3);rw[Xt hv]at cd;dsimp only[GI.D]at cd;rw[e2];refine AM ?_;refine An ?_;refine AC.block ?_;refine fR 300 ?_;refine dI cd ?_;refine PI w1 400 [0,1,2] [3] 2 [0] (0) (by kernel_rfl) (by kernel_rfl) ?_;refine B7 ?_;refine B7 ?_;have hm:u%v<v:=B1 u hv;refine⟨(v,u%v,_),⟨?_,g3,DY (HV _ _ (Nat.mod_le _ _)) g2⟩,hm,AK⟩;rw[<-g1,NU u v,Nat.gcd_rec v u,NU]
structure GF where
 n:GI
 d:Nat
abbrev GF.D (x:GF):D:=.agg [i64 x.n.s,x.n.w,i64 (AW (x.d:Int)).s,(AW (x.d:Int)).w]
def Hy (r:Rat)(x:GF):Prop:=x.n.wf/\x.n.z=r.num/\x.d=r.den
theorem oW {a b:Nat}(hb:0<b)(h:(Ad b).length<1000000):(Ad (Nat.gcd a b)).length<1000000:=DY (HV _ _ (Nat.gcd_le_right _ hb)) h
def IJ (x:GI)(d:Nat):GF:=if d=1 then⟨x,1⟩else⟨(Dy x (AW (Nat.gcd x.z.natAbs d:Nat))).1,d/Nat.gcd x.z.natAbs d⟩
theorem QS (x:GI)(d:Nat)(hx:x.wf)(hd:0<d):Hy (mkRat x.z d) (IJ x d):=by
 have hg:0<Nat.gcd x.z.natAbs d:=PQ _ hd;have e:mkRat x.z d=Rat.normalize x.z d (by omega):=(Rat.normalize_eq_mkRat _).symm;rw[e,Rat.normalize_eq];unfold IJ;split
 ·rename_i h
  subst h;refine⟨hx,?_,?_⟩
  ·dsimp only;rw[Nat.gcd_one_right];simp
  ·dsimp only;rw[Nat.gcd_one_right]
 ·have hg':(0:Int)<(AW (Nat.gcd x.z.natAbs d:Nat)).z:=by show(0:Int)<(Nat.gcd x.z.natAbs d:Nat);omega
  exact⟨(Y0 hx (Cf _) hg').1,(Zv hg').1,rfl⟩
theorem UY:AW ((1:Nat):Int)=⟨1,true⟩:=JY ⟨by decide,by decide⟩
theorem R5 {d:Nat}(h:Sm (d:Int)):(AW (d:Int)).s=(d:Int)/\(AW (d:Int)).w=CM:=by rw[JY h];exact⟨rfl,rfl⟩
theorem VS {d:Nat}(h:¬Sm (d:Int)):(AW (d:Int)).s=1/\(AW (d:Int)).w=.sl false 1 ((Ad d).map AR)/\(Ad d).map AR≠[]:=by
 rw[UX h];refine⟨?_,rfl,HZ ?_⟩
 ·show(if(d:Int)<0 then(-1:Int)else 1)=1
  rw[AF (by omega)]
 ·intro h0
  subst h0;exact h ⟨by decide,by decide⟩
def Kf (x y:GI):GF:=IJ (if y.z<0 then AW (-x.z)else x) y.z.natAbs
theorem ll (x y:GI)(hx:x.wf)(h0:y.z≠0):Hy (Rat.divInt x.z y.z) (Kf x y):=by
 unfold Kf
 by_cases h:y.z<0
 ·rw[AG h]
  have:=QS (AW (-x.z)) y.z.natAbs (Cf _) (by omega)
  rw[Dl]at this;have e:mkRat (-x.z) y.z.natAbs=Rat.divInt x.z y.z:=by
   obtain⟨k,hk⟩:∃k,y.z=Int.negSucc k:=by
    cases hy:y.z with
    |ofNat n=>rw[hy]at h;simp at h;omega
    |negSucc k=>exact⟨k,rfl⟩
   rw[hk];show mkRat (-x.z) (k+1)=_;exact(Rat.normalize_eq_mkRat (by omega)).symm
  rw[e]at this;exact this
 ·rw[AF h]
  have:=QS x y.z.natAbs hx (by omega)
  have e:mkRat x.z y.z.natAbs=Rat.divInt x.z y.z:=by
   rw[<-Rat.divInt_ofNat];congr 1;omega
  rw[e]at this;exact this
theorem bC (x y:GI)(hx:x.wf)(hy:y.wf)(h0:y.z≠0)(fx:x.few)(fy:y.few):AI C0 151 [x.D,y.D] (Kf x y).D:=by
 refine Ag.walk w1 Z7 rfl λF=>?_
 have cg:=M1 y hy;have cn1:=Om x hx fx;have cn2:=Om y hy fy;obtain⟨x',hx'⟩:∃x',x'=if y.z<0 then AW (-x.z)else x:=⟨_,rfl⟩
 have wx':x'.wf:=by rw[hx'];split;exact Cf _;exact hx
 have fx':x'.few:=by rw[hx'];split;exact Yp fx;exact fx
 have hd:0<y.z.natAbs:=by omega
 have fd:(Ad y.z.natAbs).length<1000000:=fy;have fdg:=H7 fd;have ey:y.z<0->AW (-y.z)=AW (y.z.natAbs:Int):=λh=>by congr 1;omega
 have ey':¬y.z<0->y=AW (y.z.natAbs:Int):=λh=>by
  rw[Ol hy (by omega)];show AW y.z=AW (y.z.natAbs:Int)
  congr 1;omega
 unfold Kf;rw[<-hx'];generalize hdd:y.z.natAbs=d at*;have hpx:AA x.w:=AJ;have hpy:AA y.w:=AJ;have hpx':AA x'.w:=AJ;have hpd:AA (AW (d:Int)).w:=AJ;have hg:0<Nat.gcd x'.z.natAbs d:=PQ _ hd;have cc:=dS x' (AW (d:Int)) wx' (Cf _) fx' fdg;rw[Dl,EQ]at cc;have fgg:(AW (Nat.gcd x'.z.natAbs d:Nat)).few:=H7 (oW hd fd);have cq1:=eX x' (AW (Nat.gcd x'.z.natAbs d:Nat)) wx' (Cf _) (by show(0:Int)<(Nat.gcd x'.z.natAbs d:Nat);omega) fx' fgg;have cq2:=eX (AW (d:Int)) (AW (Nat.gcd x'.z.natAbs d:Nat)) (Cf _) (Cf _) (by show(0:Int)<(Nat.gcd x'.z.natAbs d:Nat);omega) fdg fgg;rw[Xt hg]at cq2;have hpg:AA (AW ((Nat.gcd x'.z.natAbs d:Nat):Int)).w:=AJ;have hpq1:AA (Dy x' (AW (Nat.gcd x'.z.natAbs d:Nat))).1.w:=AJ;have hpq2:AA (AW ((d/Nat.gcd x'.z.natAbs d:Nat):Int)).w:=AJ;unfold IJ GF.D;dsimp only[GI.D]at*;refine fR 0 ?_;refine EU ⟨[(2,.optr 0 0 2 0 0),(3,.optr 1 1 2 0 0),(4,.optr 2 2 4 0 0)],[⟨2,2,122,4,[.agg [i64 0,CM,i64 0,CM]]⟩,⟨1,1,120,2,[.agg [i64 (AW (d:Int)).s,(AW (d:Int)).w]]⟩,⟨0,0,120,2,[.agg [i64 x'.s,x'.w]]⟩],90⟩ ?_ ?_
 ·by_cases h:y.z<0
  ·have e1:decide (max (-1) (min 1 y.z)<0)=true:=AX (by omega)
   rw[AG h]at hx';subst hx';rw[<-ey h];refine fR 100 ?_;refine dI cg ?_;rw[e1];refine AM ?_;refine B5 w1 200 [0,1,2] [3,4,5] (by kernel_rfl) ?_;refine B7 ?_;refine BX.same _ (cn1) AJ ?_;refine B7 ?_;refine dI cn2 ?_;exact⟨rfl,AK⟩
  ·have e1:decide (max (-1) (min 1 y.z)<0)=false:=Ac (by omega)
   rw[AF h]at hx';subst hx';have ey:=ey' h;refine fR 100 ?_;refine dI cg ?_;rw[e1];refine AM ?_;refine An ?_;rw[<-ey];exact⟨rfl,AK⟩
 by_cases h1:d=1
 ·subst h1
  rw[AG rfl,UY];refine AC.seq ?_;refine sZ 300 ?_
  repeat'(first|(refine And.intro (by exact B8) ?_;refine Au ?_)|((refine Bw (λhb=>?_) (λhb=>?_))<;>(try simp only[Bi,Bu]at hb)<;>(try simp only[hb])<;>(refine Au ?_)))
  refine AM ?_;refine fR 400 ?_;refine Ah ?_;exact AL rfl AA.out
 ·rw[AF h1]
  refine EU ⟨[(2,.optr 0 0 2 0 0),(3,.optr 1 1 2 0 0),(4,.optr 2 2 4 0 0)],[⟨2,2,122,4,[.agg [i64 0,CM,i64 0,CM]]⟩,⟨1,1,120,2,[.agg [i64 (AW (d:Int)).s,(AW (d:Int)).w]]⟩,⟨0,0,120,2,[.agg [i64 x'.s,x'.w]]⟩],98⟩ ?_ ?_
  ·by_cases hs:Sm (d:Int)
   ·obtain⟨a1,a2⟩:=R5 hs
    rw[a1,a2];have e2:((d:Int)==1)=false:=Bs.2 (by omega);refine sZ 300 ?_
    repeat'(first|(refine And.intro (by exact B8) ?_;refine Au ?_)|((refine Bw (λhb=>?_) (λhb=>?_))<;>(try simp only[Bi,Bu]at hb)<;>(try simp only[hb])<;>(refine Au ?_)))
    try simp only[e2]
    refine AM ?_;refine An ?_;exact⟨rfl,⟨Gz _,⟨.refl _,.refl _,.refl _,trivial⟩,Af _⟩⟩
   ·obtain⟨a1,a2,a3⟩:=VS hs
    rw[a1,a2];generalize(Ad d).map AR=l at*;refine AC.seq ?_;refine Ao w1 300 (by kernel_rfl) ?_;refine AT (As (@ne_eq (List D)) a3 ER) ?_;refine AD kT ?_;refine AM ?_;refine An ?_;exact⟨rfl,⟨Gz _,⟨.refl _,.refl _,.refl _,trivial⟩,Af _⟩⟩
  ·refine fR 500 ?_
   refine dI cc ?_;refine AC.seq ?_;refine B5 w1 600 [0,1,2,3,4] [5,6,7] (by kernel_rfl) ?_;refine B7 ?_;refine BX.same _ (cq1) AJ ?_;refine B7 ?_;refine dI cq2 ?_;refine Ah ?_;exact AL rfl AA.out
def rk (r:Rat)(k:Nat):Prop:=(Ad r.num.natAbs).length<=k/\(Ad r.den).length<=k
theorem rk.mono {r:Rat}{k l:Nat}(h:rk r k)(hl:k<=l):rk r l:=⟨BQ h.1 hl,BQ h.2 hl⟩
theorem Qr {n:Int}{d k:Nat}(hd:d≠0)(h1:(Ad n.natAbs).length<=k)(h2:(Ad d).length<=k):rk (Rat.normalize n d hd) k:=by
 rw[Rat.normalize_eq];exact⟨BQ (HV _ _ (Int.natAbs_ediv_le_natAbs _ _)) h1,BQ (HV _ _ (Fy _ _)) h2⟩
theorem KJ (a b:Int):(Ad (a*b).natAbs).length<=(Ad a.natAbs).length+(Ad b.natAbs).length:=by
 rw[NS];exact LE _ _
theorem Wq (a b:Int):(Ad (a+b).natAbs).length<=max (Ad a.natAbs).length (Ad b.natAbs).length+1:=
 BQ (HV _ _ (Int.natAbs_add_le a b)) (XZ _ _)
theorem bS {a b:Rat}{i j:Nat}(ha:rk a i)(hb:rk b j):rk (a+b) (i+j+1):=by
 rw[Rat.add_def];have h1:=KJ a.num b.den;have h2:=KJ b.num a.den;have h3:=Wq (a.num*b.den) (b.num*a.den);have h4:=LE a.den b.den;rw[EQ]at h1 h2;obtain⟨a1,a2⟩:=ha;obtain⟨b1,b2⟩:=hb;exact Qr _ (by omega) (by omega)
theorem ud {a b:Rat}{i j:Nat}(ha:rk a i)(hb:rk b j):rk (a*b) (i+j):=by
 rw[Rat.mul_def];have h1:=KJ a.num b.num;have h4:=LE a.den b.den;obtain⟨a1,a2⟩:=ha;obtain⟨b1,b2⟩:=hb;exact Qr _ (by omega) (by omega)
structure FR (r:Rat)(x:GF)(k:Nat):Prop where
 is:Hy r x
 rk:rk r k
theorem FR.fn {r:Rat}{x:GF}{k:Nat}(h:FR r x k)(hk:k<1000000):x.n.few:=by
 show(Ad x.n.z.natAbs).length<1000000;rw[h.is.2.1];have:=h.rk.1;omega
theorem FR.ln {r:Rat}{x:GF}{k:Nat}(h:FR r x k):(Ad x.n.z.natAbs).length<=k:=by rw[h.is.2.1];exact h.rk.1
theorem FR.ld {r:Rat}{x:GF}{k:Nat}(h:FR r x k):(Ad x.d).length<=k:=by rw[h.is.2.2];exact h.rk.2
theorem FR.dpos {r:Rat}{x:GF}{k:Nat}(h:FR r x k):0<x.d:=by rw[h.is.2.2];exact r.den_pos
theorem PB (x:GI)(d:Nat)(hx:x.wf)(fx:(Ad x.z.natAbs).length<400000)(fd:(Ad d).length<400000):AI C0 152 [x.D,(AW (d:Int)).D] (AW (x.z*d)).D:=by
 have:=dV x (AW (d:Int)) hx (Cf _) fx (by rw[Dl,EQ];exact fd)
 rwa [Dl]at this
theorem VT (c d:Nat)(fc:(Ad c).length<400000)(fd:(Ad d).length<400000):AI C0 152 [(AW (c:Int)).D,(AW (d:Int)).D] (AW ((c*d:Nat):Int)).D:=by
 have:=PB (AW (c:Int)) d (Cf _) (by rw[Dl,EQ];exact fc) fd
 rw[Dl,<-Fx]at this;exact this
theorem X6 (x:GI)(d:Nat)(hx:x.wf)(hd:0<d)(fx:x.few)(fd:(Ad d).length<1000000):AI C0 151 [x.D,(AW (d:Int)).D] (IJ x d).D:=by
 have:=bC x (AW (d:Int)) hx (Cf _) (by rw[Dl];omega) fx (H7 fd)
 unfold Kf at this;rw[Dl,AF (by omega),EQ]at this;exact this
theorem Sw (x:GF)(hd:0<x.d):AI C0 124 [x.D] (Aq (decide (x.d=1))):=by
 refine Ag.walk w1 aj rfl λF=>?_
 obtain⟨y,d⟩:=x;dsimp only[GF.D]at hd⊢;have hpy:AA y.w:=AJ;generalize y.s=ys at*;generalize y.w=yw at*
 by_cases hs:Sm (d:Int)
 ·obtain⟨a1,a2⟩:=R5 hs
  rw[a1,a2];have e2:((d:Int)==1)=decide (d=1):=by
   rw[Fc,EB,decide_eq_true_iff];omega
  refine fR 0 ?_;refine sZ 100 ?_
  repeat'(first|(refine And.intro (by exact B8) ?_;refine Au ?_)|((refine Bw (λhb=>?_) (λhb=>?_))<;>(try simp only[Bi,Bu]at hb)<;>(try simp only[hb])<;>(refine Au ?_)))
  try simp only[e2]
  refine Ah ?_;exact AL rfl AA.out
 ·obtain⟨a1,a2,a3⟩:=VS hs
  rw[a1,a2];have e2:decide (d=1)=false:=Ac λh=>hs (by rw[h];exact⟨by decide,by decide⟩)
  rw[e2];generalize(Ad d).map AR=l at*;refine fR 0 ?_;refine AC.seq ?_;refine Ao w1 100 (by kernel_rfl) ?_;refine AT (As (@ne_eq (List D)) a3 ER) ?_;refine AD kT ?_;refine Ah ?_;exact AL rfl AA.out
def Jm (x y:GF):GF:=if x.d=1/\y.d=1 then⟨EA x.n y.n,1⟩else IJ (EA (AW (x.n.z*y.d)) (AW (y.n.z*x.d))) (x.d*y.d)
theorem nL {a b:Rat}{x y:GF}(hx:Hy a x)(hy:Hy b y):Hy (a+b) (Jm x y):=by
 obtain⟨x1,x2,x3⟩:=hx;obtain⟨y1,y2,y3⟩:=hy;rw[Rat.add_def,Rat.normalize_eq_mkRat,<-x2,<-x3,<-y2,<-y3];unfold Jm;split
 ·rename_i h
  rw[h.1,h.2];refine⟨MZ _ _,?_,?_⟩
  ·dsimp only
   rw[Mm];show _=(mkRat (x.n.z*1+y.n.z*1) 1).num;rw[Int.mul_one,Int.mul_one,Rat.mkRat_one,Rat.num_intCast]
  ·dsimp only
   show _=(mkRat (x.n.z*1+y.n.z*1) 1).den;rw[Rat.mkRat_one,Rat.den_intCast]
 ·have:=QS (EA (AW (x.n.z*y.d)) (AW (y.n.z*x.d))) (x.d*y.d) (MZ _ _) (HS (by rw[x3];exact a.den_pos) (by rw[y3];exact b.den_pos))
  rw[Mm,Dl,Dl]at this;exact this
theorem Zk (x:GI):AI C0 121 [x.D] (⟨x,1⟩:GF).D:=by
 refine Ag.walk w1 UL rfl λF=>?_
 have hpx:AA x.w:=AJ;unfold GF.D;rw[UY];dsimp only[GI.D]at*;refine fR 0 ?_;refine AC.seq ?_;refine B5 w1 100 [0,1] [2,3] (by kernel_rfl) ?_;refine B7 ?_;refine BX.same _ (On 1) AJ ?_;refine B7 ?_;refine Ah ?_;exact AL rfl AA.out
theorem RC {a b:Rat}{x y:GF}{i j:Nat}(hx:FR a x i)(hy:FR b y j)(hk:i+j<300000):AI C0 113 [x.D,y.D] (Jm x y).D:=by
 refine Ag.walk w1 ad rfl λF=>?_
 have v1:=Sw x hx.dpos;have v2:=Sw y hy.dpos;have l1:=hx.ln;have l2:=hy.ln;have l3:=hx.ld;have l4:=hy.ld;have dp:=HS hx.dpos hy.dpos;have m1:=PB x.n y.d hx.is.1 (by omega) (by omega);have m2:=PB y.n x.d hy.is.1 (by omega) (by omega);have m3:=VT x.d y.d (by omega) (by omega);have z1:=KJ x.n.z y.d;have z2:=KJ y.n.z x.d;rw[EQ]at z1 z2;have z3:=Wq (x.n.z*y.d) (y.n.z*x.d);have z4:=LE x.d y.d;have s1:=Oj (AW (x.n.z*y.d)) (AW (y.n.z*x.d)) (Cf _) (Cf _) (by show(Ad (x.n.z*y.d).natAbs).length<1000000;omega) (by show(Ad (y.n.z*x.d).natAbs).length<1000000;omega);have s0:=Oj x.n y.n hx.is.1 hy.is.1 (hx.fn (by omega)) (hy.fn (by omega));have mk:=X6 (EA (AW (x.n.z*y.d)) (AW (y.n.z*x.d))) (x.d*y.d) (MZ _ _) dp (by
  show(Ad (EA (AW (x.n.z*y.d)) (AW (y.n.z*x.d))).z.natAbs).length<1000000;rw[Mm,Dl,Dl];omega) (by omega)
 have wg:=Zk (EA x.n y.n);have hp1:AA x.n.w:=AJ;have hp2:AA y.n.w:=AJ;have hp3:AA (AW (x.d:Int)).w:=AJ;have hp4:AA (AW (y.d:Int)).w:=AJ;have hp5:AA (EA x.n y.n).w:=AJ;have hp6:AA (EA (AW (x.n.z*y.d)) (AW (y.n.z*x.d))).w:=AJ;have hp7:AA (AW (x.n.z*y.d)).w:=AJ;have hp8:AA (AW (y.n.z*x.d)).w:=AJ;have hp9:AA (AW ((x.d*y.d:Nat):Int)).w:=AJ;have hq1:AA (IJ (EA (AW (x.n.z*y.d)) (AW (y.n.z*x.d))) (x.d*y.d)).n.w:=AJ;have hq2:AA (AW ((IJ (EA (AW (x.n.z*y.d)) (AW (y.n.z*x.d))) (x.d*y.d)).d:Int)).w:=AJ;have hq3:AA (AW ((1:Nat):Int)).w:=AJ;unfold Jm;clear z1 z2 z3 z4 l1 l2 l3 l4 dp hk hx hy;dsimp only[GI.D,GF.D]at*
 by_cases e1:x.d=1
 ·have fb:decide (x.d=1)=true:=AX e1
  rw[fb]at v1
  by_cases e2:y.d=1
  ·have fd:decide (y.d=1)=true:=AX e2
   rw[fd]at v2;rw[AG ⟨e1,e2⟩];refine fR 0 ?_;refine AC.seq ?_;refine fR 100 ?_;refine dI v1 ?_;dsimp only[M9];refine B7 ?_;dsimp only[M9];refine B7 ?_;refine dI v2 ?_;refine AM ?_;refine fR 200 ?_;refine dI s0 ?_;refine dI wg ?_;refine Ah ?_;exact AL rfl AA.out
  ·have fd:decide (y.d=1)=false:=Ac e2
   rw[fd]at v2;rw[AF λh=>e2 h.2];refine fR 0 ?_;refine AC.seq ?_;refine fR 100 ?_;refine dI v1 ?_;dsimp only[M9];refine B7 ?_;dsimp only[M9];refine B7 ?_;refine dI v2 ?_;refine AM ?_;refine An ?_;refine AC.seq ?_;refine B5 w1 300 [0,1,2,3,4,5,6,7,8,9,10,11,12,13,14] [15,16,17] (by kernel_rfl) ?_;refine B7 ?_;refine BX.same _ (m1) AJ ?_;refine B7 ?_;refine BX.same _ (m2) AJ ?_;refine B7 ?_;refine BX.same _ (s1) AJ ?_;refine B7 ?_;refine dI m3 ?_;refine dI mk ?_;refine Ah ?_;exact AL rfl AA.out
 ·have fb:decide (x.d=1)=false:=Ac e1
  rw[fb]at v1;rw[AF λh=>e1 h.1];refine fR 0 ?_;refine AC.seq ?_;refine fR 100 ?_;refine dI v1 ?_;dsimp only[Rb];refine B7 ?_;dsimp only[Rb];refine B7 ?_;refine AM ?_;refine An ?_;refine AC.seq ?_;refine B5 w1 300 [0,1,2,3,4,5,6,7,8,9,10,11,12,13,14] [15,16,17] (by kernel_rfl) ?_;refine B7 ?_;refine BX.same _ (m1) AJ ?_;refine B7 ?_;refine BX.same _ (m2) AJ ?_;refine B7 ?_;refine BX.same _ (s1) AJ ?_;refine B7 ?_;refine dI m3 ?_;refine dI mk ?_;refine Ah ?_;exact AL rfl AA.out
theorem Qa {a b:Rat}{x y:GF}{i j:Nat}(hx:FR a x i)(hy:FR b y j):FR (a+b) (Jm x y) (i+j+1):=⟨nL hx.is hy.is,bS hx.rk hy.rk⟩
def IQ (x y:GF):GF:=IJ (AW (x.n.z*y.n.z)) (x.d*y.d)
theorem oE {a b:Rat}{x y:GF}(hx:Hy a x)(hy:Hy b y):Hy (a*b) (IQ x y):=by
 obtain⟨x1,x2,x3⟩:=hx;obtain⟨y1,y2,y3⟩:=hy;rw[Rat.mul_def,Rat.normalize_eq_mkRat,<-x2,<-x3,<-y2,<-y3]
 have:=QS (AW (x.n.z*y.n.z)) (x.d*y.d) (Cf _) (HS (by rw[x3];exact a.den_pos) (by rw[y3];exact b.den_pos))
 rw[Dl]at this;exact this
theorem Tv {a b:Rat}{x y:GF}{i j:Nat}(hx:FR a x i)(hy:FR b y j):FR (a*b) (IQ x y) (i+j):=⟨oE hx.is hy.is,ud hx.rk hy.rk⟩
theorem UJ {a b:Rat}{x y:GF}{i j:Nat}(hx:FR a x i)(hy:FR b y j)(hk:i+j<300000):AI C0 112 [x.D,y.D] (IQ x y).D:=by
 refine Ag.walk w1 ab rfl λF=>?_
 have l1:=hx.ln;have l2:=hy.ln;have l3:=hx.ld;have l4:=hy.ld;have dp:=HS hx.dpos hy.dpos;have z1:=KJ x.n.z y.n.z;have z4:=LE x.d y.d;have m1:=dV x.n y.n hx.is.1 hy.is.1 (by omega) (by omega);have m3:=VT x.d y.d (by omega) (by omega);have mk:=X6 (AW (x.n.z*y.n.z)) (x.d*y.d) (Cf _) dp (by show(Ad (x.n.z*y.n.z).natAbs).length<1000000;omega) (by omega);have p1:AA x.n.w:=AJ;have p2:AA y.n.w:=AJ;have p3:AA (AW (x.d:Int)).w:=AJ;have p4:AA (AW (y.d:Int)).w:=AJ;have p5:AA (AW (x.n.z*y.n.z)).w:=AJ;have p6:AA (AW ((x.d*y.d:Nat):Int)).w:=AJ;have p7:AA (IJ (AW (x.n.z*y.n.z)) (x.d*y.d)).n.w:=AJ;have p8:AA (AW ((IJ (AW (x.n.z*y.n.z)) (x.d*y.d)).d:Int)).w:=AJ;unfold IQ;clear l1 l2 l3 l4 dp z1 z4 hx hy;dsimp only[GI.D,GF.D]at*;refine fR 0 ?_;refine AC.seq ?_;refine B5 w1 100 [0,1,2,3,4,5,6,7,8] [9,10,11] (by kernel_rfl) ?_;refine B7 ?_;refine BX.same _ (m1) AJ ?_;refine B7 ?_;refine dI m3 ?_;refine dI mk ?_;refine Ah ?_;exact AL rfl AA.out
def Jp (x:GF):GF:=Kf (AW (x.d:Int)) x.n
theorem no {a:Rat}{x:GF}(hx:Hy a x)(h0:a≠0):Hy a⁻¹ (Jp x):=by
 obtain⟨x1,x2,x3⟩:=hx;have hn:x.n.z≠0:=by
  rw[x2];intro h;exact h0 (Rat.num_eq_zero.1 h)
 rw[Rat.inv_def,<-x2,<-x3];exact ll (AW (x.d:Int)) x.n (Cf _) hn
theorem uc {a:Rat}{k:Nat}(h:rk a k)(h0:a≠0):rk a⁻¹ k:=by
 rw[Rat.inv_def];obtain⟨h1,h2⟩:=h;have hn:a.num≠0:=λh=>h0 (Rat.num_eq_zero.1 h)
 rcases Int.lt_or_gt_of_ne hn with h|h
 ·obtain⟨m,hm⟩:∃m,a.num=Int.negSucc m:=by
   cases hy:a.num with
   |ofNat n=>rw[hy]at h;simp at h;omega
   |negSucc k=>exact⟨k,rfl⟩
  rw[hm]at h1⊢;exact Qr (n:=-(a.den:Int)) (d:=m+1) (by omega) (by rw[MB,EQ];exact h2) h1
 ·obtain⟨m,hm⟩:∃m:Nat,a.num=(m:Int):=⟨a.num.natAbs,by omega⟩
  rw[hm]at h1 h⊢;rw[Rat.divInt_ofNat,<-Rat.normalize_eq_mkRat (by omega)];exact Qr _ (by rw[EQ];exact h2) (by rw[EQ]at h1;exact h1)
theorem ZI {a:Rat}{x:GF}{k:Nat}(h:FR a x k)(h0:a≠0):FR a⁻¹ (Jp x) k:=⟨no h.is h0,uc h.rk h0⟩
theorem rc {a:Rat}{x:GF}{k:Nat}(h:FR a x k)(h0:a≠0)(hk:k<1000000):AI C0 181 [x.D] (Jp x).D:=by
 refine Ag.walk w1 aH rfl λF=>?_
 have l3:=h.ld;have hn:x.n.z≠0:=by
  rw[h.is.2.1];intro h;exact h0 (Rat.num_eq_zero.1 h)
 have mk:=bC (AW (x.d:Int)) x.n (Cf _) h.is.1 hn (H7 (by omega)) (h.fn hk);have p1:AA x.n.w:=AJ;have p3:AA (AW (x.d:Int)).w:=AJ;have p7:AA (Kf (AW (x.d:Int)) x.n).n.w:=AJ;have p8:AA (AW ((Kf (AW (x.d:Int)) x.n).d:Int)).w:=AJ;unfold Jp;dsimp only[GI.D,GF.D]at*;refine fR 0 ?_;refine fR 100 ?_;refine dI mk ?_;refine Ah ?_;exact AL rfl AA.out
def Ry (x y:GF):GF:=IQ x (Jp y)
theorem oN {a b:Rat}{x y:GF}{i j:Nat}(hx:FR a x i)(hy:FR b y j)(h0:b≠0):FR (a/b) (Ry x y) (i+j):=by
 rw[Rat.div_def];exact Tv hx (ZI hy h0)
theorem r8 {a b:Rat}{x y:GF}{i j:Nat}(hx:FR a x i)(hy:FR b y j)(h0:b≠0)(hk:i+j<300000):AI C0 139 [x.D,y.D] (Ry x y).D:=by
 refine Ag.walk w1 ar rfl λF=>?_
 have c1:=rc hy h0 (by omega);have c2:=UJ hx (ZI hy h0) hk;have p1:AA x.n.w:=AJ;have p2:AA y.n.w:=AJ;have p3:AA (AW (x.d:Int)).w:=AJ;have p4:AA (AW (y.d:Int)).w:=AJ;have p5:AA (Jp y).n.w:=AJ;have p6:AA (AW ((Jp y).d:Int)).w:=AJ;have p7:AA (IQ x (Jp y)).n.w:=AJ;have p8:AA (AW ((IQ x (Jp y)).d:Int)).w:=AJ;unfold Ry;dsimp only[GI.D,GF.D]at*;refine fR 0 ?_;refine AC.seq ?_;refine B5 w1 100 [0,1,2] [3,4] (by kernel_rfl) ?_;refine B7 ?_;refine BX.same _ (c1) AJ ?_;refine B7 ?_;refine dI c2 ?_;refine Ah ?_;exact AL rfl AA.out
def Ly (a b:Rat):Int:=if a<b then -1 else if b<a then 1 else 0
theorem rT (a b:Rat):Dx (a.num*b.den) (b.num*a.den)=Ly a b:=by
 unfold Dx Ly;simp only[Rat.lt_iff]
theorem r7 {a b:Rat}{x y:GF}{i j:Nat}(hx:FR a x i)(hy:FR b y j)(hk:i+j<300000):AI C0 240 [x.D,y.D] (i64 (Ly a b)):=by
 refine Ag.walk w1 be rfl λF=>?_
 have l1:=hx.ln;have l2:=hy.ln;have l3:=hx.ld;have l4:=hy.ld;have m1:=PB x.n y.d hx.is.1 (by omega) (by omega);have m2:=PB y.n x.d hy.is.1 (by omega) (by omega);have z1:=KJ x.n.z y.d;have z2:=KJ y.n.z x.d;rw[EQ]at z1 z2;have cm:=vV (AW (x.n.z*y.d)) (AW (y.n.z*x.d)) (Cf _) (Cf _) (by show(Ad (x.n.z*y.d).natAbs).length<1000000;omega) (by show(Ad (y.n.z*x.d).natAbs).length<1000000;omega);have e:Dx (AW (x.n.z*y.d)).z (AW (y.n.z*x.d)).z=Ly a b:=by
  rw[Dl,Dl,<-rT,hx.is.2.1,hx.is.2.2,hy.is.2.1,hy.is.2.2]
 rw[e]at cm;have p1:AA x.n.w:=AJ;have p2:AA y.n.w:=AJ;have p3:AA (AW (x.d:Int)).w:=AJ;have p4:AA (AW (y.d:Int)).w:=AJ;have p5:AA (AW (x.n.z*y.d)).w:=AJ;have p6:AA (AW (y.n.z*x.d)).w:=AJ;clear l1 l2 l3 l4 z1 z2 e hx hy;dsimp only[GI.D,GF.D]at*;refine fR 0 ?_;refine AC.seq ?_;refine B5 w1 100 [0,1,2,3,4,5,6,7,8] [9,10,11] (by kernel_rfl) ?_;refine B7 ?_;refine BX.same _ (m1) AJ ?_;refine B7 ?_;refine dI m2 ?_;refine dI cm ?_;refine Ah ?_;exact AL rfl AA.out
def Gq (a:Rat):Int:=max (-1) (min 1 a.num)
theorem Ys {a:Rat}{x:GF}(hx:Hy a x):AI C0 183 [x.D] (i64 (Gq a)):=by
 refine Ag.walk w1 aJ rfl λF=>?_
 have cg:=M1 x.n hx.1;rw[hx.2.1]at cg;have p1:AA x.n.w:=AJ;have p3:AA (AW (x.d:Int)).w:=AJ;unfold Gq;dsimp only[GI.D,GF.D]at*;refine fR 0 ?_;refine fR 100 ?_;refine dI cg ?_;refine Ah ?_;exact AL rfl AA.out
abbrev sb (l:List UInt8):ByteArray:=⟨l.toArray⟩
theorem Ce (l:List UInt8):(sb l).size=l.length:=by simp[ByteArray.size]
theorem Et (l:List UInt8)(i j:Nat):(sb l).extract i j=sb ((l.take j).drop i):=by
 apply ByteArray.ext;rw[ByteArray.data_extract];simp[List.drop_take]
theorem ZR (l:List UInt8):(sb l).toList=l:=by
 rw[ByteArray.toList_eq]
theorem Ev (l m:List UInt8):BJ (sb l) (sb m)=decide (l=m):=by
 unfold BJ;rw[ZR,ZR,Fc,EB,decide_eq_true_iff]
def DL (l:List UInt8):Bool:=match l with
 | []=>false
 |c::_=>c==45
def Bn (l:List UInt8):List UInt8:=if DL l then l.drop 1 else l
def BI (l:List UInt8):Nat:=(l.takeWhile (· != 47)).length
theorem LK (l:List UInt8):BI l<=l.length:=by
 unfold BI;exact(List.takeWhile_sublist _).length_le
theorem gp (l:List UInt8):Lib.indexByte l 47=if BI l<l.length then(BI l:Int)else -1:=by
 induction l with
 |nil=>rfl
 |cons c l ih=>
  unfold Lib.indexByte
  by_cases h:c=47
  ·subst h
   simp[BI]
  ·have e1:BI (c::l)=BI l+1:=by
    unfold BI;rw[PL,AG (by simpa using h),Bo]
   have hb:(c==47)=false:=by simpa using h
   rw[hb,ih,e1,Bo]
   by_cases h2:BI l<l.length
   ·have h3:BI l+1<l.length+1:=by omega
    have h4:(((BI l:Nat):Int) == -1)=false:=Bs.2 (by omega);simp only[h2,h3,h4,if_true,Hx,if_false];omega
   ·have h3:¬BI l+1<l.length+1:=by omega
    simp only[h2,h3,Hx,if_false];rfl
theorem Wf (l:List UInt8)(hl:l.length<=1000000000):AI C0 247 [str (sb l),str (sb [45])] (Aq (DL l)):=by
 refine Ag.walk w1 bi rfl λF=>?_
 have hsz:=Ce l;have hs1:=Ce [45];refine sR 0 ?_;refine AC.seq ?_;cases l with
 |nil=>
  have e1:decide (((sb []).size:Int)>=((sb [45]).size:Int))=false:=rfl;refine Ao w1 100 (by kernel_rfl) ?_;refine AT e1 ?_;refine AD e1 ?_;refine AD e1 ?_;refine Ah ?_;exact AL rfl AA.out
 |cons c l=>
  have e1:decide (((sb (c::l)).size:Int)>=((sb [45]).size:Int))=true:=AX (by rw[hsz,hs1];simp only[Bo,HJ];omega);have e2:(sb (c::l)).extract 0 ((((sb [45]).size:Nat):Int)).toNat=sb [c]:=by rw[Et];rfl
  have e3:BJ (sb [c]) (sb [45])=DL (c::l):=by
   rw[Ev,DL,Fc,decide_eq_true_iff,EB];simp
  have h0:(0:Int)<=((sb [45]).size:Int):=by omega
  have h1:((sb [45]).size:Int)<=((sb (c::l)).size:Int):=by rw[hsz,hs1];simp only[Bo,HJ];omega
  refine Ao w1 100 (by kernel_rfl) ?_;refine AT e1 ?_;refine AD (As e1 e2 e3) ?_;refine AD (As e1 e2 e3) ?_;refine Ah ?_;exact AL rfl AA.out
theorem gm (l:List UInt8)(hl:l.length<=1000000000):AI C0 196 [str (sb l),str (sb [45])] (Aq (DL l)):=by
 refine Ag.walk w1 aM rfl λF=>?_
 have c1:=Wf l hl;generalize sb l=s at*;generalize DL l=b at*;refine fR 0 ?_;refine fR 100 ?_;refine dI c1 ?_;refine Ah ?_;exact AL rfl AA.out
theorem iR (l:List UInt8)(hl:l.length<=1000000000):AI C0 223 [str (sb l),str (sb [45])] (str (sb (Bn l))):=by
 refine Ag.walk w1 bZ rfl λF=>?_
 have c1:=Wf l hl;have hsz:=Ce l;unfold Bn;refine sR 0 ?_;refine AC.seq ?_;refine sR 100 ?_;refine cI c1 ?_;rcases hb:DL l with _|_
 ·rw[AF (by simp)]
  refine AM ?_;refine An ?_;refine sR 300 ?_;refine Ah ?_;exact AL rfl AA.out
 ·rw[AG rfl]
  have h1:(0:Int)<=((sb [45]).size:Int):=by omega
  have h2:((sb [45]).size:Int)<=((sb l).size:Int):=by
   rw[hsz];show(1:Int)<=_;cases l with
   |nil=>cases hb
   |cons c l=>simp only[Bo];omega
  have e2:(sb l).extract (((sb [45]).size:Nat):Int).toNat (sb l).size=sb (l.drop 1):=by
   rw[Et,hsz,CA (Af _)];rfl
  refine AM ?_;refine sZ 200 ?_;refine AT e2 ?_;refine Ah ?_;exact AL rfl AA.out
theorem Sc (l:List UInt8)(hl:l.length<=1000000000):AI C0 165 [str (sb l),str (sb [45])] (str (sb (Bn l))):=by
 refine Ag.walk w1 aA rfl λF=>?_
 have c1:=iR l hl;generalize sb l=s at*;generalize sb (Bn l)=t at*;refine fR 0 ?_;refine fR 100 ?_;refine dI c1 ?_;refine Ah ?_;exact AL rfl AA.out
theorem i8 (l:List UInt8):AI C0 275 [str (sb l),.prim (.int .u8 47)] (i64 (if BI l<l.length then(BI l:Int)else -1)):=by
 refine Ag.walk w1 bn rfl λF=>?_
 have e1:firstIdx (sb l) (((47:Int)).toNat.toUInt8)=(if BI l<l.length then(BI l:Int)else -1):=by
  rw[Lib.firstIdx_eq];exact gp l
 generalize(if BI l<l.length then(BI l:Int)else -1)=r at*;refine fR 0 ?_;refine AC.seq ?_;refine Ao w1 100 (by kernel_rfl) ?_;refine AT e1 ?_;refine Ah ?_;exact AL rfl AA.out
theorem lY (l:List UInt8)(hl:l.length<=1000000000):AI C0 246 [str (sb l),str (sb [47])] (i64 (if BI l<l.length then(BI l:Int)else -1)):=by
 refine Ag.walk w1 bh rfl λF=>?_
 have c1:=i8 l;have eS:=Ev [47] l;have hr:[47]=l->(if BI l<l.length then(BI l:Int)else -1)=0:=λh=>by subst h;rfl
 generalize(if BI l<l.length then(BI l:Int)else -1)=r at*;have e0:(((sb [47]).size:Int)==0)=false:=rfl;have e1:(((sb [47]).size:Int)==1)=true:=rfl;have hx:(((sb [47]).data.toList.getD ((0:Int)).toNat 0).toNat:Int)=47:=rfl;refine sR 0 ?_;refine sR 100 ?_;refine AC.seq ?_;refine AC.block ?_
 by_cases h:[47]=l
 ·rw[AX h]at eS
  have hr:=hr h;subst hr;refine sZ 200 ?_;refine AT e0 ?_;refine AD (As e0 kF eS) ?_;refine AD (As e0 kF eS) ?_;refine AM ?_;refine sR 300 ?_;refine Ah ?_;exact AL rfl AA.out
 ·rw[Ac h]at eS
  refine sZ 200 ?_;refine AT e0 ?_;refine AD (As e0 kF eS) ?_;refine AD (As e0 kF eS) ?_;refine AM ?_;refine sZ 400 ?_;refine AT e1 ?_;refine AM ?_;refine sZ 500 ?_;refine AT hx ?_;refine cI c1 ?_;refine Ah ?_;exact AL rfl AA.out
theorem yZ (l:List UInt8)(hl:l.length<=1000000000):AI C0 195 [str (sb l),str (sb [47])] (.tup [str (sb (l.take (BI l))),str (sb (l.drop (BI l+1))),Aq (decide (BI l<l.length))]):=by
 refine Ag.walk w1 aL rfl λF=>?_
 have c1:=lY l hl;have hsz:=Ce l;have hle:=LK l;refine sR 0 ?_
 by_cases h:BI l<l.length
 ·rw[AG h]at c1
  have e1:decide (((BI l:Nat):Int)>=0)=true:=AX (by omega);have e2:(sb l).extract 0 (((BI l:Nat):Int)).toNat=sb (l.take (BI l)):=by rw[Et];rfl
  have w3:IntKind.i64.wrap (((BI l:Nat):Int)+((sb [47]).size:Int))=((BI l+1:Nat):Int):=by
   show IntKind.i64.wrap (((BI l:Nat):Int)+1)=_;rw[wI (by omega) (by omega)];omega
  have e3:(sb l).extract (((BI l+1:Nat):Int)).toNat (sb l).size=sb (l.drop (BI l+1)):=by
   rw[Et,hsz,CA (Af _)];rfl
  rw[AX h];refine AC.seq ?_;refine sR 100 ?_;refine cI c1 ?_;refine sZ 200 ?_;refine AT e1 ?_;refine AM ?_;refine AC.seq ?_;refine B5 w1 300 [0,1,2,3,4,5,6,7,8,9] [10,11] (by kernel_rfl) ?_;refine AD (As w3 e2 e3) ?_;refine Ah ?_;exact AL rfl AA.out
 ·rw[AF h]at c1
  have hk:BI l=l.length:=by omega
  have e1:decide (((-1:Int))>=0)=false:=rfl;rw[Ac h,hk,CA (Af _),HO (by omega)];refine AC.seq ?_;refine sR 100 ?_;refine cI c1 ?_;refine sZ 200 ?_;refine AT e1 ?_;refine AM ?_;refine An ?_;refine sR 400 ?_;refine Ah ?_;exact AL rfl AA.out
theorem Zu (l:List UInt8)(hl:l.length<=1000000000):AI C0 149 [str (sb l),str (sb [47])] (.tup [str (sb (l.take (BI l))),str (sb (l.drop (BI l+1))),Aq (decide (BI l<l.length))]):=by
 refine Ag.walk w1 Z5 rfl λF=>?_
 have c1:=yZ l hl;generalize sb l=s at*;generalize sb (l.take (BI l))=t at*;generalize sb (l.drop (BI l+1))=u at*;generalize decide (BI l<l.length)=b at*;refine fR 0 ?_;refine fR 100 ?_;refine dI c1 ?_;refine Ah ?_;exact AL rfl AA.out
theorem pi (a b:Nat)(ha:a<=9223372036854775807)(hb:b<=9223372036854775807):AI C0 217 [i64 a,i64 b] (i64 (Nat.gcd a b:Nat)):=by
 refine Ag.walk w1 sr rfl λF=>?_
 refine fR 0 ?_;refine AC.seq ?_;refine AC.block ?_;refine AC.loop (α:=Nat×Nat×Nat) (λp=>⟨[(0,i64 p.1),(1,i64 p.2.1)],[],p.2.2⟩) (λp=>p.2.1) (λp=>Nat.gcd p.1 p.2.1=Nat.gcd a b/\p.1<=9223372036854775807/\p.2.1<=9223372036854775807) (a,b,_) ⟨rfl,ha,hb⟩ AK ?_;rintro⟨x,y,n⟩ F ⟨h1,h2,h3⟩;dsimp only at h1 h2 h3⊢;refine AC.seq ?_;refine fR 100 ?_;refine AM ?_
 (refine Bw (λhy=>?_) (λhy=>?_))<;>(try simp only[Bi,Bu]at hy)<;>(try simp only[hy])
 ·have hy':(y:Int)>0:=by simpa using hy
  refine An ?_;refine AC.block ?_;refine B5 w1 200 [0,1,2,3,4] [5] (by kernel_rfl) ?_;refine B7 ?_
  have:(x:Int).tmod y=((x%y:Nat):Int):=rfl
  rw[this];refine⟨(y,x%y,_),⟨?_,h3,?_⟩,?_,AK⟩
  ·rw[<-h1,NU x y,Nat.gcd_rec y x,NU]
  ·have:=B1 x (show y>0 by omega);dsimp only;omega
  ·exact B1 x (show y>0 by omega)
 ·have hy':y=0:=by simp at hy;omega
  subst hy';refine B6 ?_;refine fR 300 ?_;refine Ah ?_;refine AL ?_ AA.out;rw[<-h1,Nat.gcd_zero_right]
def L8 (least:Nat)(l:List UInt8):List UInt8:=List.replicate (least-l.length) 48++l
def Es (least m:Nat)(s:List UInt8):List UInt8:=L8 least (if m=0 then s else Lib.decDigits m++s)
theorem WM (least m:Nat)(s:List UInt8)(h:0<m\/s.length<least):Es least (m/10) (UInt8.ofNat (48+m%10)::s)=Es least m s:=by
 unfold Es
 by_cases h0:m=0
 ·subst h0
  have hl:s.length<least:=h.resolve_left (by omega);rw[AG (by omega),AG rfl];unfold L8;obtain⟨k,hk⟩:∃k,least-s.length=k+1:=⟨least-s.length-1,by omega⟩
  rw[hk,show least-(UInt8.ofNat (48+0%10)::s).length=k from by simp;omega,List.replicate_succ'];simp
 ·rw[AF h0]
  by_cases h1:m<10
  ·rw[AG (by omega)]
   have:Lib.decDigits m=[UInt8.ofNat (48+m)]:=by unfold Lib.decDigits;rw[dif_pos h1]
   rw[this,show m%10=m from by omega];rfl
  ·rw[AF (by omega)]
   have:Lib.decDigits m=Lib.decDigits (m/10)++[UInt8.ofNat (48+m%10)]:=by rw[Lib.decDigits];rw[dif_neg h1]
   rw[this,DZ];rfl
theorem mJ (k:Nat)(hk:k<10):(⟨#[48,49,50,51,52,53,54,55,56,57]⟩:ByteArray).extract k (k+1)=⟨([UInt8.ofNat (48+k)]:List UInt8).toArray⟩:=by
 match k,hk with
 | 0,_=>rfl
 | 1,_=>rfl
 | 2,_=>rfl
 | 3,_=>rfl
 | 4,_=>rfl
 | 5,_=>rfl
 | 6,_=>rfl
 | 7,_=>rfl
 | 8,_=>rfl
 | 9,_=>rfl
theorem Pw (a least:Nat)(ha:a+least<=9223372036854775807):AI C0 218 [i64 a,i64 least] (str ⟨(Es least a []).toArray⟩):=by
 refine Ag.walk w1 sw rfl λF=>?_
 refine fR 0 ?_;refine fR 100 ?_;refine AC.seq ?_;refine AC.block ?_;refine AC.loop (α:=Nat×List UInt8×Nat) (λp=>⟨[(0,i64 p.1),(1,i64 least),(5,str ⟨p.2.1.toArray⟩)],[],p.2.2⟩) (λp=>p.1+(least-p.2.1.length))
  (λp=>Es least p.1 p.2.1=Es least a []/\p.1+p.2.1.length<=a+least) (a,[],_) ⟨rfl,by simp⟩ AK ?_
 rintro⟨m,s,n⟩ F ⟨h1,h2⟩;dsimp only at h1 h2⊢;have hsz:=OO s;refine AC.seq ?_;refine EU ⟨[(0,i64 m),(1,i64 least),(5,str ⟨s.toArray⟩),(13,Aq (decide ((m:Int)>0)||decide ((s.length:Int)<least)))],[],n+30⟩ (Ao w1 200 (by kernel_rfl) ?_) ?_
 ·repeat'(first|(refine And.intro (by exact B8) ?_;refine Au ?_)|((refine Bw (λhb=>?_) (λhb=>?_))<;>(try simp only[Bi,Bu]at hb)<;>(try simp only[hb])<;>(refine Au ?_)))
  all_goals exact AK
 refine AM ?_
 (refine Bw (λhc=>?_) (λhc=>?_))<;>(try simp only[Bi,Bu]at hc)<;>(try simp only[hc])
 ·have hc:0<m\/s.length<least:=by
   simp at hc;omega
  refine An ?_;refine AC.block ?_;refine AC.seq ?_;have hm:(m:Int).tmod 10=((m%10:Nat):Int):=rfl;have e2:IntKind.i64.wrap (((m%10:Nat):Int)+1)=((m%10+1:Nat):Int):=wI (by omega) (by omega);have hd:=mJ (m%10) (by omega);have hs1:(⟨([UInt8.ofNat (48+m%10)]:List UInt8).toArray⟩:ByteArray).size=1:=rfl;have hlen:s.length+1<=9223372036854775807:=by omega
  have hs10:(⟨#[48,49,50,51,52,53,54,55,56,57]⟩:ByteArray).size=10:=rfl;refine Ao w1 300 (by kernel_rfl) ?_;refine J7 (BW hm e2 kN hd) ?_;refine fI 400 ?_;have hm4:(m:Int).tdiv 10=((m/10:Nat):Int):=rfl;have hm5:m/10<=9223372036854775807:=by omega
  rw[hm4,wN hm5,Ix,Ek,Ft];refine⟨(m/10,UInt8.ofNat (48+m%10)::s,_),⟨(WM least m s hc).trans h1,?_⟩,?_,AK⟩
  ·simp only[Bo];omega
  ·simp only[Bo];omega
 ·have hc:m=0/\least<=s.length:=by
   simp at hc;omega
  obtain⟨rfl,hl⟩:=hc;refine B6 ?_;refine fR 500 ?_;refine Ah ?_;refine AL ?_ AA.out;rw[<-h1];unfold Es L8;rw[AG rfl,Nat.sub_eq_zero_of_le hl];rfl
theorem Yz (a:Nat):Es 1 a []=Lib.decDigits a:=by
 unfold Es L8
 by_cases h:a=0
 ·subst h
  have:Lib.decDigits 0=[48]:=by unfold Lib.decDigits;rw[dif_pos (by decide)];rfl
  rw[AG rfl,this];rfl
 ·rw[AF h,C3]
  have:(Lib.decDigits a).length≠0:=by
   unfold Lib.decDigits;split<;>simp
  rw[show 1-(Lib.decDigits a).length=0 from by omega];rfl
def Dw (K g sz:Nat):List D->D
 | []=>CM
 |_::l=>.osl K g sz 0 (l.length+1)
def Dm (K g T sz:Nat):List D->Hp
 | []=>[]
 |x::l=>[⟨K,g,T,sz,x::l⟩]
theorem In (K g sz:Nat):Dw K g sz []=CM:=rfl
theorem HX (K g sz:Nat)(x:D)(l:List D):Dw K g sz (x::l)=.osl K g sz 0 (l.length+1):=rfl
theorem Io (K g T sz:Nat):Dm K g T sz []=[]:=rfl
theorem HY (K g T sz:Nat)(x:D)(l:List D):Dm K g T sz (x::l)=[⟨K,g,T,sz,x::l⟩]:=rfl
theorem N5 (K g sz:Nat)(x y:D)(l:List D):Dw K g sz (x::l++[y])=.osl K g sz 0 (l.length+1+1):=by simp[Dw]
theorem RK (K g T sz:Nat)(l:List D):Fz (Dm K g T sz l) [] (Dw K g sz l) (.sl false sz l):=by
 cases l with
 |nil=>exact .nil sz
 |cons x l=>
  refine .osl (e:=⟨K,g,T,sz,x::l⟩) (by simp[Dm,Hp.get]) rfl rfl rfl (by simp) (by simp) (λj d d' h1 h2=>?_) λj d d' q c c' h1 h2 h3 h4=>?_
  ·rw[BU]at h1;rw[h1]at h2;cases h2;rfl
  ·rw[BU]at h1;rw[h1]at h2;cases h2;rw[h3]at h4;cases h4;exact Fz.refl _
def spot (a b c d:Nat):D:=.agg [i64 (a/Nat.gcd a b:Nat),CM,i64 (b/Nat.gcd a b:Nat),CM,i64 (c/Nat.gcd c d:Nat),CM,i64 (d/Nat.gcd c d:Nat),CM]
instance  (a b c d:Nat):AV (spot a b c d):=by unfold spot;exact AJ
instance  {α:Type}(f:α->List D)(l:List α)[h:∀x,Bc (f x)]:Bc (l.flatMap f):=⟨λe he=>by
 obtain⟨x,_,hx⟩:=List.mem_flatMap.1 he;exact(h x).out e hx⟩
theorem Hb {H Hf:Hp}{a a' b b':D}(h1:Fz H Hf a a')(h2:Fz H Hf b b'):Fz H Hf (.tup [a,b]) (.tup [a',b']):=.tup rfl λi d d' hd hd'=>by
 match i with
 | 0=>simp at hd hd';subst hd;subst hd';exact h1
 | 1=>simp at hd hd';subst hd;subst hd';exact h2
 |n+2=>simp at hd
set_option allowUnsafeReducibility true in
attribute [local irreducible] BJ
inductive Kd where
 |line|zig|grid|quin
def Kd.most:Kd->Int
 | .line | .zig=>64
 | .grid=>8
 | .quin=>5
end Go.Ide
