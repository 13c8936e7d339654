/- The layer of own lemmas and contracts, part 7. -/
import Derived.Test.YtaoojbnciofmcaaGreatDoorAA5
import Derived.Test.YtaoojbnciofmcaaGreatDoorAA3
import Derived.Test.YtaoojbnciofmcaaGreatDoorAA6
import Derived.Lib.AppendIntMem
import Derived.Lib.SmallJoins
import Derived.Shelf.Spec.BitsCarry
import Derived.Laws.StandIn
import Derived.Lib.Bytealg
set_option linter.unusedVariables false
set_option linter.unusedSimpArgs false
namespace Go.Ide
open Go Go.Ide Go.Proofs Go.RowKit
set_option maxRecDepth 100000
def G0 (w:World):Prop:=Lib.TabIs Tryz.prog w "internal/strconv.uint64pow10" .u64 Lib.pow10Tab
theorem oV:Tryz.prog.globalNamed "internal/strconv.uint64pow10" = some 3:=by kernel_rfl
theorem mn {w w':World}(h:G0 w)(b:Below (3+1) w w'):G0 w':=by
 unfold G0 Lib.TabIs World.var? at h⊢;rw[oV]at h⊢;simp only[Option.bind_some]at h⊢;rw[b.block _ (by decide)];exact h
noncomputable def C0:A9:={P:=Tryz.prog,G:=G0,nG:=3+1,hG:=λ_ _=>mn}
theorem iC {ρ:Lk}{O:Nat->Prop}{w:World}{a b c:Value}{vs:Array Value}(hn:vs.size=3)(h:∀(i:Nat) (x:D),[D.prim a,.prim b,.prim c][i]?=some x->AV ρ O w x (vs.getD i undef)):vs = #[a,b,c]:=by
 match vs,hn with
 |⟨[u,v,x]⟩,_=>
  have h0:=h 0 _ rfl;have h1:=h 1 _ rfl;have h2:=h 2 _ rfl;simp at h0 h1 h2;cases h0;cases h1;cases h2;rfl
theorem kU (x y c:Nat)(hc:c<=1):K4 C0 211 [.prim (.int .u64 x),.prim (.int .u64 y),.prim (.int .u64 c)]
  (.tup [.prim (.int .u64 (((x+y+c)%18446744073709551616:Nat):Int)),.prim (.int .u64 (((x+y+c)/18446744073709551616:Nat):Int))]):=λρ O w vs hn h=>by
 have:=iC hn h
 subst this;refine⟨.tuple #[.int .u64 (((x+y+c)%18446744073709551616:Nat):Int),.int .u64 (((x+y+c)/18446744073709551616:Nat):Int)],?_,.tup rfl λi d hd=>?_⟩
 ·show(callFunc 211 _).run Tryz.prog w=_
  rw[run_callFunc_extern Tryz.func211 (by kernel_rfl) (by kernel_rfl) (by kernel_rfl) (e:=add64Entry) (by kernel_rfl),run_add64 x y c (by omega) (by omega) (by omega) (by omega)];simp only[Result.andThen]
  congr 5<;>omega
 ·match i with
  | 0=>simp at hd;subst hd;exact .prim _
  | 1=>simp at hd;subst hd;exact .prim _
  |n+2=>simp at hd
theorem zG {ρ:Lk}{O:Nat->Prop}{w:World}{a b:Value}{vs:Array Value}(hn:vs.size=2)(h:∀(i:Nat) (x:D),[D.prim a,.prim b][i]?=some x->AV ρ O w x (vs.getD i undef)):vs = #[a,b]:=by
 match vs,hn with
 |⟨[u,v]⟩,_=>
  have h0:=h 0 _ rfl;have h1:=h 1 _ rfl;simp at h0 h1;cases h0;cases h1;rfl
theorem jQ (s:ByteArray)(c:Int):K4 C0 277 [.prim (.string s),.prim (.int .u8 c)] (.prim (.int .i64 (firstIdx s c.toNat.toUInt8))):=λρ O w vs hn h=>by
 have:=zG hn h
 subst this;refine⟨_,?_,.prim _⟩;show(callFunc 277 _).run Tryz.prog w=_;rw[run_callFunc_indexByte Tryz.func277 (by kernel_rfl) (by kernel_rfl) (by kernel_rfl) (by kernel_rfl),run_indexByte_string];rfl
theorem nE (x y b:Nat)(hb:b<=1):K4 C0 212 [.prim (.int .u64 x),.prim (.int .u64 y),.prim (.int .u64 b)]
  (.tup [.prim (.int .u64 (((x+18446744073709551616-y-b)%18446744073709551616:Nat):Int)),.prim (.int .u64 ((if x<y+b then 1 else 0:Nat):Int))]):=λρ O w vs hn h=>by
 have:=iC hn h
 subst this;refine⟨.tuple #[.int .u64 (((x+18446744073709551616-y-b)%18446744073709551616:Nat):Int),.int .u64 ((if x<y+b then 1 else 0:Nat):Int)],?_,.tup rfl λi d hd=>?_⟩
 ·show(callFunc 212 _).run Tryz.prog w=_
  rw[run_callFunc_extern Tryz.func212 (by kernel_rfl) (by kernel_rfl) (by kernel_rfl) (e:=sub64Entry) (by kernel_rfl),run_sub64 x y b hb];rfl
 ·match i with
  | 0=>simp at hd;subst hd;exact .prim _
  | 1=>simp at hd;subst hd;exact .prim _
  |n+2=>simp at hd
theorem RH {O:Nat->Prop}{w:World}{v:Value}{vs:Array Value}(hn:vs.size=1)(h:∀(i:Nat) (x:D),[D.prim v][i]?=some x->AV nol O w x (vs.getD i undef)):vs = #[v]:=by
 match vs,hn with
 |⟨[u]⟩,_=>
  have h0:=h 0 _ rfl;simp at h0;cases h0;rfl
theorem qW (n:Int)(h0 : -9223372036854775808<=n)(h1:n<=9223372036854775807):AK C0 125 [i64 n] (str ⟨(Lib.itoa n).toArray⟩):=by
 refine⟨⟨_,_,Tryz.func125,rfl,by kernel_rfl⟩,λY w vs hG hnG hX hvs hr=>?_⟩
 have:=RH hvs hr
 subst this;refine(Tryz.strconv_Itoa n h0 h1 w hG).mono ?_;rintro e w' ⟨rfl,k,os,rfl⟩;exact⟨_,_,rfl,Lib.below_grow _ _ (Al _) _ _,rfl,.prim _⟩
theorem ph (s:ByteArray)(n:Int)(hl:s.size<=18)(h:Lib.atoi s.data.toList=some n):AK C0 155 [str s] (.tup [i64 n,.prim .nilIface]):=by
 refine⟨⟨_,_,Tryz.func155,rfl,by kernel_rfl⟩,λY w vs hG hnG hX hvs hr=>?_⟩
 have:=RH hvs hr
 subst this;refine(Tryz.strconv_Atoi s n hl h w).mono ?_;rintro e w' ⟨rfl,t,rfl⟩;exact⟨_,_,rfl,Joins.below_bytesWorld _ _ _ _ (Al _),rfl,.tup rfl λi d hd=>by
  match i with
  | 0=>simp at hd;subst hd;exact .prim _
  | 1=>simp at hd;subst hd;exact .prim _
  |n+2=>simp at hd⟩
def Ld (f:Nat)(ds:List D):Option D:=match Nat.beq f 211 with
 |true=>match ds with
  | [.prim (.int .u64 (.ofNat a)),.prim (.int .u64 (.ofNat b)),.prim (.int .u64 (.ofNat c))]=>match Nat.ble c 1 with
   |true=>some (.tup [.prim (.int .u64 (((a+b+c)%18446744073709551616:Nat):Int)),.prim (.int .u64 (((a+b+c)/18446744073709551616:Nat):Int))])
   |false=>none
  |_=>none
 |false=>match Nat.beq f 212 with
  |true=>match ds with
   | [.prim (.int .u64 (.ofNat a)),.prim (.int .u64 (.ofNat b)),.prim (.int .u64 (.ofNat c))]=>match Nat.ble c 1 with
    |true=>some (.tup [.prim (.int .u64 (((a+18446744073709551616-b-c)%18446744073709551616:Nat):Int)),.prim (.int .u64 ((if a<b+c then 1 else 0:Nat):Int))])
    |false=>none
   |_=>none
  |false=>match Nat.beq f 277 with
   |true=>match ds with
    | [.prim (.string s),.prim (.int .u8 c)]=>some (.prim (.int .i64 (firstIdx s c.toNat.toUInt8)))
    |_=>none
   |false=>none
theorem RR (f:Nat)(ds:List D)(d:D)(h:Ld f ds=some d):K4 C0 f ds d:=by
 unfold Ld at h;split at h
 ·rename_i hf
  obtain rfl:=CA hf;split at h<;>try(cases h;done)
  split at h<;>try(cases h;done)
  rename_i hc;cases h;exact kU _ _ _ (Dj hc)
 ·split at h
  ·rename_i hf
   obtain rfl:=CA hf;split at h<;>try(cases h;done)
   split at h<;>try(cases h;done)
   rename_i hc;cases h;exact nE _ _ _ (Dj hc)
  ·split at h
   ·rename_i hf
    obtain rfl:=CA hf;split at h<;>try(cases h;done)
    cases h;exact jQ _ _
   ·cases h
noncomputable def X1:EV:=⟨QM.get,Mx.get,OG.get,λ_=>false,λ_ _=>none,λ_ _=>none,Ld⟩
theorem Dv:FX C0 X1:=⟨jC,Sw,Kh,λ_ _ _ h=>by simp[X1]at h,by kernel_rfl,λ_ _ _ h=>by simp[X1]at h,RR⟩
theorem w1:Dd C0 X1:=Dv.w
theorem Ao {B:AY}{rd:Option Nat}{F:AY}{ops:Array Oper}{s:St}{Q:Exit->AY->St->Prop}{i:Nat}(kb:Nat)(h:Cz C0 X1 kb ops (List.range ops.size) s True λacc s=>acc/\Q .normal F s)(hnd:Ef ops.toList=true:=by kernel_rfl):AC C0 B rd F (.region i ops false) s Q:=KX w1 kb hnd h
theorem CM {B:AY}{rd:Option Nat}{F:AY}{ops:Array Oper}{s:St}{Q:Exit->AY->St->Prop}{i:Nat}(kb:Nat)(pre suf:List Nat)(h:Eg C0 X1 kb ops s.H s.n pre s.env [] True λacc env N=>Cz C0 X1 kb ops suf ⟨env,N++s.H,s.n+Fd ops.toList⟩ acc λacc s=>acc/\Q .normal F s)(hc:(HL ops pre suf&&Ef ops.toList)=true:=by kernel_rfl):AC C0 B rd F (.region i ops true) s Q:=ij w1 kb pre suf hc h
theorem CV {C:A9}{X:EV}(hX:FX C X)(n k:Nat){f:Nat}{ds:List D}{d:D}(h:(Gg X n k).1 f ds=some d:=by kernel_rfl):AK C f ds d:=Px hX n k h
theorem wI {z:Int}(h1 : -9223372036854775808<=z:=by omega)(h2:z<=9223372036854775807:=by omega):IntKind.i64.wrap z=z:=by
 have e1:(2:Int)^IntKind.i64.bits=18446744073709551616:=rfl;have e2:(2:Int)^(IntKind.i64.bits-1)=9223372036854775808:=rfl;unfold IntKind.wrap;simp only[e1,e2];have e3:IntKind.i64.signed=true:=rfl;rw[e3];simp only[Gc,G4];split<;>omega
theorem wN {n:Nat}(h:n<=9223372036854775807):IntKind.i64.wrap (n:Int)=n:=wI
set_option maxRecDepth 20000
theorem Pc (n:Int):AK C0 82 [i64 n] (DL n):=by
 refine AZ.walk w1 gW rfl λF=>?_
 refine fR 0 ?_;refine fR 100 ?_;refine Ad ?_;exact AJ rfl (AA.out (d:=DL n))
theorem Lt:∀(k u:Nat),u<10^(k+1)->(Lib.decDigits u).length<=k+1
 | 0,u,h=>by
  unfold Lib.decDigits;rw[dif_pos (by simpa using h)];simp
 |k+1,u,h=>by
  unfold Lib.decDigits;split
  ·simp
  ·rw[Bp]
   have:=Lt k (u/10) (by
    rw[CQ]at h;omega)
   simp only[Bq,HQ];omega
theorem JY (a b:List UInt8):(⟨a.toArray⟩:ByteArray)++⟨b.toArray⟩=⟨(a++b).toArray⟩:=by
 apply ByteArray.ext;simp[ByteArray.data_append]
theorem O3 (l:List UInt8):(⟨l.toArray⟩:ByteArray).size=l.length:=by simp[ByteArray.size]
def Sm (z:Int):Prop:=-9223372036854775808<z/\z<9223372036854775808
theorem wS {z:Int}(h:Sm z):IntKind.i64.wrap z=z:=wI (by have:=h.1;omega) (by have:=h.2;omega)
theorem gJ {z:Int}(h:Sm z):(z != -9223372036854775808)=true:=by
 have:=h.1
 simp only[bne_iff_ne,ne_eq];omega
theorem wU {z:Int}(h1:0<=z:=by omega)(h2:z<18446744073709551616:=by omega):IntKind.u64.wrap z=z:=by
 have e1:(2:Int)^IntKind.u64.bits=18446744073709551616:=rfl;unfold IntKind.wrap;simp only[e1];have e3:IntKind.u64.signed=false:=rfl;rw[e3];simp only[Hx,Gd,if_false];omega
theorem rO (z:Int)(h:Sm z):AK C0 162 [i64 z] (u64 (z.natAbs:Nat)):=by
 refine AZ.walk w1 bD rfl λF=>?_
 obtain⟨h1,h2⟩:=h;refine fR 0 ?_;refine AC.seq ?_;refine fR 100 ?_;refine AN ?_
 (refine B1 (λh4=>?_) (λh4=>?_))<;>(try simp only[Bl,Bz]at h4)<;>(try simp only[h4])
 ·have hz:z<0:=by simpa using h4
  have e1:IntKind.i64.wrap (0-z)=(z.natAbs:Nat):=by rw[wI];omega
  have e2:IntKind.u64.wrap ((z.natAbs:Nat):Int)=(z.natAbs:Nat):=wU;refine sZ 200 ?_;refine Kj (Ab e1 e2) ?_;refine Ad ?_;exact AJ rfl AA.out
 ·have hz:¬z<0:=by simpa using h4
  have e2:IntKind.u64.wrap z=(z.natAbs:Nat):=by rw[wU];omega
  refine Aj ?_;refine sZ 300 ?_;refine Kj e2 ?_;refine Ad ?_;exact AJ rfl AA.out
theorem vZ (z:Int)(h:Sm z):AK C0 157 [DL z] (DL (-z)):=by
 refine AZ.walk w1 VE rfl λF=>?_
 refine fR 0 ?_;refine AC.seq ?_;refine sZ 100 ?_
 repeat'(first|(refine BK (by exact CF) ?_;refine BJ ?_)|((refine B1 (λhb=>?_) (λhb=>?_))<;>(try simp only[Bl,Bz]at hb)<;>(try simp only[hb])<;>(refine BJ ?_)))
 rw[gJ h];refine AN ?_;have e1:IntKind.i64.wrap (0-z) = -z:=by
  have:=h.1;have:=h.2
  rw[wI];omega
 refine sZ 200 ?_;refine Kj e1 ?_;refine Ad ?_;exact AJ rfl AA.out
theorem Oq (x y:Nat)(hx:x<18446744073709551616)(hy:y<18446744073709551616):AK C0 161 [u64 x,u64 y] (.tup [u64 (x*y/18446744073709551616:Nat),u64 (x*y%18446744073709551616:Nat)]):=by
 refine⟨⟨_,_,Tryz.func161,rfl,by kernel_rfl⟩,λY w vs hG hnG hX hvs hr=>?_⟩;obtain⟨v1,v2,rfl⟩:∃a b,vs = #[a,b]:=by
  match vs,hvs with
  |⟨[a,b]⟩,_=>exact⟨a,b,rfl⟩
 have h0:=hr 0 _ rfl;have h1:=hr 1 _ rfl;simp at h0 h1;cases h0;cases h1;refine(Tryz.bits_Mul64 x y hx hy w).mono ?_;rintro e w' ⟨rfl,rfl⟩;exact⟨_,_,rfl,.refl _ _,rfl,.tup rfl λi d hd=>by
  match i with
  | 0=>simp at hd;subst hd;exact .prim _
  | 1=>simp at hd;subst hd;exact .prim _
  |n+2=>simp at hd⟩
theorem rW {a b:Int}(hb:0<b):(a.tmod b<0->a.tdiv b-1=a/b/\a.tmod b+b=a%b)/\(¬a.tmod b<0->a.tdiv b=a/b/\a.tmod b=a%b):=by
 have h1:=Int.mul_tdiv_add_tmod a b;have h2:=Int.tmod_lt_of_pos a hb;have h3:=Int.lt_tmod_of_pos a hb;constructor
 ·intro h
  have:=(Int.ediv_emod_unique (a:=a) (r:=a.tmod b+b) (q:=a.tdiv b-1) hb).2 ⟨by rw[Int.mul_sub,Int.mul_one];omega,by omega,by omega⟩
  exact⟨this.1.symm,this.2.symm⟩
 ·intro h
  have:=(Int.ediv_emod_unique (a:=a) (r:=a.tmod b) (q:=a.tdiv b) hb).2 ⟨by omega,by omega,by omega⟩
  exact⟨this.1.symm,this.2.symm⟩
theorem aY {a b:Int}(ha:Sm a):Sm (a.tdiv b):=by
 have h:(a.tdiv b).natAbs<=a.natAbs:=by rw[Int.natAbs_tdiv];exact GJ _ _
 have:=ha.1;have:=ha.2
 exact⟨by omega,by omega⟩
theorem lW (a b:Int)(hb0:0<b)(ha:Sm a)(hb:Sm b):AK C0 210 [DL a,DL b] (.tup [DL (a/b),DL (a%b)]):=by
 refine AZ.walk w1 VF rfl λF=>?_
 obtain⟨t1,t2⟩:=rW (a:=a) hb0;have h2:=Int.tmod_lt_of_pos a hb0;have h3:=Int.lt_tmod_of_pos a hb0;have q1:=wS (aY (b:=b) ha);have q2:IntKind.i64.wrap (a.tmod b)=a.tmod b:=wI (by have:=hb.2;omega) (by have:=hb.2;omega);have q0:=aY (b:=b) ha;refine fR 0 ?_;refine AC.seq ?_;refine sZ 100 ?_
 repeat'(first|(refine BK (by exact CF) ?_;refine BJ ?_)|((refine B1 (λhb=>?_) (λhb=>?_))<;>(try simp only[Bl,Bz]at hb)<;>(try simp only[hb])<;>(refine BJ ?_)))
 rw[gJ ha];refine AN ?_;refine AC.seq ?_;refine CM 200 [0,1,2,3,4,5,6,7,8,9,10] [11] ?_;refine BK (by(refine BJ ?_);(try simp only[q1,q2]);all_goals exact CF) ?_;refine BJ ?_
 try simp only[q1,q2]
 refine AC.seq ?_;refine fR 300 ?_;refine AN ?_
 (refine B1 (λh40=>?_) (λh40=>?_))<;>(try simp only[Bl,Bz]at h40)<;>(try simp only[h40])
 ·obtain⟨e1,e2⟩:=t1 (by simpa using h40)
  have q3:IntKind.i64.wrap (a.tdiv b-1)=a/b:=by rw[wI (by have:=q0.1;omega) (by have:=q0.2;omega)];exact e1
  have q4:IntKind.i64.wrap (a.tmod b+b)=a%b:=by rw[wI (by have:=hb.2;omega) (by have:=hb.2;omega)];exact e2
  refine CM 400 [0,1,2,3,4,5,6] [7] ?_;refine BK (by(refine BJ ?_);(try simp only[q3,q4]);all_goals exact CF) ?_;refine BJ ?_
  try simp only[q3,q4]
  refine fR 500 ?_;refine Ad ?_;exact AJ rfl AA.out
 ·obtain⟨e1,e2⟩:=t2 (by simpa using h40)
  refine Aj ?_;refine AC.seq ?_;rw[e1,e2];refine fI 500 ?_;refine Ad ?_;exact AJ rfl AA.out
structure Q2 where
 n:Int
 d:Int
theorem oO (z:Int):AK C0 81 [DL z] (Mv z 1):=by
 refine AZ.walk w1 V3 rfl λF=>?_
 refine fR 0 ?_;refine AC.seq ?_;refine CM 100 [0,1] [2,3] ?_;refine CL ?_;refine Bb.same _ (Pc 1) AI ?_;refine CL ?_;refine Ad ?_;exact AJ rfl AA.out
theorem iJ (z:Int):AK C0 36 [i64 z] (Mv z 1):=by
 refine AZ.walk w1 fY rfl λF=>?_
 refine fR 0 ?_;refine fR 100 ?_;refine dI (Pc z) ?_;refine dI (oO z) ?_;refine Ad ?_;exact AJ rfl AA.out
def EJ (a b:Int):Int:=if a<b then -1 else if b<a then 1 else 0
theorem qS (a b:Int):AK C0 272 [DL a,DL b] (i64 (EJ a b)):=by
 refine AZ.walk w1 VH rfl λF=>?_
 unfold EJ;refine fR 0 ?_;refine AC.seq ?_;refine sZ 100 ?_
 repeat'(first|(refine BK (by exact CF) ?_;refine BJ ?_)|((refine B1 (λhb=>?_) (λhb=>?_))<;>(try simp only[Bl,Bz]at hb)<;>(try simp only[hb])<;>(refine BJ ?_)))
 refine AN ?_;refine AC.seq ?_;refine AC.block ?_;refine fR 200 ?_;refine AN ?_
 (refine B1 (λh13=>?_) (λh13=>?_))<;>(try simp only[Bl,Bz]at h13)<;>(try simp only[h13])
 ·have h1:a<b:=by simpa using h13
  rw[AH h1];refine fR 300 ?_;refine Ad ?_;exact AJ rfl AA.out
 ·have h1:¬a<b:=by simpa using h13
  rw[AG h1];refine fR 400 ?_;refine AN ?_
  (refine B1 (λh19=>?_) (λh19=>?_))<;>(try simp only[Bl,Bz]at h19)<;>(try simp only[h19])
  ·have h2:b<a:=by simpa using h19
   rw[AH h2];refine fR 500 ?_;refine Ad ?_;exact AJ rfl AA.out
  ·have h2:¬b<a:=by simpa using h19
   rw[AG h2];refine Aj ?_;refine fR 600 ?_;refine Ad ?_;exact AJ rfl AA.out
theorem ai {n k:Nat}(h:Nat.blt n k=true):n<k:=by rw[Nat.blt_eq]at h;exact h
def smB:Int->Bool
 | .ofNat n=>Nat.blt n 9223372036854775808
 | .negSucc n=>Nat.blt n 9223372036854775807
theorem vz {z:Int}(h:smB z=true):Sm z:=by
 cases z with
 |ofNat n=>have:=ai h;exact⟨by rw[Int.ofNat_eq_natCast];omega,by rw[Int.ofNat_eq_natCast];omega⟩
 |negSucc n=>have:=ai h;exact⟨by omega,by omega⟩
abbrev BB:Nat:=18446744073709551616
def Ae (n:Nat):List Nat:=if _h:n=0 then[]else(n%BB)::Ae (n/BB)
termination_by n
decreasing_by exact Ia (EP _h) (by decide)
def AT:List Nat->Nat
 | []=>0
 |a::l=>a+BB*AT l
def Wd (l:List Nat):Prop:=∀a∈l,a<BB
theorem GR:Ae 0=[]:=by unfold Ae;rfl
theorem Gl {n:Nat}(h:n≠0):Ae n=(n%BB)::Ae (n/BB):=by rw[Ae,dif_neg h]
theorem Fr (n:Nat):Wd (Ae n):=by
 induction n using Nat.strongRecOn with
 |ind n ih=>
  by_cases h:n=0
  ·subst h;rw[GR];intro a ha;cases ha
  ·rw[Gl h]
   intro a ha;rcases Az.1 ha with rfl|ha
   ·exact B7 _ (by decide)
   ·exact ih _ (Ia (EP h) (by decide)) a ha
theorem FS (n:Nat):AT (Ae n)=n:=by
 induction n using Nat.strongRecOn with
 |ind n ih=>
  by_cases h:n=0
  ·subst h;rw[GR];rfl
  ·rw[Gl h,AT,ih _ (Ia (EP h) (by decide))]
   exact FM n BB
theorem Kr (l m:List Nat):AT (l++m)=AT l+BB^l.length*AT m:=by
 induction l with
 |nil=>simp[AT]
 |cons a l ih=>
  simp only[E2,AT,ih,Bq,CQ,BN];rw[BY (BB^l.length) BB,Bx,E5]
theorem Wd.tail {a:Nat}{l:List Nat}(h:Wd (a::l)):Wd l:=λb hb=>h b (CT _ hb)
theorem Wd.head {a:Nat}{l:List Nat}(h:Wd (a::l)):a<BB:=h a CO
theorem Wd.append {l m:List Nat}(h:Wd l)(k:Wd m):Wd (l++m):=λa ha=>(B0.1 ha).elim (h a) (k a)
theorem Wd.take {l:List Nat}(h:Wd l)(n:Nat):Wd (l.take n):=λa ha=>h a (JA ha)
theorem IC:∀ {l:List Nat},Wd l->AT l<BB^l.length
 | [],_=>by simp[AT]
 |a::l,h=>by
  have h1:=IC h.tail;have h2:=h.head;rw[AT,Bq,CQ]
  calc a+BB*AT l<BB+BB*AT l:=by omega
   _=BB*(AT l+1):=by rw[BN,EO,Lj]
   _<=BB*BB^l.length:=Cr _ h1
   _=_:=BY _ _
theorem X8:∀ {l:List Nat},Wd l->(∀a∈l.getLast?,a≠0)->Ae (AT l)=l
 | [],_,_=>GR
 | [a],h,hl=>by
  have ha:a≠0:=hl a (by simp);have hb:=h.head;rw[show AT [a]=a from by simp[AT],Gl ha,Ff hb,Hy hb,GR]
 |a::b::l,h,hl=>by
  have ih:=X8 h.tail (λx hx=>hl x (by simpa using hx));have hb:=h.head;have hv:AT (b::l)≠0:=by
   intro h0;rw[h0,GR]at ih;cases ih
  have e1:AT (a::b::l)%BB=a:=by rw[AT,S3,Ff hb]
  have e2:AT (a::b::l)/BB=AT (b::l):=by
   rw[AT,TC _ _ (by decide),Hy hb,BZ]
  have hne:AT (a::b::l)≠0:=by
   intro h0;rw[h0]at e2;exact hv (by rw[<-e2];rfl)
  rw[Gl hne,e1,e2,ih]
theorem Qi:∀(k:Nat),AT (List.replicate k 0)=0
 | 0=>rfl
 |k+1=>by rw[List.replicate_succ,AT,Qi k,E6]
theorem Xm {l:List Nat}(h:Wd l)(n:Nat)(hz:∀j,n<=j->∀a,l[j]?=some a->a=0)(hn:n<=l.length)(hl:∀m,n=m+1->∀a,l[m]?=some a->a≠0):l.take n=Ae (AT l):=by
 have hd:l.drop n=List.replicate (l.length-n) 0:=by
  refine QE λi=>?_
  rw[G3,List.getElem?_replicate];split
  ·rename_i hi
   rw[Cf]
   congr 1
   exact hz _ (Nat.le_add_right _ _) _ (Cf)
  ·exact Dy (by omega)
 have hv:AT l=AT (l.take n):=by
  conv=>lhs;rw[<-Fj n l]
  rw[Kr,hd,Qi,E6,Dq]
 rw[hv];refine(X8 (h.take n) λa ha=>?_).symm
 match n,hl,hn with
 | 0,_,_=>simp at ha
 |m+1,hl,hn=>
  refine hl m rfl a ?_;rw[List.getLast?_eq_getElem?,Bi,Fh hn,FP,DQ]at ha;simpa using ha
abbrev AS (n:Nat):D:=u64 (n:Int)
def wL (l:List Nat):D:=.sl false 1 (l.map AS)
def wD (n:Nat):D:=wL (Ae n)
theorem K8 (l:List Nat):CC (wL l):=.sl λe he d hd=>by
 obtain⟨a,_,rfl⟩:=By.1 he;simp only[D.cells,Az,Dk,or_false]at hd;subst hd;exact .prim _
instance  (l:List Nat):AA (wL l):=⟨K8 l⟩
instance  (n:Nat):AA (wD n):=⟨K8 _⟩
theorem Dl {l:List Nat}{i a:Nat}(h:l[i]?=some a):(l.map AS)[i]?=some (AS a):=by rw[A8,h];rfl
theorem trim_ok (l:List Nat)(h:Wd l)(hlen:l.length<4000000000):AK C0 172 [wL l] (wD (AT l)):=by
 refine AZ.walk w1 bO rfl λF=>?_
 unfold wL;refine sR 0 ?_;refine sR 100 ?_;refine AC.seq ?_;refine AC.block ?_;have hml:((l.map AS).length:Int)=(l.length:Int):=by rw[Ag]
 rw[hml];refine AC.loop (α:=Nat×Nat) (λp=>⟨[(0,.sl false 1 (l.map AS)),(3,i64 p.1)],[],p.2⟩) (λp=>p.1)
  (λp=>p.1<=l.length/\∀j,p.1<=j->∀a,l[j]?=some a->a=0) (l.length,_) ⟨Al _,λj hj a ha=>by rw[Dy hj]at ha;cases ha⟩ AL ?_
 rintro⟨n,m⟩ F ⟨h1,h2⟩;dsimp only at h1 h2⊢;refine AC.seq ?_;refine AC.seq ?_;rcases n with _|n
 ·have z0:decide (((0:Nat):Int)>0)=false:=rfl
  refine Ao 200 ?_;refine AD z0 ?_;refine AN ?_;refine CK ?_;have ht:=Xm h 0 h2 (BU _) (by simp);refine sR 400 ?_;refine Ad ?_;refine AJ (d0:=wL (l.take 0)) ?_ AA.out;rw[ht];rfl
 ·obtain⟨a,ha⟩:∃a,l[n]?=some a:=⟨l[n],Cf⟩
  have hx:=Dl ha;have z1:decide (((n+1:Nat):Int)>0)=true:=BV;have w2:IntKind.i64.wrap (((n+1:Nat):Int)-1)=(n:Int):=by rw[wI];omega
  refine Ao 200 ?_;refine AD (Ab z1 w2) ?_;refine Bw z1 hx ?_;refine AD (Ab z1 w2) ?_;refine AN ?_
  (refine B1 (λh15=>?_) (λh15=>?_))<;>(try simp only[Bl,Bz]at h15)<;>(try simp only[h15])
  ·have ha0:a=0:=by
    have:(a:Int)=0:=by simpa using h15
    omega
   subst ha0;refine Aj ?_;refine AC.block ?_;refine Ao 300 ?_;refine AW w2 ?_;refine⟨(n,_),⟨by dsimp only;omega,λj hj b hb=>?_⟩,by dsimp only;omega,AL⟩;rcases Nat.eq_or_lt_of_le hj with rfl|hlt
   ·exact F8 (hb.symm.trans ha)
   ·exact h2 j hlt b hb
  ·have ha0:a≠0:=by
    intro h0;subst h0;simp at h15
   refine CK ?_;have ht:=Xm h (n+1) h2 h1 (λm hm b hb=>by
    obtain rfl:n=m:=by omega
    rw[ha]at hb;cases hb;exact ha0)
   refine sR 400 ?_;refine Ad ?_;have e4:List.take ((((n+1:Nat):Int)).toNat-0) (List.drop 0 (l.map AS))=(l.take (n+1)).map AS:=by
    rw[QF];simp
   rw[e4];refine AJ (d0:=wL (l.take (n+1))) ?_ AA.out;rw[ht];rfl
theorem H6 (b:Nat):∀a,b<=a->(Ae b).length<=(Ae a).length:=by
 induction b using Nat.strongRecOn with
 |ind b ih=>
  intro a h
  by_cases hb:b=0
  ·subst hb;rw[GR];exact BU _
  ·rw[Gl hb,Gl (n:=a) (by omega),Bq,Bq]
   exact Nat.succ_le_succ (ih _ (Ia (EP hb) (by decide)) _ (Nat.div_le_div_right h))
theorem Wu {a b:Nat}(h:(Ae a).length<(Ae b).length):a<b:=by
 rcases BA a b with h1|h1
 ·exact h1
 ·have:=H6 b a h1;omega
theorem K9 {l:List Nat}{k a:Nat}(h:l[k]?=some a):AT l=AT (l.take k)+BB^k*(a+BB*AT (l.drop (k+1))):=by
 have hk:k<l.length:=(BQ.1 h).1
 conv=>lhs;rw[<-Fj k l]
 rw[Kr,Bi,Fh (by omega)]
 have:l.drop k=a::l.drop (k+1):=by
  rw[EN hk]
  congr 1
  exact(BQ.1 h).2
 rw[this,AT]
theorem XX {l m:List Nat}{k a b:Nat}(hl:Wd l)(ha:l[k]?=some a)(hb:m[k]?=some b)(hd:l.drop (k+1)=m.drop (k+1))(hab:a<b):AT l<AT m:=by
 have hk:k<l.length:=(BQ.1 ha).1;rw[K9 ha,K9 hb,hd];have h1:=IC (hl.take k);rw[Bi,Fh (by omega)]at h1;generalize AT (m.drop (k+1))=r;have h2:BB^k*(a+BB*r)+BB^k<=BB^k*(b+BB*r):=by
  rw[<-Nat.mul_succ];exact Cr _ (by omega)
 omega
theorem Rc (a b:Nat)(ha:(Ae a).length<4000000000)(hb:(Ae b).length<4000000000):AK C0 166 [wD a,wD b] (i64 (EJ a b)):=by
 refine AZ.walk w1 bJ rfl λF=>?_
 have hwa:=Fr a;have hwb:=Fr b;have va:=FS a;have vb:=FS b;have hlt:=@Wu a b;have hgt:=@Wu b a;unfold wD wL EJ;generalize Ae a=la at*;generalize Ae b=lb at*;have ea:(((la.map AS).length:Nat):Int)=(la.length:Int):=by rw[Ag]
 have eb:(((lb.map AS).length:Nat):Int)=(lb.length:Int):=by rw[Ag]
 refine sR 0 ?_;refine AC.seq ?_;refine sZ 100 ?_;refine AW (Ab ea eb) ?_;refine AN ?_
 (refine B1 (λh10=>?_) (λh10=>?_))<;>(try simp only[Bl,Bz]at h10)<;>(try simp only[h10])
 ·have hne:la.length≠lb.length:=by
   have:(la.length:Int)≠lb.length:=by simpa using h10
   omega
  refine AC.seq ?_;refine sZ 200 ?_;refine AW (Ab ea eb) ?_;refine AN ?_
  (refine B1 (λh15=>?_) (λh15=>?_))<;>(try simp only[Bl,Bz]at h15)<;>(try simp only[h15])
  ·have h1:la.length<lb.length:=by
    have:(la.length:Int)<lb.length:=by simpa using h15
    omega
   rw[AH (by have:=hlt h1;omega)];refine sR 300 ?_;refine Ad ?_;exact AJ rfl AA.out
  ·have h1:lb.length<la.length:=by
    have:¬(la.length:Int)<lb.length:=by simpa using h15
    omega
   have h2:=hgt h1;rw[CR,DQ];refine Aj ?_;refine sR 400 ?_;refine Ad ?_;exact AJ rfl AA.out
 ·have hl:la.length=lb.length:=by
   have:(la.length:Int)=lb.length:=by simpa using h10
   omega
  clear hlt hgt;refine Aj ?_;refine AC.seq ?_;refine sZ 500 ?_;refine AW ea ?_;refine AC.block ?_;have w0:IntKind.i64.wrap ((la.length:Int)-1)=(la.length:Int)-1:=wI;rw[w0];refine AC.loop (α:=Nat×Nat) (λp=>⟨[(0,.sl false 1 (la.map AS)),(1,.sl false 1 (lb.map AS)),(5,i64 ((p.1:Int)-1))],[],p.2⟩) (λp=>p.1)
   (λp=>p.1<=la.length/\la.drop p.1=lb.drop p.1) (la.length,_) ⟨Al _,by rw[Jr,hl,Jr]⟩ AL ?_
  rintro⟨k,m⟩ F ⟨h1,h2⟩;dsimp only at h1 h2⊢;refine AC.seq ?_;refine sR 600 ?_;refine AN ?_
  (refine B1 (λh20=>?_) (λh20=>?_))<;>(try simp only[Bl,Bz]at h20)<;>(try simp only[h20])
  ·obtain⟨j,rfl⟩:∃j,k=j+1:=⟨k-1,by
    have:(k:Int)-1>=0:=by simpa using h20
    omega⟩
   have wj:((j+1:Nat):Int)-1=(j:Int):=by omega
   obtain⟨x,hx⟩:∃x,la[j]?=some x:=⟨la[j],Cf⟩
   obtain⟨y,hy⟩:∃y,lb[j]?=some y:=⟨lb[j],Cf⟩
   have hx':=Dl hx;have hy':=Dl hy;rw[wj];refine Aj ?_;refine AC.seq ?_;refine AC.block ?_;refine AC.seq ?_;refine CM 800 [0,1,2,3,4,5,6,7] [8] ?_;refine AD kN ?_;refine Bw kT hx' ?_;refine AD kN ?_;refine Bw kT hy' ?_;refine AD kN ?_;refine AD kN ?_;refine AN ?_
   (refine B1 (λh31=>?_) (λh31=>?_))<;>(try simp only[Bl,Bz]at h31)<;>(try simp only[h31])
   ·have hne:x≠y:=by
     intro h0;subst h0;simp at h31
    refine AC.seq ?_;refine AC.seq ?_;refine CM 900 [0,1,2,3,4,5,6,7] [8] ?_;refine AD kN ?_;refine Bw kT hx' ?_;refine AD kN ?_;refine Bw kT hy' ?_;refine AD kN ?_;refine AD kN ?_;refine AN ?_
    (refine B1 (λh40=>?_) (λh40=>?_))<;>(try simp only[Bl,Bz]at h40)<;>(try simp only[h40])
    ·have hxy:x<y:=by
      have:(x:Int)<y:=by simpa using h40
      omega
     have:=XX hwa hx hy h2 hxy
     rw[DQ];refine sR 1000 ?_;refine Ad ?_;exact AJ rfl AA.out
    ·have hxy:y<x:=by
      have:¬(x:Int)<y:=by simpa using h40
      omega
     have:=XX hwb hy hx h2.symm hxy
     rw[CR,DQ];refine Aj ?_;refine sR 1100 ?_;refine Ad ?_;exact AJ rfl AA.out
   ·have hxy:x=y:=by
     have:(x:Int)=y:=by simpa using h31
     omega
    subst hxy;have w5:IntKind.i64.wrap ((j:Int)-1)=(j:Int)-1:=wI;refine Aj ?_;refine Ao 700 ?_;refine AW w5 ?_;have hj:=(BQ.1 hx)
    have hj':=(BQ.1 hy)
    refine⟨(j,_),⟨by dsimp only;omega,?_⟩,by dsimp only;omega,AL⟩;dsimp only;rw[EN hj.1,EN hj'.1,hj.2,hj'.2,h2]
  ·have hk:k=0:=by
    have:¬((k:Int)-1>=0):=by simpa using h20
    omega
   subst hk;have hab:a=b:=by
    rw[<-va,<-vb]
    have:la=lb:=by simpa using h2
    rw[this]
   subst hab;rw[CR,CR];refine CK ?_;refine sR 1200 ?_;refine Ad ?_;exact AJ rfl AA.out
theorem Ye {a b c:Nat}(hc:c<=1):Ld 211 [AS a,AS b,AS c]=some (.tup [AS ((a+b+c)%BB),AS ((a+b+c)/BB)]):=by
 show(match Nat.ble c 1 with
  |true=>some (D.tup [.prim (.int .u64 (((a+b+c)%18446744073709551616:Nat):Int)),.prim (.int .u64 (((a+b+c)/18446744073709551616:Nat):Int))])
  |false=>none)=_
 have h1:Nat.ble c 1=true:=by rw[Nat.ble_eq];exact hc
 rw[h1]
theorem Fq {l:List Nat}{i a:Nat}(h:l[i]?=some a):l.take (i+1)=l.take i++[a]:=by rw[D8,h];rfl
theorem RJ {l:List Nat}{i a:Nat}(h:i<l.length):(l.set i a).take (i+1)=l.take i++[a]:=by
 rw[Fq (l:=l.set i a) (i:=i) (a:=a) (by simp[h]),List.take_set_of_le (Al _)]
theorem HD {l:List Nat}{i a:Nat}(hi:l.length=i):AT (l++[a])=AT l+BB^i*a:=by rw[Kr,hi];simp[AT]
theorem map_set {l:List Nat}{i a:Nat}:(l.map AS).set i (AS a)=(l.set i a).map AS:=List.map_set.symm
theorem Wd.set {l:List Nat}(h:Wd l){i a:Nat}(ha:a<BB):Wd (l.set i a):=λb hb=>by
 rcases List.mem_or_eq_of_mem_set hb with h1|rfl
 ·exact h b h1
 ·exact ha
theorem M9 (n:Nat):Wd (List.replicate n 0):=λa ha=>by rw[P1 ha];decide
theorem Vh {env:Ap}{t K g n N:Nat}{z:List Nat}{T:Nat}(hl:z.length=N)(he:env.get t=.osl K g 1 0 N:=by exact rfl):Wk ⟨env,[⟨K,g,T,1,z.map AS⟩],n⟩ ⟨[(t,.sl false 1 (z.map AS))],[],n⟩:=by
 subst hl;refine⟨.drop .nil,⟨?_,trivial⟩,Al _⟩;dsimp only;rw[he]
 have:=Rw K g T 1 (z.map AS)
 rwa [Ag]at this
theorem pg (la lb:List Nat)(ha:Wd la)(hb:Wd lb)(hla:la.length<4000000)(hlb:lb.length<4000000):AK C0 165 [wL la,wL lb] (wD (AT la+AT lb)):=by
 refine AZ.walk w1 bI rfl λF=>?_
 unfold wL;have ea:(((la.map AS).length:Nat):Int)=(la.length:Int):=by rw[Ag]
 have eb:(((lb.map AS).length:Nat):Int)=(lb.length:Int):=by rw[Ag]
 obtain⟨x,y,hsw,hle,hx,hy,hlx,hv⟩:∃x y:List Nat,(la.length<lb.length/\x=lb/\y=la\/¬la.length<lb.length/\x=la/\y=lb)/\y.length<=x.length/\Wd x/\Wd y/\x.length<4000000/\AT la+AT lb=AT x+AT y:=by
  by_cases h:la.length<lb.length
  ·exact⟨lb,la,.inl ⟨h,rfl,rfl⟩,by omega,hb,ha,hlb,by omega⟩
  ·exact⟨la,lb,.inr ⟨h,rfl,rfl⟩,by omega,ha,hb,hla,rfl⟩
 rw[hv];refine sR 0 ?_;refine D6 ⟨[(0,.sl false 1 (x.map AS)),(1,.sl false 1 (y.map AS)),(4,CS)],[],20⟩ ?_ ?_
 ·refine sZ 100 ?_
  refine AW (Ab ea eb) ?_;refine AN ?_;rcases hsw with⟨h,rfl,rfl⟩|⟨h,rfl,rfl⟩
  ·have e1:decide ((y.length:Int)<(x.length:Int))=true:=BV
   rw[e1];refine rI 200 ?_;exact BK (by trivial) (AL)
  ·have e1:decide ((x.length:Int)<(y.length:Int))=false:=Bc
   rw[e1];refine Aj ?_;exact BK (by trivial) (AL)
 clear hsw ea eb;have ex:(((x.map AS).length:Nat):Int)=(x.length:Int):=by rw[Ag]
 have ey:(((y.map AS).length:Nat):Int)=(y.length:Int):=by rw[Ag]
 have w3:IntKind.i64.wrap ((x.length:Int)+1)=((x.length+1:Nat):Int):=by rw[wI];omega
 have r3:List.replicate (x.length+1) (ofV (.int .u64 0))=(List.replicate (x.length+1) 0).map AS:=by rw[Kf];rfl
 refine sZ 300 ?_;refine AW (Ar ex w3 kN) ?_;refine sR 400 ?_;refine AC.seq ?_;refine sZ 500 ?_;refine AW ex ?_;refine AC.block ?_;refine AC.loop (α:=Nat×Nat×List Nat×Nat) (λp=>⟨[(0,.sl false 1 (x.map AS)),(1,.sl false 1 (y.map AS)),(4,CS),(5,.osl 303 23 1 0 (x.length+1)),(6,AS p.2.1),(21,i64 x.length),(22,i64 p.1)],[⟨303,23,172,1,p.2.2.1.map AS⟩],p.2.2.2⟩) (λp=>x.length-p.1)
  (λp=>p.1<=x.length/\p.2.1<=1/\p.2.2.1.length=x.length+1/\Wd p.2.2.1/\AT (p.2.2.1.take p.1)+BB^p.1*p.2.1=AT (x.take p.1)+AT (y.take p.1)) (0,0,List.replicate (x.length+1) 0,_)
  ⟨BU _,BU _,by simp,M9 _,by simp[AT]⟩ (by rw[<-r3];exact AL) ?_
 rintro⟨i,c,o,m⟩ F ⟨h1,h2,h3,h4,h5⟩;dsimp only at h1 h2 h3 h4 h5⊢;refine sR 600 ?_;refine AC.seq ?_;refine AN ?_
 (refine B1 (λh23=>?_) (λh23=>?_))<;>(try simp only[Bl,Bz]at h23)<;>(try simp only[h23])
 ·have hi:i<x.length:=by simpa using h23
  obtain⟨a,hxa⟩:∃a,x[i]?=some a:=⟨x[i],Bo hi⟩
  have ha:=Dl hxa;obtain⟨v,hvl,hvv⟩:∃v,v<BB/\(i<y.length/\y[i]?=some v\/y.length<=i/\v=0):=by
   by_cases h:i<y.length
   ·exact⟨y[i],hy _ (List.getElem_mem h),.inl ⟨h,Bo h⟩⟩
   ·exact⟨0,by decide,.inr ⟨by omega,rfl⟩⟩
  have hal:a<BB:=hx a (Ay hxa);have hyv:AT (y.take (i+1))=AT (y.take i)+BB^i*v:=by
   rcases hvv with⟨h,hh⟩|⟨h,rfl⟩
   ·rw[Fq hh,HD (i:=i) (by rw[Bi];omega)]
   ·rw[Gj,Ch h];simp
  have hoi:i<o.length:=by omega
  obtain⟨oi,hoa⟩:∃a,o[i]?=some a:=⟨o[i],Bo hoi⟩
  have hob:=Dl hoa;have hadd:=Ye (a:=a) (b:=v) h2;have wi:IntKind.i64.wrap ((i:Int)+1)=((i+1:Nat):Int):=wI;refine Aj ?_;refine AC.seq ?_;refine AC.block ?_;refine sR 700 ?_;refine sR 800 ?_;refine D6 ⟨[(0,.sl false 1 (x.map AS)),(1,.sl false 1 (y.map AS)),(4,CS),(5,.osl 303 23 1 0 (x.length+1)),(6,AS c),(7,i64 i),(8,AS v),(21,i64 x.length),(22,i64 i)],[⟨303,23,172,1,o.map AS⟩],m+30⟩ ?_ ?_
  ·refine sZ 900 ?_
   refine AW ey ?_;refine AN ?_;rcases hvv with⟨h,hh⟩|⟨h,rfl⟩
   ·have hy':=Dl hh
    have e1:decide ((i:Int)<(y.length:Int))=true:=BV;rw[e1];refine rI 1000 ?_;refine AD kN ?_;refine Bw kT hy' ?_;refine BO ?_;exact BK (by trivial) (AL)
   ·have e1:decide ((i:Int)<(y.length:Int))=false:=Bc
    rw[e1];refine Aj ?_;exact BK (by trivial) (AL)
  refine rI 1100 ?_;refine AD kN ?_;refine Bw kT ha ?_;refine AD kN ?_
  first|(refine ET rfl rfl ?_;refine Ro rfl rfl (hadd) ?_)|(refine FE rfl rfl ?_;refine O8 rfl rfl (hadd) ?_)
  refine AD (Ar kN BZ hob) ?_;have hs:(a+v+c)%BB<BB:=B7 _ (by decide);have hc':(a+v+c)/BB<=1:=by
   have:a+v+c<2*BB:=by omega
   exact OB (Fk (by rw[BY];exact this))
  rw[map_set];refine Ao 1200 ?_;refine AW wi ?_;refine⟨(i+1,(a+v+c)/BB,o.set i ((a+v+c)%BB),_),⟨hi,hc',by dsimp only;rw[D9];exact h3,h4.set hs,?_⟩,by dsimp only;omega,AL⟩;dsimp only;rw[RJ hoi,HD (i:=i) (by rw[Bi];omega),Fq hxa,HD (i:=i) (by rw[Bi];omega),hyv];have hm:=FM (a+v+c) BB;rw[CQ,Bx,E5,<-BN,hm,BN,BN];omega
 ·have hi:i=x.length:=by
   have:¬i<x.length:=by simpa using h23
   omega
  subst hi;obtain⟨oi,hoa⟩:∃a,o[x.length]?=some a:=⟨o[x.length],Cf⟩
  have hob:=Dl hoa;refine CK ?_;refine sZ 1300 ?_;refine AD (BS ex kN BZ hob) ?_;rw[map_set];have ho:o.set x.length c=o.take x.length++[c]:=by
   have:=RJ (l:=o) (i:=x.length) (a:=c) (by omega)
   rwa [Ch (by rw[D9];omega)]at this
  have hov:AT (o.set x.length c)=AT x+AT y:=by
   rw[ho,HD (i:=x.length) (by rw[Bi];omega),h5,Ch (Al _),Ch hle]
  have how:Wd (o.set x.length c):=h4.set (DH h2 (by decide));have hol:(o.set x.length c).length=x.length+1:=by rw[D9];exact h3
  generalize o.set x.length c=z at*;refine AC.weak ⟨[(5,.sl false 1 (z.map AS))],[],_⟩ (Vh hol) ?_;refine sR 1400 ?_;refine A7.same _ (trim_ok z how (by omega)) AI ?_;refine BO ?_;refine Ad ?_;exact AJ (by rw[hov]) AA.out
theorem UO {a b c:Nat}(hc:c<=1):Ld 212 [AS a,AS b,AS c]=some (.tup [AS ((a+BB-b-c)%BB),AS (if a<b+c then 1 else 0)]):=by
 show(match Nat.ble c 1 with
  |true=>some (D.tup [.prim (.int .u64 (((a+18446744073709551616-b-c)%18446744073709551616:Nat):Int)),.prim (.int .u64 ((if a<b+c then 1 else 0:Nat):Int))])
  |false=>none)=_
 have h1:Nat.ble c 1=true:=by rw[Nat.ble_eq];exact hc
 rw[h1]
theorem UG {a v c:Nat}(ha:a<BB)(hv:v<BB)(hc:c<=1):(a+BB-v-c)%BB+v+c=a+BB*(if a<v+c then 1 else 0):=by
 by_cases h:a<v+c
 ·rw[AH h,JL];omega
 ·rw[AG h]
  have:a+BB-v-c=(a-v-c)+BB:=by omega
  rw[this,Nat.add_mod_right,JL];omega
theorem rU (x y:List Nat)(hx:Wd x)(hy:Wd y)(hlx:x.length<4000000)(hle:y.length<=x.length)(hv:AT y<=AT x):AK C0 167 [wL x,wL y] (wD (AT x-AT y)):=by
 refine AZ.walk w1 bK rfl λF=>?_
 unfold wL;have ex:(((x.map AS).length:Nat):Int)=(x.length:Int):=by rw[Ag]
 have ey:(((y.map AS).length:Nat):Int)=(y.length:Int):=by rw[Ag]
 have r3:List.replicate x.length (ofV (.int .u64 0))=(List.replicate x.length 0).map AS:=by rw[Kf];rfl
 refine sR 0 ?_;refine sZ 100 ?_;refine AW (Ab ex kN) ?_;refine sR 200 ?_;refine AC.seq ?_;refine sZ 300 ?_;refine AW ex ?_;refine AC.block ?_;refine AC.loop (α:=Nat×Nat×List Nat×Nat) (λp=>⟨[(0,.sl false 1 (x.map AS)),(1,.sl false 1 (y.map AS)),(4,CS),(5,.osl 102 3 1 0 x.length),(6,AS p.2.1),(13,i64 x.length),(14,i64 p.1)],[⟨102,3,172,1,p.2.2.1.map AS⟩],p.2.2.2⟩) (λp=>x.length-p.1)
  (λp=>p.1<=x.length/\p.2.1<=1/\p.2.2.1.length=x.length/\Wd p.2.2.1/\AT (p.2.2.1.take p.1)+AT (y.take p.1)=AT (x.take p.1)+BB^p.1*p.2.1) (0,0,List.replicate x.length 0,_)
  ⟨BU _,BU _,by simp,M9 _,by simp[AT]⟩ (by rw[<-r3];exact AL) ?_
 rintro⟨i,c,o,m⟩ F ⟨h1,h2,h3,h4,h5⟩;dsimp only at h1 h2 h3 h4 h5⊢;refine sR 400 ?_;refine AC.seq ?_;refine AN ?_
 (refine B1 (λh23=>?_) (λh23=>?_))<;>(try simp only[Bl,Bz]at h23)<;>(try simp only[h23])
 ·have hi:i<x.length:=by simpa using h23
  obtain⟨a,hxa⟩:∃a,x[i]?=some a:=⟨x[i],Bo hi⟩
  have ha:=Dl hxa;obtain⟨v,hvl,hvv⟩:∃v,v<BB/\(i<y.length/\y[i]?=some v\/y.length<=i/\v=0):=by
   by_cases h:i<y.length
   ·exact⟨y[i],hy _ (List.getElem_mem h),.inl ⟨h,Bo h⟩⟩
   ·exact⟨0,by decide,.inr ⟨by omega,rfl⟩⟩
  have hal:a<BB:=hx a (Ay hxa);have hyv:AT (y.take (i+1))=AT (y.take i)+BB^i*v:=by
   rcases hvv with⟨h,hh⟩|⟨h,rfl⟩
   ·rw[Fq hh,HD (i:=i) (by rw[Bi];omega)]
   ·rw[Gj,Ch h];simp
  have hoi:i<o.length:=by omega
  obtain⟨oi,hoa⟩:∃a,o[i]?=some a:=⟨o[i],Bo hoi⟩
  have hob:=Dl hoa;have hsub:=UO (a:=a) (b:=v) h2;have hdig:=UG hal hvl h2;have hc':(if a<v+c then 1 else 0)<=1:=by split<;>decide
  have hs:(a+BB-v-c)%BB<BB:=B7 _ (by decide);generalize(if a<v+c then 1 else 0)=c' at*;generalize(a+BB-v-c)%BB=d at*;have wi:IntKind.i64.wrap ((i:Int)+1)=((i+1:Nat):Int):=wI;refine Aj ?_;refine AC.seq ?_;refine AC.block ?_;refine sR 500 ?_;refine sR 600 ?_;refine D6 ⟨[(0,.sl false 1 (x.map AS)),(1,.sl false 1 (y.map AS)),(4,CS),(5,.osl 102 3 1 0 x.length),(6,AS c),(7,i64 i),(8,AS v),(13,i64 x.length),(14,i64 i)],[⟨102,3,172,1,o.map AS⟩],m+30⟩ ?_ ?_
  ·refine sZ 700 ?_
   refine AW ey ?_;refine AN ?_;rcases hvv with⟨h,hh⟩|⟨h,rfl⟩
   ·have hy':=Dl hh
    have e1:decide ((i:Int)<(y.length:Int))=true:=BV;rw[e1];refine rI 800 ?_;refine AD kN ?_;refine Bw kT hy' ?_;refine BO ?_;exact BK (by trivial) (AL)
   ·have e1:decide ((i:Int)<(y.length:Int))=false:=Bc
    rw[e1];refine Aj ?_;exact BK (by trivial) (AL)
  refine rI 900 ?_;refine AD kN ?_;refine Bw kT ha ?_;refine AD kN ?_
  first|(refine ET rfl rfl ?_;refine Ro rfl rfl (hsub) ?_)|(refine FE rfl rfl ?_;refine O8 rfl rfl (hsub) ?_)
  refine AD (Ar kN BZ hob) ?_;rw[map_set];refine Ao 1000 ?_;refine AW wi ?_;refine⟨(i+1,c',o.set i d,_),⟨hi,hc',by dsimp only;rw[D9];exact h3,h4.set hs,?_⟩,by dsimp only;omega,AL⟩;dsimp only;rw[RJ hoi,HD (i:=i) (by rw[Bi];omega),Fq hxa,HD (i:=i) (by rw[Bi];omega),hyv];have h6:BB^i*d+BB^i*v+BB^i*c=BB^i*a+BB^(i+1)*c':=by
   rw[CQ,Bx,<-BN,<-BN,<-BN,hdig]
  omega
 ·have hi:i=x.length:=by
   have:¬i<x.length:=by simpa using h23
   omega
  subst hi;rw[Ch (Nat.le_of_eq h3),Ch (Al _),Ch hle]at h5;have hlt:=IC h4;rw[h3]at hlt;have hc0:c=0:=by
   rcases ED c with h|h
   ·exact h
   ·have:c=1:=by omega
    subst this;rw[EO]at h5;omega
  subst hc0;have hov:AT o=AT x-AT y:=by
   rw[E6]at h5;omega
  refine CK ?_;refine AC.weak ⟨[(5,.sl false 1 (o.map AS))],[],_⟩ (Vh h3) ?_;refine sR 1100 ?_;refine A7.same _ (trim_ok o h4 (by omega)) AI ?_;refine BO ?_;refine Ad ?_;exact AJ (by rw[hov]) AA.out
theorem J5:∀ {l:List Nat} {k o d:Nat},l[k]?=some o->AT (l.set k d)+BB^k*o=AT l+BB^k*d
 |a::l,0,o,d,h=>by
  simp only[S5,BL]at h;subst h;simp only[List.set_cons_zero,AT,Mq,JD];omega
 |a::l,k+1,o,d,h=>by
  simp only[Kb]at h;have ih:=J5 (d:=d) h;simp only[List.set_cons_succ,AT];have h1:BB^(k+1)*o=BB*(BB^k*o):=by rw[CQ,BY (BB^k) BB,Bx]
  have h2:BB^(k+1)*d=BB*(BB^k*d):=by rw[CQ,BY (BB^k) BB,Bx]
  have h3:BB*AT (l.set k d)+BB*(BB^k*o)=BB*AT l+BB*(BB^k*d):=by rw[<-BN,<-BN,ih]
  omega
theorem m6 {x y o c:Nat}(hx:x<BB)(hy:y<BB)(ho:o<BB)(hc:c<BB):
  ∃hi lo c1 lo1 hi1 c2 lo2 c',hi=x*y/BB/\lo=x*y%BB/\lo1=(lo+o+0)%BB/\c1=(lo+o+0)/BB/\hi1=hi+c1/\hi1<BB/\lo2=(lo1+c+0)%BB/\c2=(lo1+c+0)/BB/\c'=hi1+c2/\c'<BB/\lo2<BB /\
   lo2+BB*c'=x*y+o+c:=by
 refine⟨_,_,_,_,_,_,_,_,rfl,rfl,rfl,rfl,rfl,?_,rfl,rfl,rfl,?_,B7 _ (by decide),?_⟩
 all_goals
  unfold BB at*;have e1:=FM (x*y) 18446744073709551616;have e2:=FM (x*y%18446744073709551616+o+0) 18446744073709551616;have e3:=FM ((x*y%18446744073709551616+o+0)%18446744073709551616+c+0) 18446744073709551616;have hxy:x*y<=(18446744073709551616-1)*(18446744073709551616-1):=F9 (by omega) (by omega);have hk:(18446744073709551616-1)*(18446744073709551616-1)=340282366920938463426481119284349108225:=by decide
  rw[hk]at hxy;have l1:=B7 (x*y) (show 18446744073709551616>0 by decide);have l2:=B7 (x*y%18446744073709551616+o+0) (show 18446744073709551616>0 by decide);have l3:=B7 ((x*y%18446744073709551616+o+0)%18446744073709551616+c+0) (show 18446744073709551616>0 by decide);generalize x*y=p at*;generalize hA:p/18446744073709551616=A at*;generalize hB:p%18446744073709551616=B at*;generalize hC:(B+o+0)/18446744073709551616=C at*;generalize hD:(B+o+0)%18446744073709551616=D at*;generalize hE:(D+c+0)/18446744073709551616=E at*;generalize hF:(D+c+0)%18446744073709551616=F at*;omega
theorem TS {n:Nat}(h:n<BB):IntKind.u64.wrap (n:Int)=(n:Int):=wU (by omega) (by unfold BB at h;omega)
theorem pt (a b:List Nat)(ha:Wd a)(hb:Wd b)(hla:a.length<1000000)(hlb:b.length<1000000):AK C0 164 [wL a,wL b] (wD (AT a*AT b)):=by
 refine AZ.walk w1 bF rfl λF=>?_
 unfold wL;have ea:(((a.map AS).length:Nat):Int)=(a.length:Int):=by rw[Ag]
 have eb:(((b.map AS).length:Nat):Int)=(b.length:Int):=by rw[Ag]
 have wl:IntKind.i64.wrap ((a.length:Int)+(b.length:Int))=((a.length+b.length:Nat):Int):=by rw[wI];omega
 have r3:List.replicate (a.length+b.length) (ofV (.int .u64 0))=(List.replicate (a.length+b.length) 0).map AS:=by rw[Kf];rfl
 refine sR 0 ?_;refine sZ 100 ?_;refine AW (BS ea eb wl kN) ?_;refine AC.seq ?_;refine sZ 200 ?_;refine AW ea ?_;refine AC.block ?_;refine AC.loop (α:=Nat×List Nat×Nat) (λp=>⟨[(0,.sl false 1 (a.map AS)),(1,.sl false 1 (b.map AS)),(4,CS),(5,.osl 105 6 1 0 (a.length+b.length)),(20,.sl false 1 (a.map AS)),(21,i64 a.length),(22,i64 p.1)],[⟨105,6,172,1,p.2.1.map AS⟩],p.2.2⟩) (λp=>a.length-p.1)
  (λp=>p.1<=a.length/\p.2.1.length=a.length+b.length/\Wd p.2.1/\AT p.2.1=AT (a.take p.1)*AT b/\∀k,p.1+b.length<=k->∀d,p.2.1[k]?=some d->d=0) (0,List.replicate (a.length+b.length) 0,_)
  ⟨BU _,by simp,M9 _,by simp[AT,Qi],λk _ d hd=>P1 (Ay hd)⟩ (by rw[<-r3];exact AL) ?_
 rintro⟨i,o,m⟩ F ⟨h1,h2,h3,h4,h5⟩;dsimp only at h1 h2 h3 h4 h5⊢;refine sR 300 ?_;refine AC.seq ?_;refine AN ?_
 (refine B1 (λh23=>?_) (λh23=>?_))<;>(try simp only[Bl,Bz]at h23)<;>(try simp only[h23])
 ·have hi:i<a.length:=by simpa using h23
  obtain⟨x,hx⟩:∃x,a[i]?=some x:=⟨a[i],Bo hi⟩
  have hx':=Dl hx;have hxl:x<BB:=ha x (Ay hx);have wi:IntKind.i64.wrap ((i:Int)+1)=((i+1:Nat):Int):=wI;have hax:AT (a.take (i+1))=AT (a.take i)+BB^i*x:=by rw[Fq hx,HD (i:=i) (by rw[Bi];omega)]
  refine Aj ?_;refine AC.seq ?_;refine AC.block ?_;refine sR 400 ?_;refine Bw kT hx' ?_;refine BO ?_;refine sR 500 ?_;refine AC.seq ?_;refine sZ 600 ?_;refine AW eb ?_;refine AC.block ?_;refine AC.loop (α:=Nat×Nat×List Nat×Nat) (λp=>⟨[(0,.sl false 1 (a.map AS)),(1,.sl false 1 (b.map AS)),(4,CS),(5,.osl 105 6 1 0 (a.length+b.length)),(6,i64 i),(7,AS x),(8,AS p.2.1),(20,.sl false 1 (a.map AS)),(21,i64 a.length),(22,i64 i),(27,.sl false 1 (b.map AS)),(28,i64 b.length),(29,i64 p.1)],[⟨105,6,172,1,p.2.2.1.map AS⟩],p.2.2.2⟩) (λp=>b.length-p.1)
   (λp=>p.1<=b.length/\p.2.1<BB/\p.2.2.1.length=a.length+b.length/\Wd p.2.2.1/\AT p.2.2.1+BB^(i+p.1)*p.2.1=AT (a.take i)*AT b+BB^i*x*AT (b.take p.1)/\∀k,i+b.length<=k->∀d,p.2.2.1[k]?=some d->d=0) (0,0,o,_)
   ⟨BU _,show 0<BB by decide,h2,h3,by simp[AT,h4],h5⟩ AL ?_
  rintro⟨j,c,q,m2⟩ F ⟨g1,g2,g3,g4,g5,g6⟩;dsimp only at g1 g2 g3 g4 g5 g6⊢;clear h2 h3 h4 h5 r3 wl;refine sR 700 ?_;refine AC.seq ?_;refine AN ?_
  (refine B1 (λh30=>?_) (λh30=>?_))<;>(try simp only[Bl,Bz]at h30)<;>(try simp only[h30])
  ·have hj:j<b.length:=by simpa using h30
   obtain⟨y,hy⟩:∃y,b[j]?=some y:=⟨b[j],Bo hj⟩
   have hy':=Dl hy;have hyl:y<BB:=hb y (Ay hy);obtain⟨z,hz⟩:∃z,q[i+j]?=some z:=⟨q[i+j],Cf⟩
   have hz':=Dl hz;have hzl:z<BB:=g4 z (Ay hz);have wj:IntKind.i64.wrap ((j:Int)+1)=((j+1:Nat):Int):=wI;have wij:IntKind.i64.wrap ((i:Int)+(j:Int))=((i+j:Nat):Int):=by rw[wI];omega
   have hbx:AT (b.take (j+1))=AT (b.take j)+BB^j*y:=by rw[Fq hy,HD (i:=j) (by rw[Bi];omega)]
   have cm:=Oq x y hxl hyl;obtain⟨hi',lo,c1,lo1,hi1,c2,lo2,c',e1,e2,e3,e4,e5,e6,e7,e8,e9,e10,e11,e12⟩:=m6 hxl hyl hzl g2;rw[show x*y/18446744073709551616=hi' from e1.symm,show x*y%18446744073709551616=lo from e2.symm]at cm;have e3':(lo+z+0)%18446744073709551616=lo1:=e3.symm;have e4':(lo+z+0)/18446744073709551616=c1:=e4.symm;have e7':(lo1+c+0)%18446744073709551616=lo2:=e7.symm;have e8':(lo1+c+0)/18446744073709551616=c2:=e8.symm;have w6:IntKind.u64.wrap ((hi':Int)+(c1:Int))=(hi1:Int):=by rw[<-Int.natCast_add,<-e5];exact TS e6
   have w7:IntKind.u64.wrap ((hi1:Int)+(c2:Int))=(c':Int):=by rw[<-Int.natCast_add,<-e9];exact TS e10
   refine Aj ?_;refine AC.seq ?_;refine AC.block ?_;refine sR 800 ?_;refine Bw kT hy' ?_;refine BO ?_;refine sR 900 ?_;refine A7.same _ cm AI ?_;refine BO ?_;refine sR 1000 ?_;refine sZ 1100 ?_;refine AD (Ek wij kN BZ hz' e3' e4') ?_;refine sZ 1200 ?_;refine AW w6 ?_;refine sZ 1300 ?_;refine AW (Ab e7' e8') ?_;refine Ao 1400 ?_;refine AD (CI wij w7 kN BZ hz') ?_;rw[show(D.prim (Value.int IntKind.u64 (lo2:Int)))=AS lo2 from rfl,map_set];refine Ao 1500 ?_;refine AW wj ?_;refine⟨(j+1,c',q.set (i+j) lo2,_),⟨hj,e10,by dsimp only;rw[D9];exact g3,g4.set e11,?_,λk hk d hd=>?_⟩,by dsimp only;omega,AL⟩
   ·dsimp only
    have hs:=J5 (d:=lo2) hz;rw[hbx,BN,<-E5 (AT (a.take i)*AT b),<-g5];have h6:BB^(i+j)*lo2+BB^(i+(j+1))*c'=BB^i*x*(BB^j*y)+BB^(i+j)*z+BB^(i+j)*c:=by
     have:BB^i*x*(BB^j*y)=BB^(i+j)*(x*y):=by
      rw[Ge,Bx,Bx,JB x]
     rw[this,<-E5 i j 1,CQ,Bx,<-BN,<-BN,<-BN,e12]
    omega
   ·dsimp only at hk hd
    rw[I9 (by omega)]at hd;exact g6 k hk d hd
  ·have hj:j=b.length:=by
    have:¬j<b.length:=by simpa using h30
    omega
   subst hj;obtain⟨z,hz⟩:∃z,q[i+b.length]?=some z:=⟨q[i+b.length],Cf⟩
   have hz0:z=0:=g6 _ (Al _) _ hz;subst hz0;have hz':=Dl hz;have wij:IntKind.i64.wrap ((i:Int)+(b.length:Int))=((i+b.length:Nat):Int):=by rw[wI];omega
   have wij0:IntKind.i64.wrap ((i:Int)+(((b.map AS).length:Nat):Int))=((i+b.length:Nat):Int):=by rw[eb];exact wij
   refine CK ?_;refine Ao 1600 ?_;refine AD (CI eb wij kN BZ hz') ?_;rw[map_set];refine Ao 1700 ?_;refine AW wi ?_;refine⟨(i+1,q.set (i+b.length) c,_),⟨hi,by dsimp only;rw[D9];exact g3,g4.set g2,?_,λk hk d hd=>?_⟩,by dsimp only;omega,AL⟩
   ·dsimp only
    have hs:=J5 (d:=c) hz;rw[Ch (Al _)]at g5;rw[hax,Bv];omega
   ·dsimp only at hk hd
    rw[I9 (by omega)]at hd;exact g6 k (by omega) d hd
 ·have hi:i=a.length:=by
   have:¬i<a.length:=by simpa using h23
   omega
  subst hi;rw[Ch (Al _)]at h4;refine CK ?_;refine AC.weak ⟨[(5,.sl false 1 (o.map AS))],[],_⟩ (Vh h2) ?_;refine sR 1800 ?_;refine A7.same _ (trim_ok o h3 (by omega)) AI ?_;refine BO ?_;refine Ad ?_;exact AJ (by rw[h4]) AA.out
structure GI where
 z:Int
 sm:Bool
def GI.wf (x:GI):Prop:=(x.sm=true→-9223372036854775808<=x.z/\x.z<9223372036854775808)/\(x.sm=false->¬Sm x.z)
def GI.s (x:GI):Int:=match x.sm with
 |true=>x.z
 |false=>if x.z<0 then -1 else 1
def GI.w (x:GI):D:=match x.sm with
 |true=>CS
 |false=>wD x.z.natAbs
abbrev GI.D (x:GI):D:=.agg [i64 x.s,x.w]
theorem w9 (x:GI):CC x.w:=by
 unfold GI.w;split
 ·exact .prim _
 ·exact K8 _
instance  (x:GI):AA x.w:=⟨w9 x⟩
instance  (z:Int):Decidable (Sm z):=inferInstanceAs (Decidable (_/\_))
def AX (z:Int):GI:=⟨z,decide (Sm z)⟩
theorem Cv (z:Int):(AX z).wf:=by
 refine⟨λh=>?_,λh=>?_⟩
 ·have h:Sm z:=DJ h
  exact⟨Int.le_of_lt h.1,h.2⟩
 ·exact Db h
theorem KH {z:Int}(h:Sm z):AX z=⟨z,true⟩:=by unfold AX;rw[Au h]
theorem VN {z:Int}(h:¬Sm z):AX z=⟨z,false⟩:=by unfold AX;rw[Av h]
theorem M2 {n:Nat}(h0:n≠0)(h:n<BB):Ae n=[n]:=by
 rw[Gl h0,Ff h,Hy h,GR]
theorem ID {n:Nat}(h:n≠0):(Ae n).map AS≠[]:=by rw[Gl h];simp
theorem dL (x:GI)(h:x.wf):(x.s<0)=(x.z<0):=by
 obtain⟨z,sm⟩:=x;cases sm with
 |true=>rfl
 |false=>
  unfold GI.s;dsimp only;split<;>simp<;>omega
theorem yC {H Hf:Hp}(n:Nat)(h0:n≠0)(h:n<BB):Fz H Hf (.sl true 1 [AS n]) (wD n):=by
 unfold wD wL;rw[M2 h0 h];exact .nn true 1 _
theorem eK {H Hf:Hp}{a b c d:D}(h:Fz H Hf a c)(k:Fz H Hf b d):Fz H Hf (.tup [a,b]) (.tup [c,d]):=.tup rfl λi x y hx hy=>by
 match i with
 | 0=>simp at hx hy;subst hx;subst hy;exact h
 | 1=>simp at hx hy;subst hx;subst hy;exact k
 |i+2=>simp at hx
instance  (a b:Nat):AA (.tup [wD a,wD b]):=AI
theorem ob:AK C0 162 [i64 (-9223372036854775808)] (AS 9223372036854775808):=CV Dv 1000 40
theorem PK {z:Int}(h1 : -9223372036854775808<=z)(h2:z<9223372036854775808):AK C0 162 [i64 z] (AS z.natAbs):=by
 by_cases h:z = -9223372036854775808
 ·subst h;exact ob
 ·exact rO z ⟨by omega,h2⟩
theorem J4 (x:GI)(h:x.wf):AK C0 126 [x.D] (.tup [Ai (decide (x.z<0)),wD x.z.natAbs]):=by
 refine AZ.walk w1 bu rfl λF=>?_
 obtain⟨z,sm⟩:=x;obtain⟨h1,h2⟩:=h;unfold GI.D GI.s GI.w;cases sm with
 |true=>
  obtain⟨h3,h4⟩:=h1 rfl;dsimp only at h3 h4⊢;have cs:=PK h3 h4;refine sR 0 ?_;refine AC.seq ?_;refine AC.block ?_;refine sR 100 ?_;refine AN ?_;refine sR 300 ?_;refine AN ?_
  (refine B1 (λh13=>?_) (λh13=>?_))<;>(try simp only[Bl,Bz]at h13)<;>(try simp only[h13])
  ·have hz:z=0:=by simpa using h13
   subst hz;refine sR 400 ?_;refine Ad ?_;refine⟨_,eK (.refl _) (c:=Ai (decide ((0:Int)<0))) (d:=wD (Int.natAbs 0)) ?_,AA.out,rfl⟩;show Fz _ _ CS (wD 0);unfold wD wL;rw[GR];exact .nil 1
  ·have hz:z≠0:=by simpa using h13
   refine Aj ?_;refine AC.seq ?_;refine CM 500 [0,1,2,3,4,5,6,7] [8] ?_;refine AD kN ?_;refine Bb.same _ cs AI ?_;refine BO ?_;refine Ad ?_;refine⟨_,eK (.refl _) (c:=Ai (decide (z<0))) (yC z.natAbs (by omega) (by unfold BB;omega)),AA.out,rfl⟩
 |false=>
  have hb:=h2 rfl;have hs:=dL ⟨z,false⟩ ⟨h1,h2⟩;unfold GI.s at hs;dsimp only at hb hs⊢;have hne:=ID (n:=z.natAbs) (by intro h0;apply hb;exact⟨by omega,by omega⟩);have hp:CC (.sl false 1 ((Ae z.natAbs).map AS)):=K8 _;unfold wD wL;generalize(Ae z.natAbs).map AS=l at*;generalize(if z<0 then(-1:Int)else 1)=sg at*;refine sR 0 ?_;refine AC.seq ?_;refine AC.block ?_;refine sZ 100 ?_;refine AW (Ar (@ne_eq (List D)) hne Es) ?_;refine AN ?_;refine AC.seq ?_;refine CM 200 [0,1,2,3,4,5] [6] ?_;refine BO ?_;refine Ad ?_;refine AJ ?_ (.tup λd hd=>?_)
  ·simp only[hs]
  ·simp only[Az,Dk,or_false]at hd
   rcases hd with rfl|rfl
   ·exact .prim _
   ·exact hp
def EL (neg:Bool)(n:Nat):Int:=match neg with
 |true=>-(n:Int)
 |false=>n
theorem ME (neg:Bool)(n:Nat)(hlen:(Ae n).length<4000000):AK C0 163 [Ai neg,wD n] (AX (EL neg n)).D:=by
 refine AZ.walk w1 bE rfl λF=>?_
 by_cases h0:n=0
 ·subst h0
  have e:AX (EL neg 0)=⟨0,true⟩:=by cases neg<;>exact KH ⟨by decide,by decide⟩
  rw[e];unfold wD wL GI.D GI.s GI.w;rw[GR];dsimp only[List.map];refine sR 0 ?_;refine AC.seq ?_;refine AC.block ?_;refine sR 100 ?_;refine AN ?_;refine sR 200 ?_;refine Ad ?_;exact AJ rfl AA.out
 ·by_cases h1:n<BB
  ·have hl:=M2 h0 h1
   have b1:(((1:Nat):Int)==0)=false:=rfl;have b2:(((1:Nat):Int)==1)=true:=rfl;have hx:[AS n][(0:Int).toNat]?=some (AS n):=rfl
   by_cases h2:n<=9223372036854775807
   ·have b3:decide ((n:Int)<=9223372036854775807)=true:=BV
    have hsm:Sm (EL neg n):=by unfold EL;split<;>exact⟨by omega,by omega⟩
    rw[KH hsm];unfold wD wL GI.D GI.s GI.w;rw[hl];dsimp only[List.map];have w1':IntKind.i64.wrap (n:Int)=(n:Int):=wN h2;have w2':IntKind.i64.wrap (0-(n:Int)) = -(n:Int):=by rw[wI];omega
    cases neg with
    |true=>
     unfold EL;dsimp only;refine sR 0 ?_;refine AC.seq ?_;refine AC.block ?_;refine sZ 100 ?_;refine AW b1 ?_;refine AN ?_;refine sZ 300 ?_;refine AD (Ab b2 b3) ?_;refine AD (Ab b2 b3) ?_;refine Bw b2 hx ?_;refine AD (Ab b2 b3) ?_;refine AD (Ab b2 b3) ?_;refine AN ?_;refine sZ 400 ?_;refine AD b2 ?_;refine Bw b2 hx ?_;refine AD (Ab w1' w2') ?_;refine Ad ?_;exact AJ rfl AA.out
    |false=>
     unfold EL;dsimp only;refine sR 0 ?_;refine AC.seq ?_;refine AC.block ?_;refine sZ 100 ?_;refine AW b1 ?_;refine AN ?_;refine sZ 300 ?_;refine AD (Ab b2 b3) ?_;refine AD (Ab b2 b3) ?_;refine Bw b2 hx ?_;refine AD (Ab b2 b3) ?_;refine AD (Ab b2 b3) ?_;refine AN ?_;refine sZ 500 ?_;refine AD (Ab b2 b3) ?_;refine AD (Ab b2 b3) ?_;refine Bw b2 hx ?_;refine AD (Ab b2 b3) ?_;refine AD (Ab b2 b3) ?_;refine AN ?_;refine sZ 600 ?_;refine AD b2 ?_;refine Bw b2 hx ?_;refine AD (Ab w1' w2') ?_;refine Ad ?_;exact AJ rfl AA.out
   ·have b3:decide ((n:Int)<=9223372036854775807)=false:=Bc
    have hsm:¬Sm (EL neg n):=by
     intro hs;have h3:=hs.1;have h4:=hs.2
     revert h3 h4
     unfold EL;split<;>intro h3 h4<;>omega
    rw[VN hsm];have ha:(EL neg n).natAbs=n:=by unfold EL;split<;>omega
    unfold GI.D GI.s GI.w;dsimp only;rw[ha];unfold wD wL;rw[hl];dsimp only[List.map];cases neg with
    |true=>
     have hs:(if EL true n<0 then(-1:Int)else 1) = -1:=AH (by show -(n:Int)<0;omega);rw[hs];refine sR 0 ?_;refine AC.seq ?_;refine AC.block ?_;refine sZ 100 ?_;refine AW b1 ?_;refine AN ?_;refine sZ 300 ?_;refine AD (Ab b2 b3) ?_;refine AD (Ab b2 b3) ?_;refine Bw b2 hx ?_;refine AD (Ab b2 b3) ?_;refine AD (Ab b2 b3) ?_;refine AN ?_;refine sZ 500 ?_;refine AD (Ab b2 b3) ?_;refine AD (Ab b2 b3) ?_;refine Bw b2 hx ?_;refine AD (Ab b2 b3) ?_;refine AD (Ab b2 b3) ?_;refine AN ?_;refine sR 700 ?_;refine AN ?_;refine sR 800 ?_;refine Ad ?_;exact AJ rfl AA.out
    |false=>
     have hs:(if EL false n<0 then(-1:Int)else 1)=1:=AG (by show ¬(n:Int)<0;omega);rw[hs];refine sR 0 ?_;refine AC.seq ?_;refine AC.block ?_;refine sZ 100 ?_;refine AW b1 ?_;refine AN ?_;refine sZ 300 ?_;refine AD (Ab b2 b3) ?_;refine AD (Ab b2 b3) ?_;refine Bw b2 hx ?_;refine AD (Ab b2 b3) ?_;refine AD (Ab b2 b3) ?_;refine AN ?_;refine sZ 500 ?_;refine AD (Ab b2 b3) ?_;refine AD (Ab b2 b3) ?_;refine Bw b2 hx ?_;refine AD (Ab b2 b3) ?_;refine AD (Ab b2 b3) ?_;refine AN ?_;refine sR 700 ?_;refine AN ?_;refine Aj ?_;refine sR 900 ?_;refine Ad ?_;exact AJ rfl AA.out
  ·have hl2:2<=(Ae n).length:=by
    rw[Gl h0,Gl (n:=n/BB) (by
     intro h
     have:=E3 n BB
     have:=B7 n (show BB>0 by decide)
     rw[h]at*;omega)]
    simp
   have hsm:¬Sm (EL neg n):=by
    intro hs;have h3:=hs.1;have h4:=hs.2;have h5:BB<=n:=by omega
    unfold BB at h5
    revert h3 h4
    unfold EL;split<;>intro h3 h4<;>omega
   rw[VN hsm];have ha:(EL neg n).natAbs=n:=by unfold EL;split<;>omega
   have hp:AA (.sl false 1 ((Ae n).map AS)):=⟨K8 _⟩
   unfold GI.D GI.s GI.w;dsimp only;rw[ha];unfold wD wL;have hel:((((Ae n).map AS).length:Nat):Int)=((Ae n).length:Int):=by rw[Ag]
   generalize(Ae n).map AS=l at*;generalize hL:(Ae n).length=L at*;have b1:((L:Int)==0)=false:=Br.2 (by omega);have b2:((L:Int)==1)=false:=Br.2 (by omega);cases neg with
   |true=>
    have hs:(if EL true n<0 then(-1:Int)else 1) = -1:=AH (by show -(n:Int)<0;omega);rw[hs];refine sR 0 ?_;refine AC.seq ?_;refine AC.block ?_;refine sZ 100 ?_;refine AW (Ab hel b1) ?_;refine AN ?_;refine sZ 300 ?_;refine AW (Ab hel b2) ?_;refine AD (Ab hel b2) ?_;refine AD (Ab hel b2) ?_;refine AN ?_;refine sZ 500 ?_;refine AW (Ab hel b2) ?_;refine AD (Ab hel b2) ?_;refine AN ?_;refine sR 700 ?_;refine AN ?_;refine sR 800 ?_;refine Ad ?_;exact AJ rfl AA.out
   |false=>
    have hs:(if EL false n<0 then(-1:Int)else 1)=1:=AG (by show ¬(n:Int)<0;omega);rw[hs];refine sR 0 ?_;refine AC.seq ?_;refine AC.block ?_;refine sZ 100 ?_;refine AW (Ab hel b1) ?_;refine AN ?_;refine sZ 300 ?_;refine AW (Ab hel b2) ?_;refine AD (Ab hel b2) ?_;refine AD (Ab hel b2) ?_;refine AN ?_;refine sZ 500 ?_;refine AW (Ab hel b2) ?_;refine AD (Ab hel b2) ?_;refine AN ?_;refine sR 700 ?_;refine AN ?_;refine Aj ?_;refine sR 900 ?_;refine Ad ?_;exact AJ rfl AA.out
theorem NV (x:GI)(h:x.wf):AK C0 158 [x.D] (i64 (max (-1) (min 1 x.z))):=by
 refine AZ.walk w1 bA rfl λF=>?_
 have e:max (-1) (min 1 x.s)=max (-1) (min 1 x.z):=by
  obtain⟨z,sm⟩:=x;cases sm with
  |true=>rfl
  |false=>
   have hb:=h.2 rfl;unfold GI.s;dsimp only at hb⊢;unfold Sm at hb;split<;>omega
 refine fR 0 ?_;refine fR 100 ?_;rw[e];refine Ad ?_;exact AJ rfl AA.out
theorem oa (z:Int):EL (!decide (z<0)) z.natAbs = -z:=by
 by_cases h:z<0
 ·rw[Au h];show((z.natAbs:Nat):Int) = -z;omega
 ·rw[Av h];show -((z.natAbs:Nat):Int) = -z;omega
def GI.few (x:GI):Prop:=(Ae x.z.natAbs).length<1000000
theorem Pb (x:GI)(h:x.wf)(hf:x.few):AK C0 157 [x.D] (AX (-x.z)).D:=by
 by_cases hs:x.sm=true/\x.z ≠ -9223372036854775808
 ·obtain⟨z,sm⟩:=x
  obtain⟨rfl,hz⟩:=hs;have h1:=h.1 rfl;dsimp only at h1 hz⊢;have hsm:Sm z:=⟨by omega,h1.2⟩
  have:=vZ z hsm
  rw[KH ⟨by have:=hsm.2;omega,by have:=hsm.1;omega⟩];exact this
 ·refine AZ.walk w1 VE rfl λF=>?_
  have cp:=J4 x h;have cm:=ME (!decide (x.z<0)) x.z.natAbs (Gf hf (by decide));rw[oa]at cm;have hpr:AA (AX (-x.z)).w:=AI;dsimp only[GI.D]at cp cm⊢;generalize(AX (-x.z)).s=rs at*;generalize(AX (-x.z)).w=rw at*;obtain⟨z,sm⟩:=x;unfold GI.s GI.w at*;cases sm with
  |true=>
   have hz:z = -9223372036854775808:=DB λh0=>hs ⟨rfl,h0⟩
   subst hz;dsimp only at cp cm⊢;refine fR 0 ?_;refine AC.seq ?_;refine sZ 100 ?_
   repeat'(first|(refine BK (by exact CF) ?_;refine BJ ?_)|((refine B1 (λhb=>?_) (λhb=>?_))<;>(try simp only[Bl,Bz]at hb)<;>(try simp only[hb])<;>(refine BJ ?_)))
   refine AN ?_;refine Aj ?_;refine fR 300 ?_;refine dI cp ?_;refine fR 400 ?_;refine dI cm ?_;refine Ad ?_;exact AJ rfl AA.out
  |false=>
   have hne:=ID (n:=z.natAbs) (by
    intro h0
    have:=h.2 rfl
    apply this;exact⟨by dsimp only;omega,by dsimp only;omega⟩)
   dsimp only at cp cm⊢;unfold wD wL at*;have hp:AA (.sl false 1 ((Ae z.natAbs).map AS)):=⟨K8 _⟩
   generalize(Ae z.natAbs).map AS=l at*;generalize(if z<0 then(-1:Int)else 1)=sg at*;generalize decide (z<0)=nb at*;refine fR 0 ?_;refine AC.seq ?_;refine AC.seq ?_;refine Ao 100 ?_;refine AW (Ar (@ne_eq (List D)) hne Es) ?_;refine AD kT ?_;refine AD kT ?_;refine AN ?_;refine Aj ?_;refine fR 300 ?_;refine dI cp ?_;refine fR 400 ?_;refine dI cm ?_;refine Ad ?_;exact AJ rfl AA.out
theorem zr (a b:Nat)(ha:(Ae a).length<1000000)(hb:(Ae b).length<1000000):AK C0 165 [wD a,wD b] (wD (a+b)):=by
 have:=pg (Ae a) (Ae b) (Fr a) (Fr b) (Gf ha (by decide)) (Gf hb (by decide))
 rwa [FS,FS]at this
theorem iT (a b:Nat)(h:b<=a)(ha:(Ae a).length<1000000):AK C0 167 [wD a,wD b] (wD (a-b)):=by
 have:=rU (Ae a) (Ae b) (Fr a) (Fr b) (Gf ha (by decide)) (H6 b a h) (by rw[FS,FS];exact h)
 rwa [FS,FS]at this
theorem zb (a b:Nat)(ha:(Ae a).length<1000000)(hb:(Ae b).length<1000000):AK C0 164 [wD a,wD b] (wD (a*b)):=by
 have:=pt (Ae a) (Ae b) (Fr a) (Fr b) ha hb
 rwa [FS,FS]at this
theorem G9 {n k:Nat}(h:n<BB^k):(Ae n).length<=k:=by
 induction k generalizing n with
 |zero=>
  have:n=0:=by simpa using h
  subst this;rw[GR];exact Al _
 |succ k ih=>
  by_cases h0:n=0
  ·subst h0;rw[GR];exact BU _
  ·rw[Gl h0,Bq]
   exact Nat.succ_le_succ (ih (Fk (by rw[BY,<-CQ];exact h)))
theorem Jz (n:Nat):n<BB^(Ae n).length:=by
 have:=IC (Fr n)
 rwa [FS]at this
theorem X6 (a b:Nat):(Ae (a+b)).length<=max (Ae a).length (Ae b).length+1:=by
 refine G9 ?_;have h1:=Jz a;have h2:=Jz b;have m1:BB^(Ae a).length<=BB^max (Ae a).length (Ae b).length:=FO (by decide) (Nat.le_max_left _ _);have m2:BB^(Ae b).length<=BB^max (Ae a).length (Ae b).length:=FO (by decide) (Nat.le_max_right _ _);rw[CQ];generalize BB^max (Ae a).length (Ae b).length=q at*;unfold BB;omega
theorem X7 (a b:Nat):(Ae (a-b)).length<=(Ae a).length:=H6 _ _ (Nat.sub_le _ _)
def EZ (x y:GI):GI:=if x.sm=true/\y.sm=true/\x.z+y.z = -9223372036854775808 then⟨x.z+y.z,true⟩else AX (x.z+y.z)
theorem NO (x y:GI):(EZ x y).z=x.z+y.z:=by unfold EZ;split<;>rfl
theorem NC (x y:GI):(EZ x y).wf:=by
 unfold EZ;split
 ·rename_i h
  refine⟨λ_=>?_,λh=>by cases h⟩;dsimp only;rw[h.2.2];decide
 ·exact Cv _
theorem kV (x y:GI)(hx:x.sm=true)(hy:y.sm=true)(h1 : -9223372036854775808<=x.z+y.z)(h2:x.z+y.z<9223372036854775808):AK C0 122 [x.D,y.D] (EZ x y).D:=by
 obtain⟨a,sa⟩:=x;obtain⟨b,sb⟩:=y;dsimp only at hx hy h1 h2;subst hx;subst hy;have e:(EZ ⟨a,true⟩ ⟨b,true⟩).D=DL (a+b):=by
  unfold EZ;dsimp only;split
  ·rfl
  ·rename_i h
   have h3:¬a+b = -9223372036854775808:=λh0=>h ⟨rfl,rfl,h0⟩
   rw[KH ⟨by omega,h2⟩];rfl
 rw[e];show AK C0 _ [DL a,DL b] _;refine AZ.walk w1 VD rfl λF=>?_
 refine fR 0 ?_;refine AC.seq ?_;refine sZ 100 ?_
 repeat'(first|(refine BK (by exact CF) ?_;refine BJ ?_)|((refine B1 (λhb=>?_) (λhb=>?_))<;>(try simp only[Bl,Bz]at hb)<;>(try simp only[hb])<;>(refine BJ ?_)))
 refine AN ?_;have e1:IntKind.i64.wrap (a+b)=a+b:=wI;have e2:(decide (a+b>a)==decide (b>0))=true:=by
  rw[EQ,DA];omega
 refine sZ 200 ?_;refine Kj e1 ?_;refine fR 300 ?_;rw[e2];refine AN ?_;refine fR 400 ?_;refine Ad ?_;exact AJ rfl AA.out
theorem pd (x y:GI)(hx:x.wf)(hy:y.wf)(fx:x.few)(fy:y.few)(hn:¬(x.sm=true/\y.sm=true∧-9223372036854775808<=x.z+y.z/\x.z+y.z<9223372036854775808)):AK C0 122 [x.D,y.D] (AX (x.z+y.z)).D:=by
 refine AZ.walk w1 VD rfl λF=>?_
 have cx:=J4 x hx;have cy:=J4 y hy;have hpr:AA (AX (x.z+y.z)).w:=AI;have hpx:AA x.w:=AI;have hpy:AA y.w:=AI;have la:=X6 x.z.natAbs y.z.natAbs;have ls:=X7 x.z.natAbs y.z.natAbs;have ls':=X7 y.z.natAbs x.z.natAbs;unfold GI.few at fx fy;dsimp only[GI.D]at*;refine fR 0 ?_;refine D6 ⟨[(2,.optr 0 0 2 0 0),(3,.optr 1 1 2 0 0),(4,.optr 2 2 2 0 0)],[⟨2,2,81,2,[DL 0]⟩,⟨1,1,81,2,[.agg [i64 y.s,y.w]]⟩,⟨0,0,81,2,[.agg [i64 x.s,x.w]]⟩],60⟩ ?_ ?_
 ·obtain⟨a,sa⟩:=x
  obtain⟨b,sb⟩:=y;clear cx cy la ls ls' hpr;have nx:sa=false->(Ae a.natAbs).map AS≠[]:=λh=>ID (by
   intro h0;subst h;exact hx.2 rfl ⟨by dsimp only;omega,by dsimp only;omega⟩)
  have ny:sb=false->(Ae b.natAbs).map AS≠[]:=λh=>ID (by
   intro h0;subst h;exact hy.2 rfl ⟨by dsimp only;omega,by dsimp only;omega⟩)
  unfold GI.s GI.w wD wL at*;dsimp only at*;generalize(Ae a.natAbs).map AS=ka at*;generalize(Ae b.natAbs).map AS=kb at*;cases sa with
  |false=>
   have nx:=nx rfl;dsimp only at*;generalize(if a<0 then(-1:Int)else 1)=sg at*;generalize(match sb with|true=>b|false=>if b<0 then(-1:Int)else 1)=sh at*;generalize(match sb with|true=>CS|false=>D.sl false 1 kb)=wy at*;refine AC.seq ?_;refine Ao 100 ?_;refine AW (Ar (@ne_eq (List D)) nx Es) ?_;refine AD kT ?_;refine AD kT ?_;refine AN ?_;refine Aj ?_;exact BK (by trivial) (AL)
  |true=>
   dsimp only at*;cases sb with
   |false=>
    have ny:=ny rfl;dsimp only at*;generalize(if b<0 then(-1:Int)else 1)=sh at*;refine AC.seq ?_;refine Ao 100 ?_;refine AW (Ar (@ne_eq (List D)) ny Es) ?_;refine AD (BS kT (@ne_eq (List D)) ny Es) ?_;refine AD (BS kT (@ne_eq (List D)) ny Es) ?_;refine AN ?_;refine Aj ?_;exact BK (by trivial) (AL)
   |true=>
    have ra:=hx.1 rfl;have rb:=hy.1 rfl;dsimp only at*;have e2:(decide (IntKind.i64.wrap (a+b)>a)==decide (b>0))=false:=by
     have hov:¬(-9223372036854775808<=a+b/\a+b<9223372036854775808):=λh=>hn ⟨rfl,rfl,h.1,h.2⟩
     have ew:IntKind.i64.wrap (a+b)=a+b-18446744073709551616/\9223372036854775808<=a+b\/IntKind.i64.wrap (a+b)=a+b+18446744073709551616/\a+b < -9223372036854775808:=by
      have e1:(2:Int)^IntKind.i64.bits=18446744073709551616:=rfl;have e2:(2:Int)^(IntKind.i64.bits-1)=9223372036854775808:=rfl;have e3:IntKind.i64.signed=true:=rfl;unfold IntKind.wrap;simp only[e1,e2,e3,Gc,G4];split<;>omega
     rw[Br,ne_eq,DA];omega
    refine sZ 100 ?_
    repeat'(first|(refine BK (by exact CF) ?_;refine BJ ?_)|((refine B1 (λhb=>?_) (λhb=>?_))<;>(try simp only[Bl,Bz]at hb)<;>(try simp only[hb])<;>(refine BJ ?_)))
    refine AN ?_;refine fR 200 ?_;refine fR 300 ?_;rw[e2];refine AN ?_;refine Aj ?_;exact BK (by trivial) (AL)
 ·refine fR 500 ?_
  refine dI cx ?_;refine fR 600 ?_;refine dI cy ?_;refine AC.seq ?_;refine AC.block ?_;refine fR 700 ?_
  by_cases hs:(decide (x.z<0))=(decide (y.z<0))
  ·have e1:(decide (x.z<0)==decide (y.z<0))=true:=EQ.2 hs
   rw[e1];have ca:=zr x.z.natAbs y.z.natAbs fx fy;have cm:=ME (decide (x.z<0)) (x.z.natAbs+y.z.natAbs) (by omega);have ez:EL (decide (x.z<0)) (x.z.natAbs+y.z.natAbs)=x.z+y.z:=by
    rw[DA]at hs
    by_cases h:x.z<0
    ·rw[Au h];have:=hs.1 h;show -(((x.z.natAbs+y.z.natAbs:Nat)):Int)=_;omega
    ·rw[Av h];have:¬y.z<0:=λh0=>h (hs.2 h0);show(((x.z.natAbs+y.z.natAbs:Nat)):Int)=_;omega
   rw[ez]at cm;dsimp only[GI.D]at cm;refine AN ?_;refine fR 800 ?_;refine dI ca ?_;refine dI cm ?_;refine Ad ?_;exact AJ rfl AA.out
  ·have e1:(decide (x.z<0)==decide (y.z<0))=false:=Br.2 hs
   rw[e1];have cc:=Rc x.z.natAbs y.z.natAbs (by omega) (by omega);refine AN ?_;refine fR 900 ?_;refine dI cc ?_
   by_cases hc:y.z.natAbs<=x.z.natAbs
   ·have e2:decide (EJ (x.z.natAbs:Nat) (y.z.natAbs:Nat)>=0)=true:=Au (by unfold EJ;split<;>(try split)<;>omega)
    rw[e2];have ca:=iT x.z.natAbs y.z.natAbs hc fx;have cm:=ME (decide (x.z<0)) (x.z.natAbs-y.z.natAbs) (by omega);have ez:EL (decide (x.z<0)) (x.z.natAbs-y.z.natAbs)=x.z+y.z:=by
     rw[DA]at hs
     by_cases h:x.z<0
     ·rw[Au h];have:¬y.z<0:=λh0=>hs ⟨λ_=>h0,λ_=>h⟩;show -(((x.z.natAbs-y.z.natAbs:Nat)):Int)=_;omega
     ·rw[Av h];have:y.z<0:=DB λh0=>hs ⟨λh1=>Af h1 h,λh1=>Af h1 h0⟩;show(((x.z.natAbs-y.z.natAbs:Nat)):Int)=_;omega
    rw[ez]at cm;dsimp only[GI.D]at cm;refine AN ?_;refine fR 1000 ?_;refine dI ca ?_;refine dI cm ?_;refine Ad ?_;exact AJ rfl AA.out
   ·have e2:decide (EJ (x.z.natAbs:Nat) (y.z.natAbs:Nat)>=0)=false:=Av (by unfold EJ;split<;>(try split)<;>omega)
    rw[e2];have ca:=iT y.z.natAbs x.z.natAbs (by omega) fy;have cm:=ME (decide (y.z<0)) (y.z.natAbs-x.z.natAbs) (by omega);have ez:EL (decide (y.z<0)) (y.z.natAbs-x.z.natAbs)=x.z+y.z:=by
     rw[DA]at hs
     by_cases h:y.z<0
     ·rw[Au h];have:¬x.z<0:=λh0=>hs ⟨λ_=>h,λ_=>h0⟩;show -(((y.z.natAbs-x.z.natAbs:Nat)):Int)=_;omega
     ·rw[Av h];have:x.z<0:=DB λh0=>hs ⟨λh1=>Af h1 h0,λh1=>Af h1 h⟩;show(((y.z.natAbs-x.z.natAbs:Nat)):Int)=_;omega
    rw[ez]at cm;dsimp only[GI.D]at cm;refine AN ?_;refine Aj ?_;refine fR 1100 ?_;refine dI ca ?_;refine dI cm ?_;refine Ad ?_;exact AJ rfl AA.out
theorem PS (x y:GI)(hx:x.wf)(hy:y.wf)(fx:x.few)(fy:y.few):AK C0 122 [x.D,y.D] (EZ x y).D:=by
 by_cases h:x.sm=true/\y.sm=true∧-9223372036854775808<=x.z+y.z/\x.z+y.z<9223372036854775808
 ·exact kV x y h.1 h.2.1 h.2.2.1 h.2.2.2
 ·have:=pd x y hx hy fx fy h
  have e:EZ x y=AX (x.z+y.z):=by
   unfold EZ;rw[AG];rintro⟨h1,h2,h3⟩;exact h ⟨h1,h2,by omega,by omega⟩
  rw[e];exact this
theorem Zd {z:Int}(h:(Ae z.natAbs).length<1000000):(AX (-z)).few:=by
 show(Ae (-z).natAbs).length<1000000;rw[Mp];exact h
def I6 (x y:GI):GI:=EZ x (AX (-y.z))
theorem dU (x y:GI):(I6 x y).z=x.z-y.z:=by unfold I6;rw[NO];show x.z + -y.z=_;omega
theorem aT (x y:GI):(I6 x y).wf:=NC _ _
theorem gj (x y:GI)(hx:x.wf)(hy:y.wf)(fx:x.few)(fy:y.few):AK C0 258 [x.D,y.D] (I6 x y).D:=by
 refine AZ.walk w1 dc rfl λF=>?_
 have c1:=Pb y hy fy;have c2:=PS x (AX (-y.z)) hx (Cv _) fx (Zd fy);unfold I6;refine fR 0 ?_;refine AC.seq ?_;refine CM 100 [0,1,2] [3,4] ?_;refine CL ?_;refine Bb.same _ (c1) AI ?_;refine CL ?_;refine dI c2 ?_;refine Ad ?_;exact AJ rfl AA.out
theorem xU (x y:GI)(hx:x.wf)(hy:y.wf)(fx:x.few)(fy:y.few):AK C0 272 [x.D,y.D] (i64 (EJ x.z y.z)):=by
 by_cases h:x.sm=true/\y.sm=true
 ·obtain⟨a,sa⟩:=x
  obtain⟨b,sb⟩:=y;obtain⟨h1,h2⟩:=h;dsimp only at h1 h2;subst h1;subst h2;exact qS a b
 ·have cs:=gj x y hx hy fx fy
  have cg:=NV (I6 x y) (aT x y);rw[dU]at cg;have e:max (-1) (min 1 (x.z-y.z))=EJ x.z y.z:=by unfold EJ;split<;>(try split)<;>omega
  rw[e]at cg;have hpr:AA (I6 x y).w:=AI;have hpx:AA x.w:=AI;have hpy:AA y.w:=AI;dsimp only[GI.D]at*;generalize(I6 x y).s=rs at*;generalize(I6 x y).w=rw at*;generalize EJ x.z y.z=r at*;refine AZ.walk w1 VH rfl λF=>?_
  obtain⟨a,sa⟩:=x;obtain⟨b,sb⟩:=y;have nx:sa=false->(Ae a.natAbs).map AS≠[]:=λh=>ID (by
   intro h0;subst h;exact hx.2 rfl ⟨by dsimp only;omega,by dsimp only;omega⟩)
  have ny:sb=false->(Ae b.natAbs).map AS≠[]:=λh=>ID (by
   intro h0;subst h;exact hy.2 rfl ⟨by dsimp only;omega,by dsimp only;omega⟩)
  unfold GI.s GI.w wD wL at*;dsimp only at*;generalize(Ae a.natAbs).map AS=ka at*;generalize(Ae b.natAbs).map AS=kb at*;cases sa with
  |false=>
   have nx:=nx rfl;dsimp only at*;generalize(if a<0 then(-1:Int)else 1)=sg at*;generalize(match sb with|true=>b|false=>if b<0 then(-1:Int)else 1)=sh at*;generalize(match sb with|true=>CS|false=>D.sl false 1 kb)=wy at*;refine fR 0 ?_;refine AC.seq ?_;refine AC.seq ?_;refine Ao 100 ?_;refine AW (Ar (@ne_eq (List D)) nx Es) ?_;refine AD kT ?_;refine AD kT ?_;refine AN ?_;refine Aj ?_;refine fR 700 ?_;refine dI cs ?_;refine dI cg ?_;refine Ad ?_;exact AJ rfl AA.out
  |true=>
   dsimp only at*;cases sb with
   |false=>
    have ny:=ny rfl;dsimp only at*;generalize(if b<0 then(-1:Int)else 1)=sh at*;refine fR 0 ?_;refine AC.seq ?_;refine AC.seq ?_;refine Ao 100 ?_;refine AW (Ar (@ne_eq (List D)) ny Es) ?_;refine AD (BS kT (@ne_eq (List D)) ny Es) ?_;refine AD (BS kT (@ne_eq (List D)) ny Es) ?_;refine AN ?_;refine Aj ?_;refine fR 700 ?_;refine dI cs ?_;refine dI cg ?_;refine Ad ?_;exact AJ rfl AA.out
   |true=>exact Af ⟨rfl,rfl⟩ h
theorem L1 (a b:Nat):(Ae (a*b)).length<=(Ae a).length+(Ae b).length:=by
 refine G9 ?_;rw[Ge];exact Nat.mul_lt_mul'' (Jz a) (Jz b)
theorem o9 (a b:Int):EL (decide (a<0) != decide (b<0)) (a.natAbs*b.natAbs)=a*b:=by
 rw[<-KZ]
 by_cases h1:a<0<;>by_cases h2:b<0
 ·rw[Au h1,Au h2]
  have:0<=a*b:=Int.mul_nonneg_of_nonpos_of_nonpos (by omega) (by omega)
  show(((a*b).natAbs:Nat):Int)=a*b;omega
 ·rw[Au h1,Av h2]
  have:a*b<=0:=Int.mul_nonpos_of_nonpos_of_nonneg (by omega) (by omega)
  show -(((a*b).natAbs:Nat):Int)=a*b;omega
 ·rw[Av h1,Au h2]
  have:a*b<=0:=Int.mul_nonpos_of_nonneg_of_nonpos (by omega) (by omega)
  show -(((a*b).natAbs:Nat):Int)=a*b;omega
 ·rw[Av h1,Av h2]
  have:0<=a*b:=Int.mul_nonneg (by omega) (by omega)
  show(((a*b).natAbs:Nat):Int)=a*b;omega
theorem po (x y:GI)(hx:x.wf)(hy:y.wf)(fx:(Ae x.z.natAbs).length<400000)(fy:(Ae y.z.natAbs).length<400000)(hn:¬(x.sm=true/\y.sm=true/\(x.z*y.z).natAbs<=9223372036854775807)):AK C0 121 [x.D,y.D] (AX (x.z*y.z)).D:=by
 refine AZ.walk w1 VC rfl λF=>?_
 have cx:=J4 x hx;have cy:=J4 y hy;have hpr:AA (AX (x.z*y.z)).w:=AI;have hpx:AA x.w:=AI;have hpy:AA y.w:=AI;have lm:=L1 x.z.natAbs y.z.natAbs;have ca:=zb x.z.natAbs y.z.natAbs (by omega) (by omega);have cm:=ME (decide (x.z<0) != decide (y.z<0)) (x.z.natAbs*y.z.natAbs) (by omega);rw[o9]at cm;dsimp only[GI.D]at*;refine fR 0 ?_;refine D6 ⟨[(2,.optr 0 0 2 0 0),(3,.optr 1 1 2 0 0),(4,.optr 2 2 2 0 0)],[⟨2,2,81,2,[DL 0]⟩,⟨1,1,81,2,[.agg [i64 y.s,y.w]]⟩,⟨0,0,81,2,[.agg [i64 x.s,x.w]]⟩],90⟩ ?_ ?_
 ·obtain⟨a,sa⟩:=x
  obtain⟨b,sb⟩:=y;clear cx cy lm ca cm hpr;have nx:sa=false->(Ae a.natAbs).map AS≠[]:=λh=>ID (by
   intro h0;subst h;exact hx.2 rfl ⟨by dsimp only;omega,by dsimp only;omega⟩)
  have ny:sb=false->(Ae b.natAbs).map AS≠[]:=λh=>ID (by
   intro h0;subst h;exact hy.2 rfl ⟨by dsimp only;omega,by dsimp only;omega⟩)
  unfold GI.s GI.w wD wL at*;dsimp only at*;generalize(Ae a.natAbs).map AS=ka at*;generalize(Ae b.natAbs).map AS=kb at*;cases sa with
  |false=>
   have nx:=nx rfl;dsimp only at*;generalize(if a<0 then(-1:Int)else 1)=sg at*;generalize(match sb with|true=>b|false=>if b<0 then(-1:Int)else 1)=sh at*;generalize(match sb with|true=>CS|false=>D.sl false 1 kb)=wy at*;refine AC.seq ?_;refine Ao 100 ?_;refine AW (Ar (@ne_eq (List D)) nx Es) ?_;refine AD kT ?_;refine AD kT ?_;refine AN ?_;refine Aj ?_;exact BK (by trivial) (AL)
  |true=>
   dsimp only at*;cases sb with
   |false=>
    have ny:=ny rfl;dsimp only at*;generalize(if b<0 then(-1:Int)else 1)=sh at*;refine AC.seq ?_;refine Ao 100 ?_;refine AW (Ar (@ne_eq (List D)) ny Es) ?_;refine AD (BS kT (@ne_eq (List D)) ny Es) ?_;refine AD (BS kT (@ne_eq (List D)) ny Es) ?_;refine AN ?_;refine Aj ?_;exact BK (by trivial) (AL)
   |true=>
    have ra:=hx.1 rfl;have rb:=hy.1 rfl;dsimp only at*;have sa:=PK ra.1 ra.2;have sb:=PK rb.1 rb.2;have la:a.natAbs<BB:=by unfold BB;omega
    have lb:b.natAbs<BB:=by unfold BB;omega
    have c0:=Oq a.natAbs b.natAbs la lb;have hab:a.natAbs*b.natAbs=(a*b).natAbs:=(KZ a b).symm;have hbig:9223372036854775807<(a*b).natAbs:=DB λh=>hn ⟨rfl,rfl,by omega⟩
    rw[hab]at c0;generalize(a*b).natAbs=p at*;refine sZ 100 ?_
    repeat'(first|(refine BK (by exact CF) ?_;refine BJ ?_)|((refine B1 (λhb=>?_) (λhb=>?_))<;>(try simp only[Bl,Bz]at hb)<;>(try simp only[hb])<;>(refine BJ ?_)))
    refine AN ?_;refine AC.seq ?_;refine CM 200 [0,1,2,3,4,5,6,7,8,9,10] [11] ?_;refine CL ?_;refine Bb.same _ (sa) AI ?_;refine CL ?_;refine Bb.same _ (sb) AI ?_;refine CL ?_;refine Bb.same _ (c0) AI ?_;refine CL ?_;refine AC.seq ?_
    by_cases h0:p/18446744073709551616=0
    ·rw[h0]
     have h1:p%18446744073709551616=p:=by omega
     rw[h1];have e3:decide ((p:Int)<=9223372036854775807)=false:=Bc;refine Ao 300 ?_
     repeat'(first|(refine BK (by exact CF) ?_;refine BJ ?_)|((refine B1 (λhb=>?_) (λhb=>?_))<;>(try simp only[Bl,Bz]at hb)<;>(try simp only[hb])<;>(refine BJ ?_)))
     rw[e3];refine AN ?_;refine Aj ?_;exact BK (by trivial) (AL)
    ·have e3:(((p/18446744073709551616:Nat):Int)==0)=false:=Br.2 (by omega)
     refine Ao 300 ?_;refine AW e3 ?_;refine AD e3 ?_;refine AD e3 ?_;refine AN ?_;refine Aj ?_;exact BK (by trivial) (AL)
 ·refine fR 700 ?_
  refine dI cx ?_;refine fR 800 ?_;refine dI cy ?_;refine fR 900 ?_;refine dI ca ?_;refine dI cm ?_;refine Ad ?_;exact AJ rfl AA.out
theorem m7 (a b:Int)(hc:Sm (a*b))(ha : -9223372036854775808<=a/\a<9223372036854775808)(hb : -9223372036854775808<=b/\b<9223372036854775808):AK C0 121 [DL a,DL b] (DL (a*b)):=by
 refine AZ.walk w1 VC rfl λF=>?_
 have hab:a.natAbs*b.natAbs=(a*b).natAbs:=(KZ a b).symm;have h1:a.natAbs*b.natAbs/18446744073709551616=0:=by rw[hab];have:=hc.1;have:=hc.2;omega
 have h2:a.natAbs*b.natAbs%18446744073709551616=(a*b).natAbs:=by rw[hab];have:=hc.1;have:=hc.2;omega
 have c0:=Oq a.natAbs b.natAbs (by omega) (by omega);rw[h1,h2]at c0;refine fR 0 ?_;refine AC.seq ?_;refine sZ 100 ?_
 repeat'(first|(refine BK (by exact CF) ?_;refine BJ ?_)|((refine B1 (λhb=>?_) (λhb=>?_))<;>(try simp only[Bl,Bz]at hb)<;>(try simp only[hb])<;>(refine BJ ?_)))
 refine AN ?_;refine AC.seq ?_;refine CM 200 [0,1,2,3,4,5,6,7,8,9,10] [11] ?_;refine CL ?_;refine Bb.same _ (PK ha.1 ha.2) AI ?_;refine CL ?_;refine Bb.same _ (PK hb.1 hb.2) AI ?_;refine CL ?_;refine Bb.same _ (c0) AI ?_;refine CL ?_;refine sZ 300 ?_
 repeat'(first|(refine BK (by exact CF) ?_;refine BJ ?_)|((refine B1 (λhb=>?_) (λhb=>?_))<;>(try simp only[Bl,Bz]at hb)<;>(try simp only[hb])<;>(refine BJ ?_)))
 have e3:decide ((((a*b).natAbs:Nat):Int)<=9223372036854775807)=true:=Au (by have:=hc.1;have:=hc.2;omega);rw[e3];refine AN ?_;refine AC.seq ?_;refine fR 400 ?_;refine AN ?_;have e4:IntKind.i64.wrap (((a*b).natAbs:Nat):Int)=((a*b).natAbs:Nat):=wN (by have:=hc.1;have:=hc.2;omega)
 (refine B1 (λh41=>?_) (λh41=>?_))<;>(try simp only[Bl,Bz]at h41)<;>(try simp only[h41])
 ·have e5:IntKind.i64.wrap (0-(((a*b).natAbs:Nat):Int)) = -((a*b).natAbs:Nat):=by
   rw[wI (by have:=hc.1;have:=hc.2;omega) (by have:=hc.1;have:=hc.2;omega)];omega
  have e6 : -(((a*b).natAbs:Nat):Int)=a*b:=by
   have hs:(a<0)≠(b<0):=by simpa using h41
   have:a*b<=0:=by
    by_cases h1:a<0
    ·have h2:¬b<0:=λh2=>hs (by simp[h1,h2])
     exact Int.mul_nonpos_of_nonpos_of_nonneg (by omega) (by omega)
    ·have h2:b<0:=DB λh2=>hs (by simp[h1,h2])
     exact Int.mul_nonpos_of_nonneg_of_nonpos (by omega) (by omega)
   omega
  refine sZ 500 ?_;refine Kj (Ar e4 e5 e6) ?_;refine Ad ?_;exact AJ rfl AA.out
 ·have e6:(((a*b).natAbs:Nat):Int)=a*b:=by
   have hs:¬((a<0)≠(b<0)):=by simpa using h41
   have:0<=a*b:=by
    by_cases h1:a<0
    ·have h2:b<0:=DB λh2=>hs (by simp[h1,h2])
     exact Int.mul_nonneg_of_nonpos_of_nonpos (by omega) (by omega)
    ·have h2:¬b<0:=λh2=>hs (by simp[h1,h2])
     exact Int.mul_nonneg (by omega) (by omega)
   omega
  rw[e6]at e4;refine Aj ?_;refine sZ 600 ?_;refine Kj (Ab e6 e4) ?_;refine Ad ?_;exact AJ rfl AA.out
theorem gL (x y:GI)(hx:x.wf)(hy:y.wf)(fx:(Ae x.z.natAbs).length<400000)(fy:(Ae y.z.natAbs).length<400000):AK C0 121 [x.D,y.D] (AX (x.z*y.z)).D:=by
 by_cases h:x.sm=true/\y.sm=true/\(x.z*y.z).natAbs<=9223372036854775807
 ·obtain⟨a,sa⟩:=x
  obtain⟨b,sb⟩:=y;obtain⟨h1,h2,h3⟩:=h;dsimp only at h1 h2 h3;subst h1;subst h2;have hs:Sm (a*b):=⟨by omega,by omega⟩
  dsimp only;rw[KH hs];exact m7 a b hs (hx.1 rfl) (hy.1 rfl)
 ·exact po x y hx hy fx fy h
def Mf (x:GI):GI:=if x.z<0 then AX (-x.z)else x
theorem sI (x:GI):(Mf x).z=(x.z.natAbs:Nat):=by
 unfold Mf;split
 ·show -x.z=_;omega
 ·omega
theorem pZ (x:GI)(h:x.wf):(Mf x).wf:=by
 unfold Mf;split
 ·exact Cv _
 ·exact h
theorem fG (x:GI)(h:x.wf)(hf:x.few):AK C0 209 [x.D] (Mf x).D:=by
 refine AZ.walk w1 bZ rfl λF=>?_
 have hs:=dL x h;have cn:=Pb x h hf;have hpx:AA x.w:=AI;have hpr:AA (AX (-x.z)).w:=AI;unfold Mf
 by_cases hz:x.z<0
 ·have e:decide (x.s<0)=true:=Au (by rw[hs];exact hz)
  rw[AH hz];dsimp only[GI.D]at*;refine fR 0 ?_;refine AC.seq ?_;refine fR 100 ?_;rw[e];refine AN ?_;refine fR 200 ?_;refine dI cn ?_;refine Ad ?_;exact AJ rfl AA.out
 ·have e:decide (x.s<0)=false:=Av (by rw[hs];exact hz)
  rw[AG hz];dsimp only[GI.D]at*;refine fR 0 ?_;refine AC.seq ?_;refine fR 100 ?_;rw[e];refine AN ?_;refine Aj ?_;refine fR 300 ?_;refine Ad ?_;exact AJ rfl AA.out
structure L4 (B Y u1 u0:Nat)(q r:Nat):Prop where
 eq:q*(Y/B)+r=u1
 up:u1*B+u0<(q+1)*Y
 q2:q<=B+1
theorem XN {B Y u1 u0:Nat}(hB:0<B)(hY:B*B<=2*Y)(hY2:Y<B*B)(hev:B%2=0)(hu:u1<Y)(h0:u0<B):
  L4 B Y u1 u0 (u1/(Y/B)) (u1-u1/(Y/B)*(Y/B))/\u1-u1/(Y/B)*(Y/B)<B:=by
 have e:=E3 Y B;have m:=B7 Y hB;generalize hg:Y/B=y1 at*;generalize Y%B=y0 at*;have hy1:y1<B:=by
  rcases BA y1 B with h|h
  ·exact h
  ·have:=Cr B h
   omega
 have hy2:B<=2*y1:=by
  rcases BA (2*y1) B with h|h
  ·exfalso
   have h1:2*y1+2<=B:=by omega
   have h2:=Cr B h1;have h3:B*(2*y1+2)=2*(B*y1)+2*B:=by
    rw[BN,JB,BY B 2]
   omega
  ·exact h
 have e1:=E3 u1 y1;have m1:=B7 u1 (show 0<y1 by omega);have c1:y1*(u1/y1)=u1/y1*y1:=BY _ _;refine⟨⟨by rw[hg];omega,?_,?_⟩,by omega⟩
 ·generalize hq:u1/y1=q at*
  have h1:u1+1<=(q+1)*y1:=by rw[Bv];omega
  have h2:=CP B h1;have h3:(q+1)*Y=(q+1)*y1*B+(q+1)*y0:=by
   rw[<-e,BN,BY B y1,Bx]
  rw[Bv]at h2;omega
 ·rcases BA (B+1) (u1/y1)with h|h
  ·exfalso
   have h1:=Cr y1 (show B+2<=u1/y1 by omega);have h2:y1*(B+2)=B*y1+2*y1:=by rw[BN,BY y1 B,BY y1 2]
   omega
  ·exact h
theorem XT {B Y u1 u0 q r:Nat}(hB:0<B)(hu:u1<Y)(h0:u0<B)(I:L4 B Y u1 u0 q r)
  (c:B<=q\/B*r+u0<q*(Y%B)):0<q/\L4 B Y u1 u0 (q-1) (r+Y/B):=by
 have e:=E3 Y B;obtain⟨i1,i2,i3⟩:=I;generalize hg:Y/B=y1 at*;generalize Y%B=y0 at*;have hq:0<q:=by
  rcases c with c|c
  ·omega
  ·rcases ED q with h|h
   ·subst h;omega
   ·exact h
 obtain⟨p,rfl⟩:∃p,q=p+1:=⟨q-1,by omega⟩
 refine⟨hq,⟨?_,?_,?_⟩⟩
 ·rw[IY,hg,BY p];rw[Bv,BY p]at i1;omega
 ·rw[IY]
  rcases c with c|c
  ·have h1:=CP Y c
   have h2:(u1+1)*B<=Y*B:=CP B hu;rw[Bv]at h2;rw[BY Y B]at h2;omega
  ·have h3:(p+1)*Y=(p+1)*y1*B+(p+1)*y0:=by
    rw[<-e,BN,BY B y1,Bx]
   have h4:u1*B=(p+1)*y1*B+r*B:=by rw[<-i1,Bv]
   rw[BY r B]at h4;omega
 ·omega
theorem UA {B Y u1 u0 q r:Nat}(I:L4 B Y u1 u0 q r)
  (c:q*(Y%B)<=B*r+u0):q=(u1*B+u0)/Y:=by
 have e:=E3 Y B;obtain⟨i1,i2,i3⟩:=I;have h3:q*Y=q*(Y/B)*B+q*(Y%B):=by
  conv=>lhs;rw[<-e]
  rw[BN,BY B (Y/B),Bx]
 have h4:u1*B=q*(Y/B)*B+r*B:=by rw[<-i1,Bv]
 rw[BY r B]at h4;have h5:0<Y:=by
  rcases ED Y with h|h
  ·subst h;omega
  ·exact h
 symm
 apply Nat.div_eq_of_lt_le
 ·omega
 ·exact i2
theorem XM {B Y u1 u0 q r:Nat}(hB:0<B)(I:L4 B Y u1 u0 q r)(hq:q<=B)(hr:B<=r):
  q=(u1*B+u0)/Y:=by
 refine UA I ?_;have m:=B7 Y hB;have h1:q*(Y%B)<=B*B:=F9 hq (by omega);have h2:=Cr B hr;omega
theorem ku {B N S y u32 u1 u0 v:Nat}(hS:0<S)(hy:0<y)(hN:N*S=u32*(B*B)+(u1*B+u0))(hv:v=(u32*B+u1)%(y*S)):
  (u32*B+u1)/(y*S)*B+(v*B+u0)/(y*S)=N/y/\(v*B+u0)%(y*S)/S=N%y:=by
 have hY0:0<y*S:=G7 hy hS;have e1:=E3 (u32*B+u1) (y*S);have e2:=E3 (v*B+u0) (y*S);have m2:=B7 (v*B+u0) hY0;rw[<-hv]at e1;have dY:N*S/(y*S)=N/y:=P7 _ _ hS;have mY:N*S%(y*S)=N%y*S:=P8 _ _ _;generalize(u32*B+u1)/(y*S)=q1 at*;generalize(v*B+u0)/(y*S)=q0 at*;generalize(v*B+u0)%(y*S)=r at*;generalize y*S=Y at*;have hT:N*S=r+Y*(q1*B+q0):=by
  have c1:u32*(B*B)+u1*B=Y*q1*B+v*B:=by
   rw[<-Bx,<-Bv,<-e1,Bv]
  rw[hN,BN,<-Bx Y q1 B];omega
 refine⟨?_,?_⟩
 ·rw[<-dY,hT,TC _ _ hY0,Hy m2,BZ]
 ·rw[hT,S3,Ff m2]at mY
  rw[mY,Nat.mul_div_cancel _ hS]
theorem nf {hi lo y s:Nat}(hs:s<=63)(h1:hi<y)(hlo:lo<18446744073709551616):
  lo/2^(64-s)<2^s/\hi*2^s+lo/2^(64-s)<y*2^s /\
   (hi*18446744073709551616+lo)*2^s=(hi*2^s+lo/2^(64-s))*18446744073709551616+lo*2^s%18446744073709551616:=by
 have hp:0<2^s:=HU s;have hpp:2^(64-s)*2^s=18446744073709551616:=by
  rw[<-Ge,show 64-s+s=64 by omega]
 have hl:lo*2^s/18446744073709551616=lo/2^(64-s):=by
  rw[<-hpp,P7 _ _ hp]
 have hl2:lo/2^(64-s)<2^s:=Fk (by rw[hpp];exact hlo);refine⟨hl2,?_,?_⟩
 ·have:(hi+1)*2^s<=y*2^s:=CP _ h1
  rw[Bv]at this;omega
 ·have e:=E3 (lo*2^s) 18446744073709551616
  rw[hl]at e;rw[Bv,Bv,Nat.mul_right_comm];omega
theorem Vb {a b s:Nat}(h:b<2^s):(a*2^s) ||| b=a*2^s+b:=by
 rw[BY,Nat.two_pow_add_eq_or_of_lt h]
theorem gI (x:Nat)(hx:x<BB):AK C0 173 [AS x] (i64 (64-(Lib.bitLen x:Int))):=by
 refine⟨⟨_,_,Tryz.func173,rfl,by kernel_rfl⟩,λY w vs hG hnG hX hvs hr=>?_⟩
 have:=RH hvs hr
 subst this;refine(Tryz.bits_LeadingZeros64 x w (by omega) (by unfold BB at hx;omega)).mono ?_;rintro e w' ⟨rfl,rfl⟩;exact⟨_,_,rfl,.refl _ _,rfl,.prim _⟩
theorem XG {x:Nat}(h0:x≠0)(hx:x<BB):∃s,s<=63/\(64-(Lib.bitLen x:Int))=(s:Nat)/\9223372036854775808<=x*2^s/\x*2^s<18446744073709551616:=by
 obtain⟨h1,h2,h3⟩:=Lib.bitLenAux_bounds 64 x hx h0;have h4:=Lib.bitLen_le x 64 (Al _) hx;have h5:Lib.bitLenAux 64 x=Lib.bitLen x:=rfl;rw[h5]at h1 h2 h3;refine⟨64-Lib.bitLen x,by omega,by omega,?_,?_⟩
 ·have:=CP (2^(64-Lib.bitLen x)) h2
  rw[<-Ge,show Lib.bitLen x-1+(64-Lib.bitLen x)=63 by omega]at this;exact this
 ·have:=(Nat.mul_lt_mul_right (HU (64-Lib.bitLen x))).2 h3
  rw[<-Ge,show Lib.bitLen x+(64-Lib.bitLen x)=64 by omega]at this;exact this
theorem JS (n:Nat):IntKind.u64.wrap (n:Int)=((n%18446744073709551616:Nat):Int):=by
 have e1:(2:Int)^IntKind.u64.bits=18446744073709551616:=rfl;unfold IntKind.wrap;simp only[e1];have e3:IntKind.u64.signed=false:=rfl;rw[e3];simp only[Hx,Gd,if_false];omega
theorem Pa (x s:Nat)(hs:s<=63):LV .u64 (x:Int) (s:Int)=((x*2^s%18446744073709551616:Nat):Int):=by
 have hm:min ((s:Int)).toNat (IntKind.bits .u64)=s:=by
  have:IntKind.bits .u64=64:=rfl
  rw[this];omega
 unfold LV;rw[hm]
 have:(x:Int)*2^s=((x*2^s:Nat):Int):=by simp
 rw[this];exact JS _
theorem MT (x s:Nat)(hs:s<=64):LX .u64 (x:Int) (s:Int)=((x/2^s:Nat):Int):=by
 have hm:min ((s:Int)).toNat (IntKind.bits .u64)=s:=by
  have:IntKind.bits .u64=64:=rfl
  rw[this];omega
 unfold LX;rw[hm]
 have:(2:Int)^s=((2^s:Nat):Int):=by simp
 rw[this,Int.fdiv_eq_ediv_of_nonneg _ (Int.natCast_nonneg _)];exact(Int.natCast_ediv _ _).symm
theorem Sg (a:Nat)(ha:a<18446744073709551616):(BitVec.ofInt (IntKind.bits .u64) (a:Int)).toNat=a:=by
 rw[show IntKind.bits .u64=64 from rfl,BitVec.ofInt_natCast,BitVec.toNat_ofNat];exact Ff ha
theorem WT (a b:Nat)(ha:a<18446744073709551616)(hb:b<18446744073709551616):Hc .or .u64 (a:Int) (b:Int)=((a ||| b:Nat):Int):=by
 have h:a ||| b<2^64:=Nat.or_lt_two_pow ha hb;show IntKind.u64.wrap ((BitVec.ofInt (IntKind.bits .u64) (a:Int) ||| BitVec.ofInt (IntKind.bits .u64) (b:Int)).toNat:Int)=_;rw[BitVec.toNat_or,Sg a ha,Sg b hb,JS];exact congrArg Nat.cast (Ff h)
theorem fH (a:Nat)(ha:a<18446744073709551616):Hc .and .u64 (a:Int) 4294967295=((a%4294967296:Nat):Int):=by
 show IntKind.u64.wrap ((BitVec.ofInt (IntKind.bits .u64) (a:Int) &&& BitVec.ofInt (IntKind.bits .u64) ((4294967295:Nat):Int)).toNat:Int)=_;rw[BitVec.toNat_and,Sg a ha,Sg _ (by decide),JS,show(4294967295:Nat)=2^32-1 from rfl,Nat.and_two_pow_sub_one_eq_mod];exact congrArg Nat.cast (JL)
theorem Vm (a b:Nat):IntKind.u64.wrap ((a:Int).tdiv (b:Int))=((a/b%18446744073709551616:Nat):Int):=by
 rw[<-Int.ofNat_tdiv];exact JS _
theorem dV {a b:Nat}(h:b<=a)(ha:a<18446744073709551616):IntKind.u64.wrap ((a:Int)-(b:Int))=((a-b:Nat):Int):=by
 rw[<-Int.natCast_sub h,JS];exact congrArg Nat.cast (JL)
section
variable {C:A9} {B F:AY} {s:St} {rd:Option Nat} {Q:Exit->AY->St->Prop}
theorem Sz {a b:Code}(S:Nat->St)(h1:AC C B rd F a s (λe F1 s1=>Je (F1=F/\∃n,Wk s1 (S n)) (λe=>Q e F1 s1) e))(h2:∀n,AC C B rd F b (S n) Q):AC C B rd F (.seq a b) s Q:=
 AC.seq (h1.mono λe F1 s1 h=>by
  cases e with
  |normal=>
   obtain⟨h0,n,h3⟩:=(show F1=F/\∃n,Wk s1 (S n)from h)
   rw[h0];exact AC.weak (S n) h3 (h2 n)
  |ret=>exact h
  |exit j=>exact h
  |goto l=>exact h
  |panic c=>exact h
  |outgrown=>exact h)
end
theorem NJ (z:Int):IntKind.u64.wrap z=z%18446744073709551616:=by
 have e1:(2:Int)^IntKind.u64.bits=18446744073709551616:=rfl;unfold IntKind.wrap;simp only[e1];have e3:IntKind.u64.signed=false:=rfl;rw[e3];simp only[Hx,Gd,if_false]
theorem jr (a b:Nat)(ha:a<4294967296)(hb:b<4294967296):IntKind.u64.wrap (IntKind.u64.wrap ((a:Int)*4294967296)+(b:Int))=((a*4294967296+b:Nat):Int):=by
 rw[NJ,NJ];omega
theorem X3 (a c q Y:Nat)(hY:0<Y)(hY2:Y<18446744073709551616)(hq:q=(a*4294967296+c)/Y):
  IntKind.u64.wrap (IntKind.u64.wrap (IntKind.u64.wrap ((a:Int)*4294967296)+(c:Int))-IntKind.u64.wrap ((q:Int)*(Y:Int)))=(((a*4294967296+c)%Y:Nat):Int):=by
 have e:=E3 (a*4294967296+c) Y;have m:=B7 (a*4294967296+c) hY;rw[<-hq,BY Y q]at e;generalize(a*4294967296+c)%Y=v at*;rw[<-E7 q Y];generalize q*Y=Q at*;rw[NJ,NJ,NJ,NJ];omega
structure sC (hi lo y s Y u u10:Nat):Prop where
 s63:s<=63
 eY:Y=y*2^s
 big:9223372036854775808<=Y
 Yl:Y<18446744073709551616
 uY:u<Y
 u10l:u10<18446744073709551616
 N:(hi*BB+lo)*2^s=u*18446744073709551616+u10
 e8:LV .u64 (y:Int) (s:Int)=(Y:Int)
 e9:LX .u64 (Y:Int) 32=((Y/4294967296:Nat):Int)
 e10:Hc .and .u64 (Y:Int) 4294967295=((Y%4294967296:Nat):Int)
 ew:IntKind.u64.wrap (64-(s:Int))=((64-s:Nat):Int)
 e11:Hc .or .u64 (LV .u64 (hi:Int) (s:Int)) (LX .u64 (lo:Int) ((64-s:Nat):Int))=(u:Int)
 e12:LV .u64 (lo:Int) (s:Int)=(u10:Int)
 e13:LX .u64 (u10:Int) 32=((u10/4294967296:Nat):Int)
 e14:Hc .and .u64 (u10:Int) 4294967295=((u10%4294967296:Nat):Int)
theorem nW {hi lo y s:Nat}(h1:hi<y)(hlo:lo<BB)(hs:s<=63)(t1:9223372036854775808<=y*2^s)(t2:y*2^s<18446744073709551616):
  ∃Y u u10,sC hi lo y s Y u u10:=by
 obtain⟨m1,m2,m3⟩:=nf hs h1 hlo;have hpos:0<2^s:=HU s;have hh:hi*2^s<18446744073709551616:=DH (Nat.le_add_right _ _) (Gf m2 t2);have hl:lo/2^(64-s)<18446744073709551616:=DH (GJ _ _) hlo;refine⟨_,_,_,hs,rfl,t1,t2,m2,B7 _ (by decide),m3,?_,MT _ 32 (by decide),fH _ t2,?_,?_,Pa lo s hs,MT _ 32 (by decide),fH _ (B7 _ (by decide))⟩
 ·rw[Pa y s hs,Ff t2]
 ·rw[wU];omega
 ·rw[Pa hi s hs,Ff hh,MT lo (64-s) (by omega),WT _ _ hh hl,Vb m1]
theorem Y1 (hi lo y:Nat)(h1:hi<y)(hlo:lo<BB)(hy:y<BB):AK C0 171 [AS hi,AS lo,AS y] (.tup [AS ((hi*BB+lo)/y),AS ((hi*BB+lo)%y)]):=by
 refine AZ.walk w1 bN rfl λF=>?_
 have y0:¬(y:Int)=0:=by omega
 have c1:((y:Int)==0)=false:=by simp;omega
 have c2:decide ((y:Int)<=(hi:Int))=false:=Bc;refine sR 0 ?_;refine AC.seq ?_;refine sZ 100 ?_;refine AW c1 ?_;refine AN ?_;refine Aj ?_;refine AC.seq ?_;refine sZ 300 ?_;refine AW c2 ?_;refine AN ?_;refine Aj ?_;refine AC.seq ?_;refine sR 500 ?_;refine AN ?_
 (refine B1 (λh27=>?_) (λh27=>?_))<;>(try simp only[Bl,Bz]at h27)<;>(try simp only[h27])
 ·have hi0:hi=0:=by simpa using h27
  subst hi0;refine AC.seq ?_;refine CM 600 [0,1,2,3,4,5,6] [7] ?_;refine BO ?_;refine Ad ?_;refine AJ ?_ AA.out;have l1:lo/y<18446744073709551616:=DH (GJ _ _) hlo;rw[Vm,Ff l1,HS,BZ];rfl
 ·obtain⟨s,hs,es,t1,t2⟩:=XG (x:=y) (by omega) hy
  have cl:=gI y hy;rw[es]at cl;have ws:IntKind.u64.wrap (s:Int)=(s:Int):=wU;obtain⟨Y,u,u10,L⟩:=nW h1 hlo hs t1 t2;have ew0:(0:Int)<=IntKind.u64.wrap (64-(s:Int)):=by rw[L.ew];omega
  refine Aj ?_;refine sR 700 ?_;refine cI cl ?_;rw[ws];refine sZ 800 ?_;refine AW L.e8 ?_;refine sZ 900 ?_;refine AW L.e9 ?_;refine sZ 1000 ?_;refine AW L.e10 ?_;refine sZ 1100 ?_;refine AD (Ab L.ew L.e11) ?_;refine sZ 1200 ?_;refine AW L.e12 ?_;refine sZ 1300 ?_;refine AW L.e13 ?_;refine sZ 1400 ?_;refine AW L.e14 ?_;have hB:2147483648<=Y/4294967296:=by have:=L.big;omega
  have hB2:Y/4294967296<4294967296:=by have:=L.Yl;omega
  have n0:¬((Y/4294967296:Nat):Int)=0:=by omega
  obtain⟨I0,r0⟩:=XN (B:=4294967296) (u0:=u10/4294967296) (by decide) (by have:=L.big;omega) L.Yl (by decide) L.uY (by have:=L.u10l;omega);have q0l:=I0.q2;have hu64:u<18446744073709551616:=Gf L.uY L.Yl;have hqy:=Nat.div_mul_le_self u (Y/4294967296);have e15:IntKind.u64.wrap ((u:Int).tdiv ((Y/4294967296:Nat):Int))=((u/(Y/4294967296):Nat):Int):=by
   rw[Vm,JL]
  have e16:IntKind.u64.wrap ((u:Int)-IntKind.u64.wrap (((u/(Y/4294967296):Nat):Int)*((Y/4294967296:Nat):Int)))=((u-u/(Y/4294967296)*(Y/4294967296):Nat):Int):=by
   rw[<-E7,JS,JL,dV hqy hu64]
  refine sZ 1500 ?_;refine AW e15 ?_;refine sZ 1600 ?_;refine AW e16 ?_;have hu1:u10/4294967296<4294967296:=by have:=L.u10l;omega
  have hy0:Y%4294967296<4294967296:=B7 _ (by decide);generalize hu1e:u10/4294967296=u1 at*;generalize hu0e:u10%4294967296=u0 at*;refine Sz (λn=>⟨[(2,AS Y),(6,u64 0),(7,u64 0),(8,AS s),(9,AS (Y/4294967296)),(10,AS (Y%4294967296)),(11,AS u),(13,AS u1),(14,AS u0),(15,AS ((u*4294967296+u1)/Y))],[],n⟩) ?_ λn=>?_
  ·refine AC.block ?_
   refine Gb (α:=Nat×Nat×Nat) (λp=>⟨[(2,AS Y),(6,u64 0),(7,u64 0),(8,AS s),(9,AS (Y/4294967296)),(10,AS (Y%4294967296)),(11,AS u),(13,AS u1),(14,AS u0),(15,AS p.1),(16,AS p.2.1)],[],p.2.2⟩) (λp=>p.1)
    (λp F'=>F'=F/\L4 4294967296 Y u u1 p.1 p.2.1/\p.2.1<4294967296) (_,_,_)
    ⟨rfl,I0,r0⟩ AL ?_
   rintro⟨q,r,m⟩ F' ⟨rfl,I,hr⟩;dsimp only at I hr⊢;have hq2:=I.q2;refine AC.seq ?_;obtain⟨b,hbt⟩:∃b:Bool,b=decide (4294967296<=q\/4294967296*r+u1<q*(Y%4294967296)):=⟨_,rfl⟩
   refine D6 ⟨[(2,AS Y),(6,u64 0),(7,u64 0),(8,AS s),(9,AS (Y/4294967296)),(10,AS (Y%4294967296)),(11,AS u),(13,AS u1),(14,AS u0),(15,AS q),(16,AS r),(78,Ai b)],[],m+30⟩ ?_ ?_
   ·rcases BA q 4294967296 with hq|hq
    ·have e1:decide ((q:Int)>=4294967296)=false:=Bc
     have hqy:q*(Y%4294967296)<=4294967295*4294967295:=F9 (by omega) (by omega);have k1:IntKind.u64.wrap ((q:Int)*((Y%4294967296:Nat):Int))=((q*(Y%4294967296):Nat):Int):=by
      rw[<-E7,JS,JL]
     have k2:IntKind.u64.wrap (4294967296*(r:Int))=((4294967296*r:Nat):Int):=by rw[wU];omega
     have k3:IntKind.u64.wrap (((4294967296*r:Nat):Int)+(u1:Int))=((4294967296*r+u1:Nat):Int):=by rw[wU];omega
     have k4:decide (((q*(Y%4294967296):Nat):Int)>((4294967296*r+u1:Nat):Int))=b:=by
      rw[hbt];exact DA.2 ⟨λh=>Or.inr (by omega),λh=>by rcases h with h|h<;>omega⟩
     refine Ao 1700 ?_;refine AD e1 ?_;refine AD (CI kF k1 k2 k3 k4) ?_;exact BK (by trivial) (AL)
    ·have e1:decide ((q:Int)>=4294967296)=true:=BV
     have hb:b=true:=by rw[hbt];exact Au (Or.inl hq)
     subst hb;refine Ao 1700 ?_;refine AD e1 ?_;refine AD kT ?_;exact BK (by trivial) (AL)
   ·cases b
    ·have hc:=Db hbt.symm
     have hq:=UA I (by omega);subst hq;refine AN ?_;refine CK ?_;exact⟨rfl,_,AL⟩
    ·have hc:=DJ hbt.symm
     obtain⟨hq0,I2⟩:=XT (by decide) L.uY hu1 I hc;have hq3:=I2.q2;have k1:IntKind.u64.wrap ((q:Int)-1)=((q-1:Nat):Int):=by rw[wU];omega
     have k2:IntKind.u64.wrap ((r:Int)+((Y/4294967296:Nat):Int))=((r+Y/4294967296:Nat):Int):=by rw[wU];omega
     refine AN ?_;refine Aj ?_;refine AC.block ?_;refine sZ 1800 ?_;refine AW k1 ?_;refine sZ 1900 ?_;refine AW k2 ?_;refine sR 2000 ?_;refine AN ?_
     (refine B1 (λh85=>?_) (λh85=>?_))<;>(try simp only[Bl,Bz]at h85)<;>(try simp only[h85])
     ·have hq:=XM (by decide) I2 (by omega) (by have:=DJ h85;omega)
      rw[hq];refine CK ?_;exact⟨rfl,_,AL⟩
     ·refine Aj ?_
      refine⟨(q-1,r+Y/4294967296,_),⟨rfl,I2,by have:=Db h85;dsimp only;omega⟩,by dsimp only;omega,AL⟩
  ·have hY0:0<Y:=by have:=L.big;omega
   have e21:=X3 u u1 _ Y hY0 L.Yl rfl;have q1l:(u*4294967296+u1)/Y<4294967296:=by
    refine Fk ?_
    have:(u+1)*4294967296<=Y*4294967296:=CP _ L.uY
    rw[Bv]at this;omega
   have hvY:(u*4294967296+u1)%Y<Y:=B7 _ hY0;have tr:=ku (B:=4294967296) (N:=hi*BB+lo) (S:=2^s) (y:=y) (u32:=u) (u1:=u1) (u0:=u0) (v:=(u*4294967296+u1)%Y) (HU s) (by omega) (by rw[L.N];omega) (by rw[L.eY]);rw[<-L.eY]at tr;clear e15 e16 I0 r0 q0l hqy;obtain⟨q1,hq1e⟩:∃x,x=(u*4294967296+u1)/Y:=⟨_,rfl⟩
   rw[<-hq1e]at e21 q1l tr⊢;obtain⟨v,hve⟩:∃x,x=(u*4294967296+u1)%Y:=⟨_,rfl⟩
   rw[<-hve]at e21 hvY tr;have hu0:u0<4294967296:=by rw[<-hu0e];exact B7 _ (by decide)
   obtain⟨J0,s0⟩:=XN (B:=4294967296) (u0:=u0) (by decide) (by have:=L.big;omega) L.Yl (by decide) hvY hu0;have q0l:=J0.q2;have hv64:v<18446744073709551616:=Gf hvY L.Yl;have hqy:=Nat.div_mul_le_self v (Y/4294967296);have e22:IntKind.u64.wrap ((v:Int).tdiv ((Y/4294967296:Nat):Int))=((v/(Y/4294967296):Nat):Int):=by
    rw[Vm,JL]
   have e23:IntKind.u64.wrap ((v:Int)-IntKind.u64.wrap (((v/(Y/4294967296):Nat):Int)*((Y/4294967296:Nat):Int)))=((v-v/(Y/4294967296)*(Y/4294967296):Nat):Int):=by
    rw[<-E7,JS,JL,dV hqy hv64]
   refine sZ 2100 ?_;refine AW e21 ?_;refine sZ 2200 ?_;refine AW e22 ?_;refine sZ 2300 ?_;refine AW e23 ?_;refine Sz (λn=>⟨[(2,AS Y),(6,u64 0),(7,u64 0),(8,AS s),(9,AS (Y/4294967296)),(10,AS (Y%4294967296)),(11,AS u),(13,AS u1),(14,AS u0),(15,AS q1),(17,AS v),(18,AS ((v*4294967296+u0)/Y))],[],n⟩) ?_ λn=>?_
   ·refine AC.block ?_
    refine Gb (α:=Nat×Nat×Nat) (λp=>⟨[(2,AS Y),(6,u64 0),(7,u64 0),(8,AS s),(9,AS (Y/4294967296)),(10,AS (Y%4294967296)),(11,AS u),(13,AS u1),(14,AS u0),(15,AS q1),(17,AS v),(18,AS p.1),(16,AS p.2.1)],[],p.2.2⟩) (λp=>p.1)
     (λp F'=>F'=F/\L4 4294967296 Y v u0 p.1 p.2.1/\p.2.1<4294967296) (_,_,_)
     ⟨rfl,J0,s0⟩ AL ?_
    rintro⟨q,r,m⟩ F' ⟨rfl,I,hr⟩;dsimp only at I hr⊢;have hq2:=I.q2;refine AC.seq ?_;obtain⟨b,hbt⟩:∃b:Bool,b=decide (4294967296<=q\/4294967296*r+u0<q*(Y%4294967296)):=⟨_,rfl⟩
    refine D6 ⟨[(2,AS Y),(6,u64 0),(7,u64 0),(8,AS s),(9,AS (Y/4294967296)),(10,AS (Y%4294967296)),(11,AS u),(13,AS u1),(14,AS u0),(15,AS q1),(17,AS v),(18,AS q),(16,AS r),(113,Ai b)],[],m+30⟩ ?_ ?_
    ·rcases BA q 4294967296 with hq|hq
     ·have e1:decide ((q:Int)>=4294967296)=false:=Bc
      have hqy:q*(Y%4294967296)<=4294967295*4294967295:=F9 (by omega) (by omega);have k1:IntKind.u64.wrap ((q:Int)*((Y%4294967296:Nat):Int))=((q*(Y%4294967296):Nat):Int):=by
       rw[<-E7,JS,JL]
      have k2:IntKind.u64.wrap (4294967296*(r:Int))=((4294967296*r:Nat):Int):=by rw[wU];omega
      have k3:IntKind.u64.wrap (((4294967296*r:Nat):Int)+(u0:Int))=((4294967296*r+u0:Nat):Int):=by rw[wU];omega
      have k4:decide (((q*(Y%4294967296):Nat):Int)>((4294967296*r+u0:Nat):Int))=b:=by
       rw[hbt];exact DA.2 ⟨λh=>Or.inr (by omega),λh=>by rcases h with h|h<;>omega⟩
      refine Ao 2400 ?_;refine AD e1 ?_;refine AD (CI kF k1 k2 k3 k4) ?_;exact BK (by trivial) (AL)
     ·have e1:decide ((q:Int)>=4294967296)=true:=BV
      have hb:b=true:=by rw[hbt];exact Au (Or.inl hq)
      subst hb;refine Ao 2400 ?_;refine AD e1 ?_;refine AD kT ?_;exact BK (by trivial) (AL)
    ·cases b
     ·have hc:=Db hbt.symm
      have hq:=UA I (by omega);subst hq;refine AN ?_;refine CK ?_;exact⟨rfl,_,AL⟩
     ·have hc:=DJ hbt.symm
      obtain⟨hq0,I2⟩:=XT (by decide) hvY hu0 I hc;have hq3:=I2.q2;have k1:IntKind.u64.wrap ((q:Int)-1)=((q-1:Nat):Int):=by rw[wU];omega
      have k2:IntKind.u64.wrap ((r:Int)+((Y/4294967296:Nat):Int))=((r+Y/4294967296:Nat):Int):=by rw[wU];omega
      refine AN ?_;refine Aj ?_;refine AC.block ?_;refine sZ 2500 ?_;refine AW k1 ?_;refine sZ 2600 ?_;refine AW k2 ?_;refine sR 2700 ?_;refine AN ?_
      (refine B1 (λh120=>?_) (λh120=>?_))<;>(try simp only[Bl,Bz]at h120)<;>(try simp only[h120])
      ·have hq:=XM (by decide) I2 (by omega) (by have:=DJ h120;omega)
       rw[hq];refine CK ?_;exact⟨rfl,_,AL⟩
      ·refine Aj ?_
       refine⟨(q-1,r+Y/4294967296,_),⟨rfl,I2,by have:=Db h120;dsimp only;omega⟩,by dsimp only;omega,AL⟩
   ·have e28:=X3 v u0 _ Y hY0 L.Yl rfl
    have hm28:(v*4294967296+u0)%Y<Y:=B7 _ hY0;have q2l:(v*4294967296+u0)/Y<4294967296:=by
     refine Fk ?_
     have:(v+1)*4294967296<=Y*4294967296:=CP _ hvY
     rw[Bv]at this;omega
    have k1:=jr q1 ((v*4294967296+u0)/Y) q1l q2l;have k2:=MT ((v*4294967296+u0)%Y) s (by omega);rw[tr.1]at k1;rw[tr.2]at k2;refine sZ 2800 ?_;refine AD (Ar k1 e28 k2) ?_;refine Ad ?_;exact AJ rfl AA.out
theorem W9 {n2 v1 P U V q:Nat}(hU:U<(n2+1)*P)(hV:v1*P<=V)(hq:n2+1<=(q+1)*v1):U<(q+1)*V:=by
 have h1:=CP P hq;have h2:=Cr (q+1) hV;rw[Bx]at h1;omega
theorem Xi {n3 D P U V q:Nat}(hU:U<(n3+1)*P)(hV:D*P<=V)(hq:n3<q*D):U<q*V:=by
 have h1:=CP P (show n3+1<=q*D from hq);have h2:=Cr q hV;rw[Bx]at h1;omega
theorem Xx {n3 D P U V q B v:Nat}(hU:n3*P<=U)(hV:V=D*P+v)(hv:v<P)(hq:q*D<=n3)(hqB:q<=B)(hD:B<=D):q*V<=U+V:=by
 have h1:=CP P hq;rw[Bx]at h1;have h2:q*v<=B*P:=F9 hqB (by omega);have h3:=CP P hD;have h4:q*V=q*(D*P)+q*v:=by rw[hV,BN]
 omega
theorem XP {c x s:Nat}(hs:s<=63)(hc:c<2^s)(hx:x<18446744073709551616):
  c |||(x*2^s%18446744073709551616)=c+x*2^s%18446744073709551616/\c+x*2^s%18446744073709551616<18446744073709551616 /\
   c+x*2^s%18446744073709551616+18446744073709551616*(x/2^(64-s))=c+x*2^s/\x/2^(64-s)<2^s:=by
 have hp:0<2^s:=HU s;have hpp:2^(64-s)*2^s=18446744073709551616:=by
  rw[<-Ge,show 64-s+s=64 by omega]
 have hl:x*2^s/18446744073709551616=x/2^(64-s):=by
  rw[<-hpp,P7 _ _ hp]
 have hm:x*2^s%18446744073709551616=x%2^(64-s)*2^s:=by
  rw[<-hpp,P8]
 have hl2:x/2^(64-s)<2^s:=Fk (by rw[hpp];exact hx);have e:=E3 (x*2^s) 18446744073709551616;rw[hl]at e;have ho:c |||(x*2^s%18446744073709551616)=c+x*2^s%18446744073709551616:=by
  rw[hm,Nat.or_comm,Vb hc,Lj]
 have hlt:c+x*2^s%18446744073709551616<18446744073709551616:=by
  rw[hm]
  have:(x%2^(64-s)+1)*2^s<=2^(64-s)*2^s:=CP _ (B7 _ (HU _))
  rw[hpp,Bv]at this;omega
 exact⟨ho,hlt,by omega,hl2⟩
structure SR (w out:List Nat)(s i c:Nat):Prop where
 le:i<=w.length
 len:out.length=w.length+1
 wd:Wd out
 val:AT out=AT (w.take i)*2^s
 at_:out[i]?=some c
 cl:c<2^s
 zero:∀k,i<k->∀d,out[k]?=some d->d=0
theorem qh {w out:List Nat}{s i c x:Nat}(hs:s<=63)(hw:Wd w)(hi:i<w.length)(hx:w[i]?=some x)(I:SR w out s i c):
  SR w ((out.set i (c+x*2^s%18446744073709551616)).set (i+1) (x/2^(64-s))) s (i+1) (x/2^(64-s)):=by
 have hxl:x<BB:=hw x (Ay hx);obtain⟨_,d2,d3,d4⟩:=XP hs I.cl hxl;obtain⟨z,hz⟩:∃z,out[i+1]?=some z:=⟨out[i+1]'(by have:=I.len;omega),Bo _⟩
 have hz0:=I.zero _ (Hz i) z hz;subst hz0;have s1:=J5 (d:=c+x*2^s%18446744073709551616) I.at_;have hz1:(out.set i (c+x*2^s%18446744073709551616))[i+1]?=some 0:=by rw[I9 (by omega)];exact hz
 have s2:=J5 (d:=x/2^(64-s)) hz1;have hbx:AT (w.take (i+1))=AT (w.take i)+BB^i*x:=by rw[Fq hx,HD (i:=i) (by rw[Bi];omega)]
 have hhi:x/2^(64-s)<BB:=DH (GJ _ _) hxl;refine⟨by omega,by rw[D9,D9];exact I.len,(I.wd.set d2).set hhi,?_,?_,d4,λk hk d hd=>?_⟩
 ·have e1:BB^(i+1)*(x/2^(64-s))=BB^i*(18446744073709551616*(x/2^(64-s))):=by rw[CQ,Bx]
  have e2:BB^i*(c+x*2^s%18446744073709551616+18446744073709551616*(x/2^(64-s)))=BB^i*(c+x*2^s):=by rw[d3]
  rw[BN,BN _ c (x*2^s)]at e2;rw[hbx,Bv,<-I.val,Bx];omega
 ·rw[Wc (by rw[D9];have:=I.len;omega)]
 ·rw[I9 (by omega),I9 (by omega)]at hd
  exact I.zero k (by omega) d hd
def Up (w:List Nat)(s:Nat)(H:Hp)(n:Nat)(d:D)(H':Hp)(n':Nat):Prop:=
 ∃(out:List Nat) (g:Nat),out.length=w.length+1/\Wd out/\AT out=AT w*2^s/\d=.osl 103 g 1 0 (w.length+1)/\H'=⟨103,g,172,1,out.map AS⟩::H/\n<=n'
theorem XV (w:List Nat)(s:Nat)(hs:s<=63)(hw:Wd w)(hl:w.length<4000000)(H:Hp)(n:Nat):Ct C0 174 [wL w,i64 s] H n (Up w s H n):=by
 refine Ct.walk w1 bP rfl λF=>?_
 unfold wL;have ew:(((w.map AS).length:Nat):Int)=(w.length:Int):=by rw[Ag]
 have wl:IntKind.i64.wrap ((w.length:Int)+1)=((w.length+1:Nat):Int):=by rw[wI];omega
 have r3:List.replicate (w.length+1) (ofV (.int .u64 0))=(List.replicate (w.length+1) 0).map AS:=by rw[Kf];rfl
 refine sR 0 ?_;refine sZ 100 ?_;refine AW (Ar ew wl kN) ?_;refine AC.seq ?_;refine sZ 200 ?_;refine AW ew ?_;obtain⟨g,hg⟩:∃g,g=n+1+1+1+1:=⟨_,rfl⟩
 rw[<-hg];have I0:SR w (List.replicate (w.length+1) 0) s 0 0:=⟨BU _,by simp,M9 _,by simp[AT,Qi],by simp,HU s,λk _ d hd=>P1 (Ay hd)⟩
 refine AC.weak ⟨[(0,.sl false 1 (w.map AS)),(1,i64 s),(4,CS),(5,.osl 103 g 1 0 (w.length+1)),(12,.sl false 1 (w.map AS)),(13,i64 w.length),(14,i64 0)],⟨103,g,172,1,(List.replicate (w.length+1) 0).map AS⟩::H,n+30⟩ (by rw[<-r3];exact AL) ?_;refine AC.block ?_;refine AC.loop (α:=Nat×Nat×List Nat×Nat) (λp=>⟨[(0,.sl false 1 (w.map AS)),(1,i64 s),(4,CS),(5,.osl 103 g 1 0 (w.length+1)),(12,.sl false 1 (w.map AS)),(13,i64 w.length),(14,i64 p.1)],⟨103,g,172,1,p.2.2.1.map AS⟩::H,p.2.2.2⟩) (λp=>w.length-p.1)
  (λp=>SR w p.2.2.1 s p.1 p.2.1/\n<=p.2.2.2) (0,0,List.replicate (w.length+1) 0,n+30)
  ⟨I0,Nat.le_add_right _ _⟩ AL ?_
 rintro⟨i,c,o,m⟩ F ⟨I,hm⟩;dsimp only at I hm⊢;refine sR 300 ?_;refine AC.seq ?_;refine AN ?_
 (refine B1 (λh15=>?_) (λh15=>?_))<;>(try simp only[Bl,Bz]at h15)<;>(try simp only[h15])
 ·have hi:i<w.length:=by simpa using h15
  obtain⟨x,hx⟩:∃x,w[i]?=some x:=⟨w[i],Bo hi⟩
  have hx':=Dl hx;have hc':=Dl I.at_;have hxl:x<BB:=hw x (Ay hx);obtain⟨d1,d2,d3,d4⟩:=XP hs I.cl hxl;have J:=qh hs hw hi hx I;have e5:Hc .or .u64 (c:Int) (LV .u64 (x:Int) (s:Int))=((c+x*2^s%18446744073709551616:Nat):Int):=by
   rw[Pa x s hs,WT _ _ (by omega) (B7 _ (by decide)),d1]
  refine Aj ?_;refine AC.seq ?_;refine AC.block ?_;refine sR 400 ?_;refine Bw kT hx' ?_;refine BO ?_;refine AC.seq ?_;refine CM 500 [0,1,2,3,4,5,6] [7,8,9] ?_;refine AD (BS e5 kN BZ hc') ?_;refine ET rfl rfl ?_;refine NZ rfl rfl rfl hc' ?_;refine AD @map_set ?_;refine AC.seq ?_;obtain⟨z,hz⟩:∃z,o[i+1]?=some z:=⟨o[i+1]'(by have:=I.len;omega),Bo _⟩
  have hz0:=I.zero _ (Hz i) z hz;subst hz0;have hz1:(o.set i (c+x*2^s%18446744073709551616))[i+1]?=some 0:=by rw[I9 (by omega)];exact hz
  have hz':=Dl hz1;have wi:IntKind.i64.wrap ((i:Int)+1)=((i+1:Nat):Int):=wI;rcases ED s with hs0|hs0
  ·have e1:decide ((s:Int)>0)=false:=Bc
   have hx0:x/2^(64-s)=0:=by rw[hs0];exact Hy hxl
   have hset:(o.set i (c+x*2^s%18446744073709551616)).set (i+1) 0=o.set i (c+x*2^s%18446744073709551616):=by
    refine QE λk=>?_
    rcases Nat.decEq (i+1) k with hk|hk
    ·rw[I9 hk]
    ·subst hk
     rw[Wc (by have:=(BQ.1 hz1).1;exact this),hz1]
   rw[hx0,hset]at J;refine Ao 600 ?_;refine AW e1 ?_;refine AN ?_;refine Aj ?_;refine Ao 800 ?_;refine AW wi ?_;refine⟨(i+1,0,o.set i (c+x*2^s%18446744073709551616),m+200),⟨J,by dsimp only;omega⟩,by dsimp only;omega,AL⟩
  ·have e1:decide ((s:Int)>0)=true:=BV
   have w64:IntKind.i64.wrap (64-(s:Int))=((64-s:Nat):Int):=by rw[wI];omega
   have w640:(0:Int)<=IntKind.i64.wrap (64-(s:Int)):=by rw[w64];omega
   have e36:=MT x (64-s) (by omega);refine Ao 600 ?_;refine AW e1 ?_;refine AN ?_;refine Ao 700 ?_;refine AD (Ek wi w64 e36 kN BZ hz') ?_
   try rw[map_set]
   refine Ao 800 ?_;refine AW wi ?_;refine⟨(i+1,x/2^(64-s),(o.set i (c+x*2^s%18446744073709551616)).set (i+1) (x/2^(64-s)),m+200),⟨J,by dsimp only;omega⟩,by dsimp only;omega,AL⟩
 ·have hi:i=w.length:=by
   have:¬i<w.length:=by simpa using h15
   have:=I.le
   omega
  subst hi;have hv:=I.val;rw[Ch (Al _)]at hv;refine CK ?_;refine sR 900 ?_;refine Ad ?_;exact⟨o,g,I.len,I.wd,hv,rfl,rfl,by omega⟩
section
variable {C:A9} {B F:AY} {s:St} {rd:Option Nat} {Q:Exit->AY->St->Prop}
theorem DE {a b:Code}{α:Type}(S:α->St)(J:α->Prop)(h1:AC C B rd F a s (λe F1 s1=>Je (F1=F/\∃x,J x/\Wk s1 (S x)) (λe=>Q e F1 s1) e))(h2:∀x,J x->AC C B rd F b (S x) Q):AC C B rd F (.seq a b) s Q:=
 AC.seq (h1.mono λe F1 s1 h=>by
  cases e with
  |normal=>
   obtain⟨h0,x,hx,h3⟩:=(show F1=F/\∃x,J x/\Wk s1 (S x)from h)
   rw[h0];exact AC.weak (S x) h3 (h2 x hx)
  |ret=>exact h
  |exit j=>exact h
  |goto l=>exact h
  |panic c=>exact h
  |outgrown=>exact h)
end
theorem kf {q v c:Nat}(hq:q<BB)(hv:v<BB)(hc:c<BB):
  (q*v%BB+c)%BB+BB*(q*v/BB+(q*v%BB+c)/BB)=q*v+c/\q*v/BB+(q*v%BB+c)/BB<BB:=by
 have hqv:q*v<=(18446744073709551616-1)*(18446744073709551616-1):=F9 (by unfold BB at hq;omega) (by unfold BB at hv;omega);have hk:(18446744073709551616-1)*(18446744073709551616-1)=340282366920938463426481119284349108225:=by decide
 rw[hk]at hqv;generalize q*v=p at*;have e1:=FM p BB;have e2:=FM (p%BB+c) BB;have l1:=B7 p (show BB>0 by decide);have l2:=B7 (p%BB+c) (show BB>0 by decide);unfold BB at*;generalize p/18446744073709551616=A at*;generalize p%18446744073709551616=D at*;generalize(D+c)/18446744073709551616=E at*;generalize(D+c)%18446744073709551616=G at*;omega
theorem Cg {l:List Nat}{i:Nat}(h:i<l.length):∃a,l[i]?=some a:=⟨l[i],Bo h⟩
theorem WN {l:List Nat}{k a:Nat}(hl:l.length=k+1)(ha:l[k]?=some a):AT l=AT (l.take k)+BB^k*a:=by
 rw[K9 ha,HP (by omega)];simp[AT]
theorem d9r {l:List Nat}{k a b:Nat}(hl:l.length=k+2)(ha:l[k]?=some a)(hb:l[k+1]?=some b):AT l=AT (l.take k)+BB^k*(a+BB*b):=by
 rw[K9 ha]
 have:l.drop (k+1)=[b]:=by
  rw[EN (by omega),HP (by omega)]
  congr 1
  exact(BQ.1 hb).2
 rw[this];simp[AT]
theorem d9s {l:List Nat}{k a b c:Nat}(hl:l.length=k+3)(ha:l[k]?=some a)(hb:l[k+1]?=some b)(hc:l[k+2]?=some c):AT l=AT (l.take k)+BB^k*(a+BB*(b+BB*c)):=by
 rw[K9 ha];have h1:=WN (l:=l.drop (k+1)) (k:=1) (a:=c) (by rw[Dp];omega) (by rw[G3,E5];exact hc);have h2:(l.drop (k+1)).take 1=[b]:=by
  rw[EN (by omega)];simp only[List.take_succ_cons,OC]
  congr 1
  exact(BQ.1 hb).2
 rw[h1,h2];simp[AT]
structure NL (P v:List Nat)(m p0 p1 p2 v2 v1:Nat):Prop where
 lP:P.length=m+3
 lv:v.length=m+2
 wP:Wd P
 wv:Wd v
 h0:P[m]?=some p0
 h1:P[m+1]?=some p1
 h2:P[m+2]?=some p2
 g2:v[m]?=some v2
 g1:v[m+1]?=some v1
 top:0<v1
 less:AT P<AT v*BB
namespace NL
variable {P v:List Nat} {m p0 p1 p2 v2 v1:Nat} (S:NL P v m p0 p1 p2 v2 v1)
include S
theorem valP:AT P=AT (P.take m)+BB^m*(p0+BB*(p1+BB*p2)):=d9s S.lP S.h0 S.h1 S.h2
theorem valv:AT v=AT (v.take m)+BB^m*(v2+BB*v1):=d9r S.lv S.g2 S.g1
theorem lowP:AT (P.take m)<BB^m:=by
 have:=IC (S.wP.take m)
 rwa [Bi,Fh (by have:=S.lP;omega)]at this
theorem lowv:AT (v.take m)<BB^m:=by
 have:=IC (S.wv.take m)
 rwa [Bi,Fh (by have:=S.lv;omega)]at this
theorem p0l:p0<BB:=S.wP _ (Ay S.h0)
theorem p1l:p1<BB:=S.wP _ (Ay S.h1)
theorem p2l:p2<BB:=S.wP _ (Ay S.h2)
theorem v1l:v1<BB:=S.wv _ (Ay S.g1)
theorem v2l:v2<BB:=S.wv _ (Ay S.g2)
theorem below3:AT P<(p0+BB*(p1+BB*p2)+1)*BB^m:=by
 rw[S.valP,Bv,JD,BY (BB^m)]
 have:=S.lowP
 omega
theorem below2:AT P<(p1+BB*p2+1)*BB^(m+1):=by
 have h:=S.below3;have h1:=S.p0l;generalize p1+BB*p2=t at*;have h2:(p0+BB*t+1)*BB^m<=(BB*(t+1))*BB^m:=CP _ (by rw[BN BB t 1];omega);have h3:(t+1)*BB^(m+1)=(BB*(t+1))*BB^m:=by rw[CQ,BY (BB^m) BB,<-Bx,BY (t+1) BB]
 omega
theorem abovev:v1*BB^(m+1)<=AT v:=by
 rw[S.valv,CQ,BN]
 have:v1*(BB^m*BB)=BB^m*(BB*v1):=by rw[BY v1,Bx]
 omega
theorem abovev2:(v2+BB*v1)*BB^m<=AT v:=by
 rw[S.valv,BY];omega
theorem pos:0<AT v:=Co (G7 S.top (Nat.pow_pos (by decide))) S.abovev
theorem p2v1:p2<=v1:=by
 rcases BA v1 p2 with h|h
 ·exfalso
  have e1:BB^(m+2)*p2<=AT P:=by
   rw[S.valP,BN,BN,BN]
   have:BB^(m+2)*p2=BB^m*(BB*(BB*p2)):=by rw[CQ,CQ,Bx,Bx]
   omega
  have e2:AT v<BB^(m+1)*(v1+1):=by
   have h1:=S.lowv;have h2:=S.v2l;have e3:BB^(m+1)*(v1+1)=BB^m*(BB*v1+BB):=by rw[CQ,Bx,BN,EO]
   have e4:BB^m*(v2+BB*v1+1)<=BB^m*(BB*v1+BB):=Cr _ (by omega);rw[BN _ _ 1,EO]at e4;rw[S.valv,e3];omega
  have e5:BB^(m+1)*(v1+1)*BB=BB^(m+2)*(v1+1):=by rw[Nat.mul_right_comm,<-CQ]
  have e6:BB^(m+2)*(v1+1)<=BB^(m+2)*p2:=Cr _ h;have e7:(AT v)*BB<=BB^(m+1)*(v1+1)*BB:=CP _ (Jn e2)
  have:=S.less
  omega
 ·exact h
end NL
theorem lx {B q v2 r c p0:Nat}(hq:q<B)(hv:v2<B)(h:0<c\/q*v2<=r*B+p0):q*v2<=(r+B*c)*B+p0:=by
 rcases h with h|h
 ·have h2:q*v2<=B*B:=F9 (by omega) (by omega)
  have h4:B*1<=B*c:=Cr _ h;have h3:B*B<=(r+B*c)*B:=CP _ (by omega);omega
 ·have h3:r*B<=(r+B*c)*B:=CP _ (by omega)
  omega
structure MO (U V n2 v1 q r c:Nat):Prop where
 eq:q*v1+(r+BB*c)=n2
 up:U<(q+1)*V
 qB:q<BB
 rB:r<BB
 c1:c<=1
section
variable {P v:List Nat} {m p0 p1 p2 v2 v1:Nat} (S:NL P v m p0 p1 p2 v2 v1)
include S
theorem ly (h:v1<=p2):MO (AT P) (AT v) (p1+BB*p2) v1 18446744073709551615 ((p1+v1+0)%BB) ((p1+v1+0)/BB):=by
 have h1:p2=v1:=Nat.le_antisymm S.p2v1 h;have h2:=S.less;have h3:=S.p1l;have h4:=S.v1l;have e:=FM (p1+v1+0) BB;refine⟨?_,?_,by decide,B7 _ (by decide),?_⟩
 ·rw[e,h1]
  show 18446744073709551615*v1+(p1+v1+0)=p1+18446744073709551616*v1;omega
 ·rw[BY];exact h2
 ·have:p1+v1+0<2*BB:=by omega
  exact OB (Fk (by rw[BY];exact this))
theorem jm (h:p2<v1):MO (AT P) (AT v) (p1+BB*p2) v1 ((p2*BB+p1)/v1) ((p2*BB+p1)%v1) 0:=by
 have c0:p2*BB+p1=p1+BB*p2:=by rw[BY,Lj]
 rw[c0];have e:=E3 (p1+BB*p2) v1;have l:=B7 (p1+BB*p2) S.top;have h3:=S.p1l;have h4:=S.v1l;have c1:=BY v1 ((p1+BB*p2)/v1);refine⟨by omega,W9 S.below2 S.abovev ?_,?_,by omega,by decide⟩
 ·rw[Bv];omega
 ·refine Fk ?_
  have:BB*(p2+1)<=BB*v1:=Cr _ h
  rw[BN]at this;rw[BY v1];omega
theorem kH {q r:Nat}(G:MO (AT P) (AT v) (p1+BB*p2) v1 q r 0)(h:r*BB+p0<q*v2):
  0<q/\MO (AT P) (AT v) (p1+BB*p2) v1 (q-1) ((r+v1+0)%BB) ((r+v1+0)/BB):=by
 obtain⟨e,u,b,rb,_⟩:=G;rcases ED q with h0|h0
 ·subst h0;omega
 obtain⟨k,rfl⟩:∃k,q=k+1:=⟨q-1,by omega⟩
 have e1:=FM (r+v1+0) BB;have h4:=S.v1l;have e2:(k+1)*(v2+BB*v1)=(k+1)*v2+BB*((k+1)*v1):=by rw[BN,JB]
 have hn3:p0+BB*(p1+BB*p2)<(k+1)*(v2+BB*v1):=by
  rw[e2,<-e,BN BB,E6,Dq r,BY BB r];omega
 refine⟨by omega,⟨?_,?_,by omega,B7 _ (by decide),?_⟩⟩
 ·rw[IY,e1,<-e,Bv];omega
 ·rw[IY];exact Xi S.below3 S.abovev2 hn3
 ·have:r+v1+0<2*BB:=by omega
  exact OB (Fk (by rw[BY];exact this))
theorem Xh {q r c:Nat}(G:MO (AT P) (AT v) (p1+BB*p2) v1 q r c)(h:0<c\/q*v2<=r*BB+p0):q*AT v<=AT P+AT v:=by
 obtain⟨e,u,b,rb,c1⟩:=G;have h5:=S.v2l;have hq:q*v2<=(r+BB*c)*BB+p0:=lx b h5 h;have e2:q*(v2+BB*v1)=q*v2+BB*(q*v1):=by rw[BN,JB]
 refine Xx (n3:=p0+BB*(p1+BB*p2)) (D:=v2+BB*v1) (P:=BB^m) (B:=BB) (v:=AT (v.take m)) ?_ ?_ S.lowv ?_ (by omega) ?_
 ·rw[S.valP,BY];omega
 ·rw[S.valv,BY];omega
 ·rw[e2,<-e,BN BB]
  have:BB*(r+BB*c)=(r+BB*c)*BB:=BY _ _
  omega
 ·have:=S.top
  have h1:=Cr BB (show 1<=v1 from this);omega
end
theorem kI {x r p0:Nat}(hp:p0<BB):(x/BB<r\/x/BB=r/\x%BB<=p0)↔x<=r*BB+p0:=by
 have e:=E3 x BB;have l:=B7 x (show 0<BB by decide);generalize x/BB=h at*;generalize x%BB=d at*;unfold BB at*;omega
theorem UE {U V q N:Nat}(h:N+q*V=U+0)(hu:U<(q+1)*V):U/V=q/\U%V=N:=by
 have h1:U=N+V*q:=by rw[BY];omega
 have h2:N<V:=by rw[Bv]at hu;omega
 subst h1;exact⟨by rw[TC _ _ (by omega),Hy h2,BZ],by rw[S3,Ff h2]⟩
theorem Ya {U V q N N3 T c:Nat}(h:N+q*V=U+T)(hN:N<T)(hu:q*V<=U+V)(h3:N3+T*c=N+V)(hc:c<=1)(h3l:N3<T):0<q/\U/V=q-1/\U%V=N3:=by
 rcases ED q with h0|h0
 ·subst h0;omega
 obtain⟨k,rfl⟩:∃k,q=k+1:=⟨q-1,by omega⟩
 rw[Bv,JD]at h hu;have hc1:c=1:=by
  rcases ED c with h4|h4
  ·subst h4;omega
  ·omega
 subst hc1;have h5:N3+k*V=U+0:=by omega
 have h6:U<(k+1)*V:=by rw[Bv];omega
 obtain⟨a,b⟩:=UE h5 h6;exact⟨by omega,by rw[a];omega,b⟩
theorem jO {A P v:List Nat}{q i z x d b c b' c' lo:Nat}(hz:A[i]?=some z)(hx:v[i]?=some x)(hI:AT A+q*AT (v.take i)=AT P+BB^i*(c+b))
  (h1:lo+BB*c'=q*x+c) (h2:d+lo+b=z+BB*b'):AT (A.set i d)+q*AT (v.take (i+1))=AT P+BB^(i+1)*(c'+b'):=by
 have hs:=J5 (d:=d) hz;have hi:i<v.length:=(BQ.1 hx).1;rw[Fq hx,HD (i:=i) (by rw[Bi];omega),BN,JB q,CQ,Bx];have e:BB^i*(d+q*x+(c+b))=BB^i*(z+BB*(c'+b')):=by congr 1;rw[BN BB];omega
 rw[BN,BN,BN (BB^i) z]at e;omega
theorem jP {A P:List Nat}{i z d X b c b':Nat}(hz:A[i]?=some z)(hI:AT A+X=AT P+BB^i*(c+b))(h2:d+c+b=z+BB*b'):AT (A.set i d)+X=AT P+BB^(i+1)*b':=by
 have hs:=J5 (d:=d) hz;rw[CQ,Bx];have e:BB^i*(d+(c+b))=BB^i*(z+BB*b'):=by congr 1;omega
 rw[BN,BN (BB^i) z]at e;omega
theorem jH {A P v:List Nat}{i z x c:Nat}(hz:A[i]?=some z)(hx:v[i]?=some x)(hI:AT A+BB^i*c=AT P+AT (v.take i)):
  AT (A.set i ((z+x+c)%BB))+BB^(i+1)*((z+x+c)/BB)=AT P+AT (v.take (i+1)):=by
 have hs:=J5 (d:=(z+x+c)%BB) hz;have hi:i<v.length:=(BQ.1 hx).1;rw[Fq hx,HD (i:=i) (by rw[Bi];omega),CQ,Bx];have e:BB^i*((z+x+c)%BB+BB*((z+x+c)/BB))=BB^i*(z+x+c):=by rw[FM]
 rw[BN,BN,BN (BB^i) z]at e;omega
theorem jL {A:List Nat}{i z c X:Nat}(hz:A[i]?=some z)(hI:AT A+BB^i*c=X):
  AT (A.set i ((z+c)%BB))+BB^(i+1)*((z+c)/BB)=X:=by
 have hs:=J5 (d:=(z+c)%BB) hz;rw[CQ,Bx];have e:BB^i*((z+c)%BB+BB*((z+c)/BB))=BB^i*(z+c):=by rw[FM]
 rw[BN,BN (BB^i) z]at e;omega
theorem MK {A P Z:List Nat}{i z:Nat}(h:P[i]?=some z):((A++(P++Z)).map AS)[A.length+i]?=some (AS z):=by
 have hi:i<P.length:=(BQ.1 h).1;refine Dl ?_;rw[Ez (by omega),Lg,GL hi];exact h
theorem RY {A P Z:List Nat}{i d:Nat}(hi:i<P.length):((A++(P++Z)).map AS).set (A.length+i) (AS d)=(A++(P.set i d++Z)).map AS:=by
 rw[map_set,P6 _ _ (by omega),Lg,List.set_append_left _ _ hi]
set_option maxHeartbeats 2000000
def pY (A P Z v:List Nat)(gq Tq gu:Nat)(qs:List D)(d:D)(H':Hp)(_:Nat):Prop:=
 ∃P':List Nat,P'.length=P.length/\Wd P'/\AT P'=AT P%AT v/\d=AS (AT P/AT v)/\H'=[⟨1505,gq,Tq,1,qs⟩,⟨103,gu,172,1,(A++(P'++Z)).map AS⟩]
theorem rT (A P Z v:List Nat)(m p0 p1 p2 v2 v1:Nat)(S:NL P v m p0 p1 p2 v2 v1)(hm:A.length+m<4000000)(gq Tq gu:Nat)(qs:List D)(n:Nat):
  Ct C0 175 [.osl 103 gu 1 A.length (m+3),wL v] [⟨1505,gq,Tq,1,qs⟩,⟨103,gu,172,1,(A++(P++Z)).map AS⟩] n (pY A P Z v gq Tq gu qs):=by
 refine Ct.walk w1 bQ rfl λF=>?_
 unfold wL;have hPl:=S.lP;have hvl:=S.lv;have ev:(((v.map AS).length:Nat):Int)=((m+2:Nat):Int):=by rw[Ag,hvl]
 have k1:IntKind.i64.wrap (((m+2:Nat):Int)-1)=((m+1:Nat):Int):=by rw[wI];omega
 have k2:IntKind.i64.wrap (((m+2:Nat):Int)-2)=(m:Int):=by rw[wI];omega
 have hp0:=MK (A:=A) (Z:=Z) S.h0;have hp1:=MK (A:=A) (Z:=Z) S.h1;have hp2:=MK (A:=A) (Z:=Z) S.h2;have hv1:=Dl S.g1;have hv2:=Dl S.g2;have l0:=S.p0l;have l1:=S.p1l;have l2:=S.p2l;have lv1:=S.v1l;have lv2:=S.v2l;refine sR 0 ?_;refine sZ 100 ?_;refine AW ev ?_;refine sR 200 ?_;refine sR 300 ?_;refine DE (α:=Nat×Nat×Nat×Nat) (λp=>⟨[(0,.osl 103 gu 1 A.length (m+3)),(1,.sl false 1 (v.map AS)),(5,i64 ((m+2:Nat):Int)),(6,AS p.1),(7,AS p.2.1),(8,AS p.2.2.1)],[⟨1505,gq,Tq,1,qs⟩,⟨103,gu,172,1,(A++(P++Z)).map AS⟩],p.2.2.2⟩)
  (λp=>MO (AT P) (AT v) (p1+BB*p2) v1 p.1 p.2.1 p.2.2.1) ?_ ?_
 ·refine AC.seq ?_
  refine CM 400 [0,1,2,3,4,5,6,7,8] [9] ?_;refine AD (Ar kN k1 hp2) ?_;refine Bw kT hv1 ?_;refine AD (Ar kN k1 hp2) ?_;rcases BA p2 v1 with h|h
  ·have e1:decide ((p2:Int)>=(v1:Int))=false:=Bc
   have G:=jm S h;rw[e1];refine AN ?_;refine CM 700 [0,1,2,3,4,5,6,7,8,9,10,11,12,13,14,15,16,17,18] [19] ?_;refine AD (BS kN k1 hp2 hp1) ?_;refine Bw kT hv1 ?_;refine AD (BS kN k1 hp2 hp1) ?_;refine Bb.same _ (Y1 p2 p1 v1 h l1 lv1) AI ?_;refine BO ?_;exact⟨trivial,⟨(p2*BB+p1)/v1,(p2*BB+p1)%v1,0,_⟩,G,AL⟩
  ·have e1:decide ((p2:Int)>=(v1:Int))=true:=BV
   have G:=ly S h;rw[e1];refine AN ?_;refine sR 500 ?_;refine CM 600 [0,1,2,3,4,5,6,7,8,9,10,11,12,13,14] [15] ?_;refine AD (BS kN k1 hp2 hp1) ?_;refine Bw kT hv1 ?_;refine AD (BS kN k1 hp2 hp1) ?_;exact⟨trivial,⟨18446744073709551615,(p1+v1+0)%BB,(p1+v1+0)/BB,_⟩,G,AL⟩
 rintro⟨q0,r0,c0,n0⟩ G0;dsimp only at G0⊢;refine DE (α:=Nat×Nat) (λp=>⟨[(0,.osl 103 gu 1 A.length (m+3)),(1,.sl false 1 (v.map AS)),(5,i64 ((m+2:Nat):Int)),(6,AS p.1)],[⟨1505,gq,Tq,1,qs⟩,⟨103,gu,172,1,(A++(P++Z)).map AS⟩],p.2⟩)
  (λp=>p.1<BB/\AT P<(p.1+1)*AT v/\p.1*AT v<=AT P+AT v) ?_ ?_
 ·refine AC.block ?_
  refine Gb (α:=Nat×Nat×Nat×Nat) (λp=>⟨[(0,.osl 103 gu 1 A.length (m+3)),(1,.sl false 1 (v.map AS)),(5,i64 ((m+2:Nat):Int)),(6,AS p.1),(7,AS p.2.1),(8,AS p.2.2.1)],[⟨1505,gq,Tq,1,qs⟩,⟨103,gu,172,1,(A++(P++Z)).map AS⟩],p.2.2.2⟩)
   (λp=>p.1) (λp F'=>F'=F/\MO (AT P) (AT v) (p1+BB*p2) v1 p.1 p.2.1 p.2.2.1) (q0,r0,c0,n0) ⟨rfl,G0⟩ AL ?_
  rintro⟨q,r,c,n1⟩ F' ⟨rfl,G⟩;dsimp only at G⊢;refine AC.seq ?_;refine AC.seq ?_;rcases ED c with hc|hc
  ·subst hc
   have e8:(((0:Nat):Int)==0)=true:=rfl;refine Ao 800 ?_;refine AW e8 ?_;refine AN ?_;refine Aj ?_;refine AC.block ?_;have lq:=G.qB;have cm:=Oq q v2 lq lv2;refine sZ 900 ?_;refine AD (Ab kN k2) ?_;refine Bw kT hv2 ?_;refine AD (Ab kN k2) ?_;refine A7.same _ cm AI ?_;refine BO ?_;have ht:=kI (x:=q*v2) (r:=r) l0;obtain⟨b,hb⟩:∃b:Bool,b=decide (q*v2<=r*BB+p0):=⟨_,rfl⟩
   refine AC.seq ?_;refine D6 ⟨[(0,.osl 103 gu 1 A.length (m+3)),(1,.sl false 1 (v.map AS)),(5,i64 ((m+2:Nat):Int)),(6,AS q),(7,AS r),(91,Ai b)],[⟨1505,gq,Tq,1,qs⟩,⟨103,gu,172,1,(A++(P++Z)).map AS⟩],n1+100⟩ ?_ ?_
   ·change(q*v2/18446744073709551616<r\/q*v2/18446744073709551616=r/\q*v2%18446744073709551616<=p0)↔_ at ht
    generalize q*v2/18446744073709551616=hi at*;generalize q*v2%18446744073709551616=lo at*;rcases BA hi r with h|h
    ·have e1:decide ((hi:Int)<(r:Int))=true:=BV
     have hb1:b=true:=by rw[hb];exact Au (ht.1 (.inl h))
     subst hb1;refine Ao 1000 ?_;refine AD e1 ?_;refine AD kT ?_;exact BK (by trivial) (AL)
    ·have e1:decide ((hi:Int)<(r:Int))=false:=Bc
     rcases Nat.eq_or_lt_of_le h with h2|h2
     ·have e2:((hi:Int)==(r:Int))=true:=EQ.2 (by omega)
      have e3:decide ((lo:Int)<=(p0:Int))=b:=by
       rw[hb];exact DA.2 ⟨λh3=>ht.1 (.inr ⟨h2.symm,by omega⟩),λh3=>by rcases ht.2 h3 with h4|h4<;>omega⟩
      refine Ao 1000 ?_;refine AD e1 ?_;refine AD (Ab kF e2) ?_;refine AD (Ek kF e2 kN k2 hp0 e3) ?_;exact BK (by trivial) (AL)
     ·have e2:((hi:Int)==(r:Int))=false:=Br.2 (by omega)
      have hb1:b=false:=by rw[hb];exact Av λh3=>by rcases ht.2 h3 with h4|h4<;>omega
      subst hb1;refine Ao 1000 ?_;refine AD e1 ?_;refine AD kF ?_;simp only[e2];refine AD (Ab kF Gd) ?_;exact BK (by trivial) (AL)
   ·cases b
    ·have hn:=Db hb.symm
     obtain⟨hq0,G2⟩:=kH S G (by omega);have j1:IntKind.u64.wrap ((q:Int)-1)=((q-1:Nat):Int):=by rw[wU (by omega) (by have:=G.qB;unfold BB at this;omega)];omega
     refine AN ?_;refine Aj ?_;refine sZ 1100 ?_;refine AW j1 ?_;refine Ao 1200 ?_;refine AD (Ab kN k1) ?_;refine Bw kT hv1 ?_;refine AD (Ab kN k1) ?_;exact⟨(q-1,(r+v1+0)%BB,(r+v1+0)/BB,_),⟨trivial,G2⟩,by dsimp only;omega,AL⟩
    ·have hn:=DJ hb.symm
     refine AN ?_;refine CK ?_;exact⟨rfl,⟨q,_⟩,⟨G.qB,G.up,Xh S G (.inr hn)⟩,AL⟩
  ·have e8:((c:Int)==0)=false:=Br.2 (by omega)
   refine Ao 800 ?_;refine AW e8 ?_;refine AN ?_;refine CK ?_;exact⟨rfl,⟨q,_⟩,⟨G.qB,G.up,Xh S G (.inl hc)⟩,AL⟩
 rintro⟨q,n1⟩ ⟨hq,hup,hdn⟩;dsimp only at hq hup hdn⊢;clear hp0 hp1 hp2;refine sR 1300 ?_;refine AC.seq ?_;refine sR 1400 ?_;refine AC.block ?_;refine AC.loop (α:=Nat×Nat×Nat×List Nat×Nat) (λp=>⟨[(0,.osl 103 gu 1 A.length (m+3)),(1,.sl false 1 (v.map AS)),(5,i64 ((m+2:Nat):Int)),(6,AS q),(11,AS p.2.1),(12,AS p.2.2.1),(104,i64 ((m+2:Nat):Int)),(105,i64 p.1)],[⟨1505,gq,Tq,1,qs⟩,⟨103,gu,172,1,(A++(p.2.2.2.1++Z)).map AS⟩],p.2.2.2.2⟩) (λp=>m+2-p.1)
  (λp=>p.1<=m+2/\p.2.1<=1/\p.2.2.1<BB/\p.2.2.2.1.length=m+3/\Wd p.2.2.2.1/\AT p.2.2.2.1+q*AT (v.take p.1)=AT P+BB^p.1*(p.2.2.1+p.2.1)) (0,0,0,P,_) ⟨BU _,BU _,(show 0<BB by decide),hPl,S.wP,by simp[AT]⟩ AL ?_
 rintro⟨i,b,c,p,n2⟩ F ⟨hi,hb,hc,hpl,hpw,hI⟩;dsimp only at hi hb hc hpl hpw hI⊢;have hv1':=hv1;clear hv1 hv2;refine sR 1500 ?_;refine AC.seq ?_;refine AN ?_
 (refine B1 (λhlt=>?_) (λhlt=>?_))<;>(try simp only[Bl,Bz]at hlt)<;>(try simp only[hlt])
 ·have hi2:i<m+2:=by
   have:=DJ hlt
   omega
  obtain⟨x,hx⟩:=Cg (l:=v) (i:=i) (by omega);have hx':=Dl hx;have hxl:x<BB:=S.wv x (Ay hx);obtain⟨z,hz⟩:=Cg (l:=p) (i:=i) (by omega);have hz':=MK (A:=A) (Z:=Z) hz;have hzl:z<BB:=hpw z (Ay hz);have cm:=Oq q x hq hxl;have md:=kf hq hxl hc;obtain⟨h,l,lo,k,c',eh,el,elo,ek,ec,hlo,hc',hmd⟩:∃h l lo k c',q*x/18446744073709551616=h/\q*x%18446744073709551616=l/\(l+c+0)%18446744073709551616=lo/\(l+c+0)/18446744073709551616=k/\h+k=c'/\lo<BB/\c'<BB/\lo+BB*c'=q*x+c:=
   ⟨_,_,_,_,_,rfl,rfl,rfl,rfl,rfl,B7 _ (by decide),md.2,md.1⟩
  rw[eh,el]at cm;have j1:IntKind.u64.wrap ((h:Int)+(k:Int))=(c':Int):=by rw[<-Int.natCast_add,ec];exact TS hc'
  have hsub:=UO (a:=z) (b:=lo) hb;have hdig:=UG hzl hlo hb;have hb':(if z<lo+b then 1 else 0)<=1:=by split<;>decide
  have hd:(z+BB-lo-b)%BB<BB:=B7 _ (by decide);generalize(if z<lo+b then 1 else 0)=b' at*;generalize(z+BB-lo-b)%BB=d at*;have wi:IntKind.i64.wrap ((i:Int)+1)=((i+1:Nat):Int):=wI;refine Aj ?_;refine AC.seq ?_;refine AC.block ?_;refine sR 1600 ?_;refine sZ 1700 ?_;refine AD kN ?_;refine Bw kT hx' ?_;refine AD kN ?_;refine A7.same _ cm AI ?_;refine BO ?_;refine sR 1800 ?_;refine sZ 1900 ?_;refine AW (Ab elo ek) ?_;refine sZ 2000 ?_;refine AW j1 ?_;refine Ao 2100 ?_;refine AD (Ab kN hz') ?_
  first|(refine ET rfl rfl ?_;refine Ro rfl rfl (hsub) ?_)|(refine FE rfl rfl ?_;refine O8 rfl rfl (hsub) ?_)
  refine AD (Ab kN hz') ?_;rw[RY (by omega)];refine Ao 2200 ?_;refine AW wi ?_;exact⟨(i+1,b',c',p.set i d,_),⟨hi2,hb',hc',by dsimp only;rw[D9];exact hpl,hpw.set hd,jO hz hx hI hmd hdig⟩,by dsimp only;omega,AL⟩
 ·have hi2:i=m+2:=by
   have:=Db hlt
   omega
  subst hi2;rw[Gj]at hI;obtain⟨z,hz⟩:=Cg (l:=p) (i:=m+2) (by omega);have hz':=MK (A:=A) (Z:=Z) hz;have hzl:z<BB:=hpw z (Ay hz);have hsub:=UO (a:=z) (b:=c) hb;have hdig:=UG hzl hc hb;have hb':(if z<c+b then 1 else 0)<=1:=by split<;>decide
  have hd:(z+BB-c-b)%BB<BB:=B7 _ (by decide);generalize(if z<c+b then 1 else 0)=b' at*;generalize(z+BB-c-b)%BB=d at*;have hT:=jP hz hI hdig;have hml:m+2<p.length:=by omega
  refine CK ?_;refine sZ 2300 ?_;refine AD (Ab kN hz') ?_
  first|(refine ET rfl rfl ?_;refine Ro rfl rfl (hsub) ?_)|(refine FE rfl rfl ?_;refine O8 rfl rfl (hsub) ?_)
  refine AD (Ab kN hz') ?_;rw[RY hml];have hpl2:(p.set (m+2) d).length=m+3:=by rw[D9];exact hpl
  have hpw2:=hpw.set (i:=m+2) hd;clear hz' hz hdig hsub hI;generalize p.set (m+2) d=p2 at*;refine AC.seq ?_;refine AC.seq ?_;rcases ED b' with hb0|hb0
  ·subst hb0
   have e24:(((0:Nat):Int)==0)=true:=rfl;obtain⟨ed,em⟩:=UE hT hup;refine Ao 2400 ?_;refine AW e24 ?_;refine AN ?_;refine sR 2500 ?_;refine Ad ?_;exact⟨p2,by omega,hpw2,em.symm,by rw[ed],rfl⟩
  ·have hb1:b'=1:=by omega
   subst hb1;have e24:(((1:Nat):Int)==0)=false:=rfl;have hpL:=IC hpw2;rw[hpl2]at hpL;refine Ao 2400 ?_;refine AW e24 ?_;refine AN ?_;refine Aj ?_;refine sR 2600 ?_;refine AC.seq ?_;refine sR 2700 ?_;refine AC.block ?_;refine AC.loop (α:=Nat×Nat×List Nat×Nat) (λp=>⟨[(0,.osl 103 gu 1 A.length (m+3)),(1,.sl false 1 (v.map AS)),(5,i64 ((m+2:Nat):Int)),(6,AS q),(17,AS p.2.1),(156,i64 ((m+2:Nat):Int)),(157,i64 p.1)],[⟨1505,gq,Tq,1,qs⟩,⟨103,gu,172,1,(A++(p.2.2.1++Z)).map AS⟩],p.2.2.2⟩) (λp=>m+2-p.1)
    (λp=>p.1<=m+2/\p.2.1<=1/\p.2.2.1.length=m+3/\Wd p.2.2.1/\AT p.2.2.1+BB^p.1*p.2.1=AT p2+AT (v.take p.1)) (0,0,p2,_) ⟨BU _,BU _,hpl2,hpw2,by simp[AT]⟩ AL ?_
   rintro⟨i,c3,p3,n3⟩ F ⟨hi,hc3,hpl3,hpw3,hI⟩;dsimp only at hi hc3 hpl3 hpw3 hI⊢;refine sR 2800 ?_;refine AC.seq ?_;refine AN ?_
   (refine B1 (λhlt=>?_) (λhlt=>?_))<;>(try simp only[Bl,Bz]at hlt)<;>(try simp only[hlt])
   ·have hi2:i<m+2:=by
     have:=DJ hlt
     omega
    obtain⟨x,hx⟩:=Cg (l:=v) (i:=i) (by omega);have hx':=Dl hx;have hxl:x<BB:=S.wv x (Ay hx);obtain⟨z,hz⟩:=Cg (l:=p3) (i:=i) (by omega);have hz':=MK (A:=A) (Z:=Z) hz;have hzl:z<BB:=hpw3 z (Ay hz);have hadd:=Ye (a:=z) (b:=x) hc3;have J:=jH hz hx hI;have hs:(z+x+c3)%BB<BB:=B7 _ (by decide);have hc':(z+x+c3)/BB<=1:=by
     have:z+x+c3<2*BB:=by omega
     exact OB (Fk (by rw[BY];exact this))
    generalize(z+x+c3)%BB=d at*;generalize(z+x+c3)/BB=c' at*;have wi:IntKind.i64.wrap ((i:Int)+1)=((i+1:Nat):Int):=wI;refine Aj ?_;refine AC.seq ?_;refine AC.block ?_;refine sR 2900 ?_;refine Pz w1 3000 [0,1,2,3,4,5,6,7,8,9,10,11,12,13,14,15,16] [17] 16 [12,10,9,8,7,6,5,4,3,2,1,0,11,13,15] (103) (by kernel_rfl) (by kernel_rfl) ?_;refine BJ ?_;refine Mt (Ab kN hz') ?_;refine M4 rfl rfl rfl rfl ?_;refine NY (λ_ _=>rfl) (by exact CF) ⟨rfl,by omega⟩ hx' ?_
    try dsimp only[D.cells,spot]
    refine Mt (Ab kN hz') ?_;refine M4 rfl rfl rfl rfl ?_;refine O8 rfl rfl hadd ?_;refine Mt (Ab kN hz') ?_;refine BK (by first|exact Or.inl AB|exact Or.inl rfl) ?_;refine AD kN ?_;rw[RY (by omega)];refine Ao 3100 ?_;refine AW wi ?_;exact⟨(i+1,c',p3.set i d,_),⟨hi2,hc',by dsimp only;rw[D9];exact hpl3,hpw3.set hs,J⟩,by dsimp only;omega,AL⟩
   ·have hi2:i=m+2:=by
     have:=Db hlt
     omega
    subst hi2;rw[Ch (l:=v) (by omega)]at hI;obtain⟨z,hz⟩:=Cg (l:=p3) (i:=m+2) (by omega);have hz':=MK (A:=A) (Z:=Z) hz;have hzl:z<BB:=hpw3 z (Ay hz);have J:=jL hz hI;have hs:(z+c3)%BB<BB:=B7 _ (by decide);have hc':(z+c3)/BB<=1:=by
     have:z+c3<2*BB:=by omega
     exact OB (Fk (by rw[BY];exact this))
    have j1:IntKind.u64.wrap ((z:Int)+(c3:Int))=(((z+c3)%BB:Nat):Int):=by rw[<-Int.natCast_add];exact JS _
    generalize(z+c3)%BB=d at*;generalize(z+c3)/BB=c' at*;have hml:m+2<p3.length:=by omega
    have hpl4:(p3.set (m+2) d).length=m+3:=by rw[D9];exact hpl3
    have hpw4:=hpw3.set (i:=m+2) hs;have hpL4:=IC hpw4;rw[hpl4]at hpL4;obtain⟨q0p,ed,em⟩:=Ya (by rw[EO]at hT;exact hT) hpL hdn J hc' hpL4;have j2:IntKind.u64.wrap ((q:Int)-1)=((q-1:Nat):Int):=by rw[wU (by omega) (by unfold BB at hq;omega)];omega
    refine CK ?_;refine sZ 3200 ?_;refine AD (Ar kN hz' j1) ?_;rw[RY hml];refine sZ 3300 ?_;refine AW j2 ?_;refine Ad ?_;exact⟨p3.set (m+2) d,by omega,hpw4,em.symm,by rw[ed],rfl⟩
theorem Ct.toP {C:A9}{f:Nat}{args:List D}{Φ:D->Hp->Nat->Prop}{Ψ:D->Prop}(h:Ct C f args [] 0 Φ)(k:∀d H n,Φ d H n->∃d',Fz H [] d d'/\CC d'/\Ψ d'):AZ C f args Ψ:=by
 refine⟨h.1,λY w vs hG hnG hX' hvs hr=>?_⟩
 let F0:AY:=⟨w,Y,λ_=>False,0,nol,[]⟩
 have m0:Ak C F0 nol [] w:=⟨⟨by simp,.nil,by simp⟩,rfl,rfl,rfl,Al _,λ_ _ _=>rfl,hX',hG,hnG,by simp[F0],λ_ _ _ h=>h,λ_ cs _ _ h=>⟨cs,_,h,rfl⟩⟩
 have hoe:AM F0.X nol []=Y:=funext λb=>propext (by simp[AM,F0])
 refine(h.2 F0 nol w vs m0 (λ_ _ _=>rfl) (by simp) hvs (λi d hd=>by rw[hoe];exact hr i d hd)).mono ?_;rintro e w' ⟨v,d,H',n',ρ',rfl,hΦ,m,x,fr,g,r⟩;obtain⟨d',h3,h4,h5⟩:=k d H' n' hΦ;have hH:Cw H' [] H' []:=by
  generalize H'=H0
  have:∀H1:Hp,Cw H0 [] H1 []:=λH1=>by
   induction H1 with
   |nil=>exact .nil
   |cons e r ih=>exact .drop ih
  exact this H0
 obtain⟨m2,hO,hN⟩:=hH.mem m;have r3:=h3.rep m hO hN r;have r4:=h4 _ nol _ _ _ r3;exact⟨v,d',rfl,⟨m.os,m.tape,m.output,m.size,λb hb=>m.blk b hb (by simp[F0])⟩,h5,r4.anti λb hb=>.inl hb⟩
theorem dx {H Hf:Hp}{a a' b b':D}(h1:Fz H Hf a a')(h2:Fz H Hf b b'):Fz H Hf (.tup [a,b]) (.tup [a',b']):=
 .tup rfl λi d d' hd hd'=>by
  match i with
  | 0=>simp at hd hd';subst hd;subst hd';exact h1
  | 1=>simp at hd hd';subst hd;subst hd';exact h2
  |i+2=>simp at hd
theorem ZF {a b:D}(h1:CC a)(h2:CC b):CC (.tup [a,b]):=CC.tup λd hd=>by
 simp only[Az,Dk,or_false]at hd;rcases hd with rfl|rfl
 ·exact h1
 ·exact h2
theorem jl (K g T:Nat)(l l':List Nat)(h:l.take l'.length=l'):Fz [⟨K,g,T,1,l.map AS⟩] [] (.osl K g 1 0 l'.length) (wL l'):=by
 have hll:l'.length<=l.length:=by
  have:=congrArg List.length h
  rw[Bi]at this;omega
 have key:∀(j:Nat) (d d':D),(l.map AS)[0+j]?=some d->(l'.map AS)[j]?=some d'->d=d':=λj d d' h1 h2=>by
  rw[<-h,A8,FP]at h2;rw[BZ,A8]at h1;split at h2
  ·rw[h1]at h2;exact F8 h2
  ·simp at h2
 refine .osl (e:=⟨K,g,T,1,l.map AS⟩) (by simp[Hp.get]) rfl rfl rfl (by simp;exact hll) (by simp) (λj d d' h1 h2=>by rw[key j d d' h1 h2]) λj d d' q c c' h1 h2 h3 h4=>?_
 rw[key j d d' h1 h2]at h3;rw[h3]at h4;cases h4;exact Fz.refl _
theorem qo:wD 0=.sl false 1 []:=by unfold wD;rw[GR];rfl
theorem m5 (w:List Nat)(s:Nat)(hs:s<=63)(hw:Wd w)(hl:w.length<4000000):AZ C0 174 [wL w,i64 s] (λd=>∃out:List Nat,out.length=w.length+1/\Wd out/\AT out=AT w*2^s/\d=wL out):=
 (XV w s hs hw hl [] 0).toP λd H n ⟨out,g,h1,h2,h3,h4,h5,_⟩=>by
  subst h4;subst h5;refine⟨wL out,?_,K8 _,out,h1,h2,h3,rfl⟩
  have:=jl 103 g 172 out out (by simp)
  rw[h1]at this;exact this
theorem l9 {n k:Nat}(h1:BB^k<=n)(h2:n<BB^(k+1)):(Ae n).length=k+1:=by
 have h3:=G9 h2;have h4:=DH h1 (Jz n);have h5:=(Nat.pow_lt_pow_iff_right (show 1<BB by decide)).1 h4;omega
theorem Tx:∀(n:Nat) {k a:Nat},(Ae n).length=k+1->(Ae n)[k]?=some a->a≠0:=λn=>by
 induction n using Nat.strongRecOn with
 |ind n ih=>
  intro k a h1 h2
  by_cases h0:n=0
  ·subst h0;rw[GR]at h1;cases h1
  ·rw[Gl h0]at h1 h2
   rw[Bq]at h1;have h3:=Nat.succ.inj h1;cases k with
   |zero=>
    have h4:Ae (n/BB)=[]:=F6 h3;have h5:n/BB=0:=by rw[<-FS (n/BB),h4];rfl
    have h6:=FM n BB;rw[h5]at h6;simp at h2;intro h7;subst h7;rw[h2]at h6;omega
   |succ k=>
    rw[Kb]at h2;exact ih _ (Ia (EP h0) (by decide)) h3 h2
theorem Yj {n k:Nat}(h:(Ae n).length=k+1):BB^k<=n:=by
 obtain⟨a,ha⟩:=Cg (l:=Ae n) (i:=k) (by omega);have h1:=Tx n h ha;have h2:=WN h ha;rw[FS]at h2;have h3:=Cr (BB^k) (show 1<=a by omega);omega
theorem wQ {b m y s:Nat}(hs:s<=63)(hl:(Ae b).length=m+1)(hy:(Ae b)[m]?=some y)(h:y*2^s<BB):(Ae (b*2^s)).length=m+1:=by
 have hp:0<2^s:=HU s;have hpp:2^(64-s)*2^s=BB:=by rw[<-Ge,show 64-s+s=64 by omega]
 have h1:y<2^(64-s):=by
  rw[<-hpp]at h;exact Nat.lt_of_mul_lt_mul_right h
 refine l9 ?_ ?_
 ·have:=Yj hl
  exact BT this (Nat.le_mul_of_pos_right _ hp)
 ·have h2:=WN hl hy
  have h3:=IC ((Fr b).take m);rw[Bi,hl,Fh (by omega)]at h3;rw[FS]at h2;have h4:b<BB^m*(y+1):=by rw[BN,EO];omega
  have h5:BB^m*(y+1)<=BB^m*2^(64-s):=Cr _ h1;have h6:b*2^s<BB^m*2^(64-s)*2^s:=S0 (Co h4 h5) hp;rw[Bx,hpp]at h6;exact h6
theorem Y5 {l:List Nat}{j a:Nat}(h:l[j]?=some a):AT (l.drop j)=a+BB*AT (l.drop (j+1)):=by
 have hj:j<l.length:=(BQ.1 h).1;rw[EN hj,(BQ.1 h).2];rfl
theorem RI {l:List Nat}{j a:Nat}(h:j<l.length):(l.set j a).drop j=a::l.drop (j+1):=by
 rw[EN (by rw[D9];exact h)]
 congr 1
 ·exact List.getElem_set_self _
 ·rw[List.drop_set_of_lt (by omega)]
theorem jz {a q:List Nat}{j x b rest:Nat}(hb:0<b)(hx:a[j]?=some x)(hj:j<q.length)(hI:AT (q.drop (j+1))*b+rest=AT (a.drop (j+1))):
  AT ((q.set j ((rest*BB+x)/b)).drop j)*b+(rest*BB+x)%b=AT (a.drop j)/\(rest*BB+x)%b<b:=by
 refine⟨?_,B7 _ hb⟩;rw[RI hj,Y5 hx,<-hI,AT];have e:=E3 (rest*BB+x) b;rw[Bv,BN BB,Bx BB,BY BB rest,BY _ b];omega
theorem Qm {q b r a:Nat}(h:q*b+r=a)(hr:r<b):q=a/b/\r=a%b:=by
 subst h;rw[BY];exact⟨by rw[Nat.mul_add_div (by omega),Hy hr,Dq],by rw[Nat.mul_add_mod,Ff hr]⟩
structure MJ (X:Nat)(v U q:List Nat)(lu lq k:Nat):Prop where
 lU:U.length=lu
 lQ:q.length=lq
 wU:Wd U
 wq:Wd q
 val:BB^k*AT (q.drop k)*AT v+AT U=X
 less:AT (U.drop k)<AT v
theorem iG {U:List Nat}(j n:Nat):U=U.take j++((U.drop j).take n++U.drop (j+n)):=by
 rw[<-List.drop_drop,Fj,Fj]
theorem oI {X:Nat}{v U q:List Nat}{lu lq j m:Nat}(I:MJ X v U q lu lq (j+1))(hv:v.length=m+2)(wv:Wd v)(v1 v2:Nat)(h2:v[m]?=some v2)(h1:v[m+1]?=some v1)(ht:0<v1)(hj:j+(m+3)<=lu):
  ∃p0 p1 p2,NL ((U.drop j).take (m+3)) v m p0 p1 p2 v2 v1/\AT (U.drop (j+(m+3)))=0/\AT ((U.drop j).take (m+3))=AT (U.drop j):=by
 obtain⟨lU,lQ,wU,wq,val,less⟩:=I;obtain⟨x,hx⟩:=Cg (l:=U) (i:=j) (by omega);have hxl:=wU x (Ay hx);have e1:=Y5 hx;have hlt:AT (U.drop j)<AT v*BB:=by
  have:BB*(AT (U.drop (j+1))+1)<=BB*AT v:=Cr _ less
  rw[BN,BY BB (AT v)]at this;omega
 have hPl:((U.drop j).take (m+3)).length=m+3:=by rw[Bi,Dp];omega
 have e2:AT (U.drop j)=AT ((U.drop j).take (m+3))+BB^(m+3)*AT (U.drop (j+(m+3))):=by
  conv=>lhs;rw[<-Fj (m+3) (U.drop j)]
  rw[Kr,hPl,List.drop_drop]
 have hvl:=IC wv;rw[hv]at hvl;have hz:AT (U.drop (j+(m+3)))=0:=by
  rcases ED (AT (U.drop (j+(m+3))))with h|h
  ·exact h
  ·exfalso
   have e3:BB^(m+3)*1<=BB^(m+3)*AT (U.drop (j+(m+3))):=Cr _ h;have e4:AT v*BB<=BB^(m+2)*BB:=CP _ (Jn hvl);have e5:BB^(m+2)*BB=BB^(m+3):=(CQ BB (m+2)).symm;rw[e5]at e4;omega
 rw[hz,E6,Dq]at e2;obtain⟨p0,h0⟩:=Cg (l:=(U.drop j).take (m+3)) (i:=m) (by omega);obtain⟨p1,h3⟩:=Cg (l:=(U.drop j).take (m+3)) (i:=m+1) (by omega);obtain⟨p2,h4⟩:=Cg (l:=(U.drop j).take (m+3)) (i:=m+2) (by omega);exact⟨p0,p1,p2,⟨hPl,hv,λa ha=>wU a (Li (JA ha)),wv,h0,h3,h4,h2,h1,ht,by rw[<-e2];exact hlt⟩,hz,e2.symm⟩
theorem oH {X:Nat}{v U q P':List Nat}{lu lq j m:Nat}(I:MJ X v U q lu lq (j+1))(hv:0<AT v)(hj:j+(m+3)<=lu)(hjq:j<lq)(hz:AT (U.drop (j+(m+3)))=0)(hP:AT ((U.drop j).take (m+3))=AT (U.drop j))
  (h1:P'.length=m+3) (h2:Wd P') (h3:AT P'=AT ((U.drop j).take (m+3))%AT v) (hd:AT ((U.drop j).take (m+3))/AT v<BB):
  MJ X v (U.take j++(P'++U.drop (j+(m+3)))) (q.set j (AT ((U.drop j).take (m+3))/AT v)) lu lq j:=by
 obtain⟨lU,lQ,wU,wq,val,less⟩:=I;have hA:(U.take j).length=j:=by rw[Bi];omega
 have e0:AT U=AT (U.take j)+BB^j*AT (U.drop j):=by
  conv=>lhs;rw[<-Fj j U]
  rw[Kr,hA]
 have e1:AT (P'++U.drop (j+(m+3)))=AT P':=by rw[Kr,hz,E6,Dq]
 refine⟨?_,by rw[D9];exact lQ,?_,wq.set hd,?_,?_⟩
 ·rw[Bp,Bp,hA,h1,Dp];omega
 ·exact Wd.append (wU.take j) (Wd.append h2 λa ha=>wU a (Li ha))
 ·rw[RI (by omega),AT,Kr,hA,e1,h3,hP]
  rw[e0]at val;have e2:=E3 (AT (U.drop j)) (AT v);have e3:BB^(j+1)*AT (q.drop (j+1))*AT v=BB^j*(BB*AT (q.drop (j+1))*AT v):=by
   rw[CQ,Bx,Bx,Bx]
  rw[e3]at val;have e4:BB^j*AT (U.drop j)=BB^j*(AT v*(AT (U.drop j)/AT v))+BB^j*(AT (U.drop j)%AT v):=by
   rw[<-BN,e2]
  rw[Bx,Bv,BN,BY (AT (U.drop j)/AT v)];omega
 ·rw[List.drop_left' hA,e1,h3]
  exact B7 _ hv
theorem lV {a b s:Nat}{U v:List Nat}{k lu lq:Nat}(hU:AT U=a*2^s)(hv:AT v=b*2^s)(wU:Wd U)(lU:U.length=lu){q:List Nat}(hq:q=List.replicate lq 0)(hk:lq<=k)
  (hab:a<BB^k*b):MJ (a*2^s) v U q lu lq k:=by
 subst hq;refine⟨lU,HR,wU,M9 _,?_,?_⟩
 ·rw[HP (by rw[HR];exact hk)]
  rw[show AT []=0 from rfl,E6,HS,BZ,hU]
 ·rcases BA (AT (U.drop k)) (AT v)with h|h
  ·exact h
  ·exfalso
   have e0:AT U=AT (U.take k)+BB^(U.take k).length*AT (U.drop k):=by
    conv=>lhs;rw[<-Fj k U]
    rw[Kr]
   have hp:0<2^s:=HU s;have h3:a*2^s<BB^k*b*2^s:=S0 hab hp;rw[Bx,<-hv]at h3;rcases BA U.length k with hl|hl
   ·rw[HP (by omega)]at h
    rw[show AT []=0 from rfl]at h;rw[Nat.le_zero.1 h,E6]at h3;omega
   ·rw[Bi,Fh hl]at e0
    have:=Cr (BB^k) h
    omega
theorem oG {a b s:Nat}{v U q:List Nat}{lu lq:Nat}(I:MJ (a*2^s) v U q lu lq 0)(hv:AT v=b*2^s):AT q=a/b/\AT U=a%b*2^s:=by
 obtain⟨lU,lQ,wU,wq,val,less⟩:=I;simp only[Mq,JD,Fi]at val less;obtain⟨h1,h2⟩:=Qm val less;rw[hv,P7 _ _ (HU s)]at h1;rw[hv,P8]at h2;exact⟨h1,h2⟩
structure Oz (U u:List Nat)(s i:Nat):Prop where
 len:u.length=U.length
 wd:Wd u
 rest:∀k,i<=k->u[k]?=U[k]?
 val:∀c,U[i]?=some c->AT (U.take i)+BB^i*(c%2^s)=2^s*AT (u.take i)
theorem kC {U:List Nat}{s r:Nat}(wU:Wd U)(h:AT U=r*2^s)(hs:s<=63):Oz U U s 0:=by
 refine⟨rfl,wU,λ_ _=>rfl,λc hc=>?_⟩;have e:=K9 hc;simp only[OC,Mq,JD,AT,BZ,E6]at e⊢;have hpp:2^(64-s)*2^s=BB:=by rw[<-Ge,show 64-s+s=64 by omega]
 have e1:(AT U)%2^s=0:=by rw[h];exact Nat.mul_mod_left _ _
 rw[e,<-hpp,Nat.mul_right_comm,Nat.add_mul_mod_self_right]at e1;exact e1
theorem Xa {c d s:Nat}(hs:s<=63)(hc:c<BB):c/2^s ||| d*2^(64-s)%BB=c/2^s+d%2^s*2^(64-s)/\c/2^s+d%2^s*2^(64-s)<BB /\
  c%2^s+2^s*(c/2^s+d%2^s*2^(64-s))=c+BB*(d%2^s):=by
 have hpp:2^s*2^(64-s)=BB:=by rw[<-Ge,show s+(64-s)=64 by omega]
 have h1:d*2^(64-s)%BB=d%2^s*2^(64-s):=by rw[<-hpp,P8]
 have h2:c/2^s<2^(64-s):=Fk (by rw[hpp];exact hc);have h3:d%2^s<2^s:=B7 _ (HU s);have h4:(d%2^s+1)*2^(64-s)<=2^s*2^(64-s):=CP _ h3;rw[hpp,Bv,JD]at h4;have e:=FM c (2^s);refine⟨?_,by omega,?_⟩
 ·rw[h1,Nat.or_comm,Vb h2,Lj]
 ·rw[BN,JB,hpp,BY (d%2^s)]
  omega
theorem l5 {U u:List Nat}{s i c d:Nat}(hs:s<=63)(wU:Wd U)(I:Oz U u s i)(hc:U[i]?=some c)(hd:U[i+1]?=some d):
  Oz U (u.set i (c/2^s+d%2^s*2^(64-s))) s (i+1):=by
 obtain⟨len,wd,rest,val⟩:=I;have hcl:=wU c (Ay hc);obtain⟨_,e2,e3⟩:=Xa (d:=d) hs hcl;have hi:i<U.length:=(BQ.1 hc).1;refine⟨by rw[D9];exact len,wd.set e2,λk hk=>?_,λc' hc'=>?_⟩
 ·rw[I9 (by omega)];exact rest k (by omega)
 ·rw[hd]at hc'
  cases hc';have v0:=val c hc;rw[RJ (by omega),HD (i:=i) (by rw[Bi];omega),Fq hc,HD (i:=i) (by rw[Bi];omega),BN,<-v0,CQ,Bx,JB (2^s)];have e4:BB^i*(c%2^s+2^s*(c/2^s+d%2^s*2^(64-s)))=BB^i*(c+BB*(d%2^s)):=by rw[e3]
  rw[BN,BN (BB^i) c]at e4;omega
theorem lZ {U u:List Nat}{s n r:Nat}(I:Oz U u s n)(hn:n<U.length)(hU:AT U=r*2^s)(hl:AT U<BB^n):AT (u.take n)=r:=by
 obtain⟨c,hc⟩:=Cg hn;have e:=K9 hc;have hz:c+BB*AT (U.drop (n+1))=0:=by
  rcases ED (c+BB*AT (U.drop (n+1)))with h|h
  ·exact h
  ·have:=Cr (BB^n) h
   omega
 have hc0:c=0:=by omega
 subst hc0;have v0:=I.val 0 hc;rw[hz,E6,Dq]at e;rw[Nat.zero_mod,E6,Dq,<-e,hU,BY]at v0;exact(Nat.eq_of_mul_eq_mul_left (HU s) v0).symm
theorem Zj {a b:Nat}(h:a<b):decide (EJ (a:Int) (b:Int)<0)=true:=Au (by unfold EJ;split<;>(try split)<;>omega)
theorem Rb {a b:Nat}(h:b<=a):decide (EJ (a:Int) (b:Int)<0)=false:=Av (by unfold EJ;split<;>(try split)<;>omega)
theorem qr {env:Ap}{t K g n N t2:Nat}{z:List Nat}{T:Nat}{d2:D}(hl:z.length=N)(he:env.get t=.osl K g 1 0 N:=by exact rfl)(h2:env.get t2=d2:=by exact rfl):Wk ⟨env,[⟨K,g,T,1,z.map AS⟩],n⟩ ⟨[(t,.sl false 1 (z.map AS)),(t2,d2)],[],n⟩:=by
 subst hl;refine⟨.drop .nil,⟨?_,?_,trivial⟩,Al _⟩
 ·dsimp only
  rw[he]
  have:=Rw K g T 1 (z.map AS)
  rwa [Ag]at this
 ·dsimp only
  rw[h2];exact .refl _
theorem lX (a b:Nat)(hab:a<b)(ha:(Ae a).length<1000000)(hb:(Ae b).length<1000000):AK C0 127 [wD a,wD b] (.tup [wD (a/b),wD (a%b)]):=by
 rw[Hy hab,Ff hab,qo];refine AZ.walk w1 SB rfl λF=>?_
 have cc:=Rc a b (by omega) (by omega);have e1:=Zj hab;refine sR 0 ?_;refine AC.seq ?_;refine sR 100 ?_;refine cI cc ?_;rw[e1];refine AN ?_;refine sR 200 ?_;refine Ad ?_;exact⟨_,dx (.nil 1) (.refl _),ZF (.sl λe he=>by cases he) (K8 _),rfl⟩
theorem oJ (a b:Nat)(hab:b<=a)(ha:(Ae a).length<1000000)(hb:(Ae b).length=1)(hb0:b≠0):AK C0 127 [wD a,wD b] (.tup [wD (a/b),wD (a%b)]):=by
 have cc:=Rc a b (by omega) (by omega);have e1:=Rb hab;have hbl:b<BB:=by
  have:=Jz b
  rw[hb,Nat.pow_one]at this;exact this
 have hlb:(Ae b)[0]?=some b:=by rw[M2 hb0 hbl];rfl
 have va:=FS a;have wa:=Fr a;refine AZ.walk w1 SB rfl λF=>?_
 unfold wD wL at cc⊢;change AC C0 F none F _ _ (SQ X1.tt _ (· = .tup [wD (a/b),wD (a%b)]));generalize Ae a=la at*;generalize Ae b=lb at*;have hb':=Dl hlb;have e3:((((lb.map AS).length:Nat):Int)==1)=true:=by rw[Ag,hb];rfl
 have ea:(((la.map AS).length:Nat):Int)=(la.length:Int):=by rw[Ag]
 have wl:IntKind.i64.wrap ((la.length:Int)-1)=(la.length:Int)-1:=wI;have r3:List.replicate la.length (ofV (.int .u64 0))=(List.replicate la.length 0).map AS:=by rw[Kf];rfl
 refine sR 0 ?_;refine AC.seq ?_;refine sR 100 ?_;refine cI cc ?_;rw[e1];refine AN ?_;refine Aj ?_;refine AC.seq ?_;refine sZ 300 ?_;refine AW e3 ?_;refine AN ?_;refine sZ 400 ?_;refine AW (Ab ea kN) ?_;refine sR 500 ?_;refine AC.seq ?_;refine sZ 600 ?_;refine AW (Ab ea wl) ?_;refine AC.block ?_;refine AC.loop (α:=Nat×Nat×List Nat×Nat) (λp=>⟨[(0,.sl false 1 (la.map AS)),(1,.sl false 1 (lb.map AS)),(6,.osl 402 11 1 0 la.length),(7,AS p.2.1),(8,i64 ((p.1:Int)-1))],[⟨402,11,172,1,p.2.2.1.map AS⟩],p.2.2.2⟩) (λp=>p.1)
  (λp=>p.1<=la.length/\p.2.1<b/\p.2.2.1.length=la.length/\Wd p.2.2.1/\AT (p.2.2.1.drop p.1)*b+p.2.1=AT (la.drop p.1)) (la.length,0,List.replicate la.length 0,_)
  ⟨Al _,EP hb0,by simp,M9 _,by simp[AT]⟩ (by rw[<-r3];exact AL) ?_
 rintro⟨k,r,q,m⟩ F ⟨h1,h2,h3,h4,h5⟩;dsimp only at h1 h2 h3 h4 h5⊢;clear cc e1 e3 ea wl r3;refine AC.seq ?_;refine sR 700 ?_;refine AN ?_
 (refine B1 (λh20=>?_) (λh20=>?_))<;>(try simp only[Bl,Bz]at h20)<;>(try simp only[h20])
 ·obtain⟨j,rfl⟩:∃j,k=j+1:=⟨k-1,by
   have:(k:Int)-1>=0:=by simpa using h20
   omega⟩
  have wj:((j+1:Nat):Int)-1=(j:Int):=by omega
  obtain⟨x,hx⟩:=Cg (l:=la) (i:=j) (by omega);obtain⟨z,hz⟩:=Cg (l:=q) (i:=j) (by omega);have hx':=Dl hx;have hz':=Dl hz;have hxl:=wa x (Ay hx);have cd:=Y1 r x b h2 hxl hbl;obtain⟨J1,J2⟩:=jz (EP hb0) hx (by omega) h5;have hql:(r*BB+x)/b<BB:=by
   refine Fk ?_
   have:(r+1)*BB<=b*BB:=CP _ h2
   rw[Bv]at this;omega
  have wi:IntKind.i64.wrap ((j:Int)-1)=(j:Int)-1:=wI;generalize(r*BB+x)/b=d at*;generalize(r*BB+x)%b=r' at*;rw[wj];refine Aj ?_;refine AC.seq ?_;refine AC.block ?_;refine Pz w1 900 [0,1,2,3,4,5,6,7,8,9,10,11,12,13,14,15] [16] 15 [11,9,8,7,6,5,4,3,2,1,0,10,12,14] (402) (by kernel_rfl) (by kernel_rfl) ?_;refine BJ ?_;refine Mt kN ?_;refine M4 rfl rfl rfl rfl ?_;refine NY (λ_ _=>rfl) (by exact CF) ⟨rfl,by omega⟩ hx' ?_
  try dsimp only[D.cells,spot]
  refine Mt kN ?_;refine M4 rfl rfl rfl rfl ?_;refine NY (λ_ _=>rfl) (by exact CF) ⟨rfl,by omega⟩ hb' ?_
  try dsimp only[D.cells,spot]
  refine Mt kN ?_;refine M4 rfl rfl rfl rfl ?_;refine MB (λ_ _=>rfl) (by exact CF) ?_;refine BJ ?_;refine Bb.same _ cd AI ?_;refine Mt (Ar kN BZ hz') ?_;refine BK (by first|exact Or.inl AB|exact Or.inl rfl) ?_;refine AD (Ab kN BZ) ?_;rw[map_set];refine Ao 800 ?_;refine AW wi ?_;exact⟨(j,r',q.set j d,_),⟨by dsimp only;omega,J2,by dsimp only;rw[D9];exact h3,h4.set hql,J1⟩,by dsimp only;omega,AL⟩
 ·have hk:k=0:=by
   have:¬((k:Int)-1>=0):=by simpa using h20
   omega
  subst hk;rw[Fi,Fi,va]at h5;obtain⟨q1,q2⟩:=Qm h5 h2;refine CK ?_;refine AC.weak ⟨[(6,.sl false 1 (q.map AS)),(7,AS r)],[],_⟩ (qr h3) ?_;refine sR 1000 ?_;refine A7.same _ (trim_ok q h4 (by omega)) AI ?_;refine BO ?_;have hrl:Wd [r]:=λa ha=>by
   simp only[Az,Dk,or_false]at ha;subst ha;exact Gf h2 hbl
  refine A7.pure [wL [r]] _ ⟨.nn true 1 _,trivial⟩ (trim_ok [r] hrl (by simp)) AI ?_;refine BO ?_;refine Ad ?_;exact AJ (by rw[q1,q2];simp[AT]) AA.out
set_option maxHeartbeats 4000000
theorem Zy {H:Hp}{K g T:Nat}{l:List Nat}{N:Nat}(hl:l.length=N)(he:Hp.get H K=some ⟨K,g,T,1,l.map AS⟩:=by exact rfl):Fz H [] (.osl K g 1 0 N) (.sl false 1 (l.map AS)):=by
 subst hl;have key:∀(j:Nat) (d d':D),(l.map AS)[0+j]?=some d->(l.map AS)[j]?=some d'->d=d':=λj d d' h1 h2=>by
  rw[BZ]at h1;rw[h1]at h2;exact F8 h2
 refine .osl (e:=⟨K,g,T,1,l.map AS⟩) he rfl rfl rfl (by simp) (by simp) (λj d d' h1 h2=>by rw[key j d d' h1 h2]) λj d d' q c c' h1 h2 h3 h4=>?_
 rw[key j d d' h1 h2]at h3;rw[h3]at h4;cases h4;exact Fz.refl _
theorem lY (a b m:Nat)(hab:b<=a)(ha:(Ae a).length<1000000)(hb:(Ae b).length=m+2):AK C0 127 [wD a,wD b] (.tup [wD (a/b),wD (a%b)]):=by
 have hlen:=H6 b a hab;have cc:=Rc a b (by omega) (by omega);have e1:=Rb hab;obtain⟨y,hy⟩:=Cg (l:=Ae b) (i:=m+1) (by omega);have y0:=Tx b hb hy;have yl:y<BB:=Fr b y (Ay hy);obtain⟨s,hs,es,t1,t2⟩:=XG y0 yl;have cl:=gI y yl;rw[es]at cl;have hvl:=wQ hs hb hy t2;obtain⟨v,hv⟩:∃v,v=Ae (b*2^s):=⟨_,rfl⟩
 have wv:Wd v:=by rw[hv];exact Fr _
 have vv:AT v=b*2^s:=by rw[hv];exact FS _
 rw[<-hv]at hvl;obtain⟨v1,h1⟩:=Cg (l:=v) (i:=m+1) (by omega);obtain⟨v2,h2⟩:=Cg (l:=v) (i:=m) (by omega);have v10:v1≠0:=Tx (b*2^s) (by rw[<-hv];exact hvl) (by rw[<-hv];exact h1);have vpos:0<AT v:=by
  rw[vv];refine G7 ?_ (HU s);refine EP λh=>?_
  subst h;rw[GR]at hb;cases hb
 have va:=FS a;have vb:=FS b;have wa:=Fr a;have wb:=Fr b;have hup:=Jz a;have hbge:=Yj hb;refine AZ.walk w1 SB rfl λF=>?_
 unfold wD wL at cc⊢;change AC C0 F none F _ _ (SQ X1.tt _ (· = .tup [wD (a/b),wD (a%b)]));generalize Ae a=la at*;generalize Ae b=lb at*;obtain⟨lq,hlq⟩:∃lq,la.length=lq+(m+2):=⟨la.length-(m+2),by omega⟩
 have hy':=Dl hy;have e3:((((lb.map AS).length:Nat):Int)==1)=false:=by rw[Ag,hb];exact Br.2 (by omega)
 have elb:(((lb.map AS).length:Nat):Int)=((m+2:Nat):Int):=by rw[Ag,hb]
 have wlb0:IntKind.i64.wrap (((m+2:Nat):Int)-1)=((m+1:Nat):Int):=by rw[wI];omega
 have wlb:IntKind.i64.wrap ((((lb.map AS).length:Nat):Int)-1)=((m+1:Nat):Int):=by rw[elb];exact wlb0
 have ea:(((la.map AS).length:Nat):Int)=(la.length:Int):=by rw[Ag]
 have ev:(((v.map AS).length:Nat):Int)=((m+2:Nat):Int):=by rw[Ag,hvl]
 have wq1:IntKind.i64.wrap ((la.length:Int)-((m+2:Nat):Int))=(lq:Int):=by rw[wI];omega
 have wq2:IntKind.i64.wrap ((lq:Int)+1)=((lq+1:Nat):Int):=by rw[wI];omega
 have wq1':IntKind.i64.wrap ((la.length:Int)-((m+2:Nat):Int))=((lq+1:Nat):Int)-1:=by rw[wI];omega
 have wraw:IntKind.i64.wrap (IntKind.i64.wrap ((((la.map AS).length:Nat):Int)-((m+2:Nat):Int))+1)=((lq+1:Nat):Int):=by rw[ea,wq1,wq2]
 have r3:List.replicate (lq+1) (ofV (.int .u64 0))=(List.replicate (lq+1) 0).map AS:=by rw[Kf];rfl
 refine sR 0 ?_;refine AC.seq ?_;refine sR 100 ?_;refine cI cc ?_;rw[e1];refine AN ?_;refine Aj ?_;refine AC.seq ?_;refine sZ 300 ?_;refine AW e3 ?_;refine AN ?_;refine Aj ?_;refine sZ 1100 ?_;refine AD (BS wlb elb wlb0 kN) ?_;refine Bw kT hy' ?_;refine AD (BS wlb elb wlb0 kN) ?_;refine cI cl ?_;refine DE (α:=Nat) (λn=>⟨[(0,.sl false 1 (la.map AS)),(9,i64 s),(10,.sl false 1 (v.map AS))],[],n⟩) (λ_=>True) ?_ ?_
 ·refine rI 1200 ?_
  refine A7.prop [wL lb,i64 s] _ (Et.refl _) (m5 lb s hs wb (by omega)) AI ?_;rintro d ⟨out,o1,o2,o3,rfl⟩;have hvo:wD (AT out)=.sl false 1 (v.map AS):=by rw[o3,vb,hv];rfl
  refine BO ?_;refine A7.same _ (trim_ok out o2 (by omega)) AI ?_;refine BO ?_;simp only[hvo];exact⟨trivial,_,trivial,AL⟩
 rintro n0 -;clear cc e1 e3 elb wlb wlb0 hy' cl es t1 t2 yl y0 hy wb;refine sR 1300 ?_;refine A7.own _ (XV la s hs wa (by omega) [] _) ?_;rintro d H' n1 ⟨U,gu,u1,u2,u3,rfl,rfl,-⟩;rw[va]at u3;refine BO ?_;refine sZ 1400 ?_;refine AW ev ?_;refine DE (α:=Nat×Nat) (λp=>⟨[(0,.sl false 1 (la.map AS)),(9,i64 s),(10,.sl false 1 (v.map AS)),(11,.osl 103 gu 1 0 (la.length+1)),(12,i64 ((m+2:Nat):Int)),(13,.osl 1505 p.1 1 0 (lq+1))],[⟨1505,p.1,172,1,(List.replicate (lq+1) 0).map AS⟩,⟨103,gu,172,1,U.map AS⟩],p.2⟩) (λ_=>True) ?_ ?_
 ·refine Ao 1500 ?_
  refine AW (CI ea wq1 wq2 kN r3) ?_;exact⟨trivial,⟨n1+9,n1+20⟩,trivial,by rw[<-r3];exact AL⟩
 rintro⟨g,n2⟩ -;dsimp only;have I0:MJ (a*2^s) v U (List.replicate (lq+1) 0) (la.length+1) (lq+1) (lq+1):=by
  refine lV u3 vv u2 u1 rfl (Al _) ?_
  have:BB^(lq+1)*BB^(m+1)<=BB^(lq+1)*b:=Cr _ hbge
  rw[<-Ge,show lq+1+(m+1)=la.length by omega]at this;omega
 refine AC.seq ?_;refine sZ 1600 ?_;refine AW (Ab ea wq1') ?_;refine AC.block ?_;refine AC.loop (α:=Nat×List Nat×List Nat×Nat) (λp=>⟨[(9,i64 s),(10,.sl false 1 (v.map AS)),(11,.osl 103 gu 1 0 (la.length+1)),(12,i64 ((m+2:Nat):Int)),(13,.osl 1505 g 1 0 (lq+1)),(14,i64 ((p.1:Int)-1))],[⟨1505,g,172,1,p.2.2.1.map AS⟩,⟨103,gu,172,1,p.2.1.map AS⟩],p.2.2.2⟩) (λp=>p.1)
  (λp=>p.1<=lq+1/\MJ (a*2^s) v p.2.1 p.2.2.1 (la.length+1) (lq+1) p.1) (lq+1,U,List.replicate (lq+1) 0,_) ⟨Al _,I0⟩ AL ?_
 rintro⟨k,u,q,n3⟩ F ⟨hk,I⟩;dsimp only at hk I⊢;clear I0 wq1 wq2 wq1' wraw r3 ea;refine AC.seq ?_;refine sR 1700 ?_;refine AN ?_
 (refine B1 (λh20=>?_) (λh20=>?_))<;>(try simp only[Bl,Bz]at h20)<;>(try simp only[h20])
 ·obtain⟨j,rfl⟩:∃j,k=j+1:=⟨k-1,by
   have:(k:Int)-1>=0:=by simpa using h20
   omega⟩
  have wj:((j+1:Nat):Int)-1=(j:Int):=by omega
  obtain⟨p0,p1,p2,SI,hz,hP⟩:=oI I hvl wv v1 v2 h2 h1 (EP v10) (by omega);have hA:(u.take j).length=j:=by rw[Bi,I.lU];omega
  have cs:=λn=>rT (u.take j) ((u.drop j).take (m+3)) (u.drop (j+(m+3))) v m p0 p1 p2 v2 v1 SI (by rw[hA];omega) g 172 gu (q.map AS) n
  rw[hA,<-iG j (m+3)]at cs;obtain⟨z,hzq⟩:=Cg (l:=q) (i:=j) (by rw[I.lQ];omega);have hz':=Dl hzq;have hdl:AT ((u.drop j).take (m+3))/AT v<BB:=Fk SI.less;have wi:IntKind.i64.wrap ((j:Int)-1)=(j:Int)-1:=wI;have wjn1:IntKind.i64.wrap ((j:Int)+((m+2:Nat):Int))=((j+(m+2):Nat):Int):=by rw[wI];omega
  have wjn2:IntKind.i64.wrap (((j+(m+2):Nat):Int)+1)=((j+(m+3):Nat):Int):=by rw[wI];omega
  have wraw:IntKind.i64.wrap (IntKind.i64.wrap ((j:Int)+((m+2:Nat):Int))+1)=((j+(m+3):Nat):Int):=by rw[wjn1,wjn2]
  have els:j+(m+3)-j=m+3:=Lg _ _;have J:=λP' h1 h2 h3=>oH (P':=P') I vpos (by omega) (by omega) hz hP h1 h2 h3 hdl
  rw[wj];refine Aj ?_;refine AC.seq ?_;refine AC.block ?_;refine Ao 1900 ?_;refine AD (Ek wraw wjn1 wjn2 kN BZ els) ?_;refine A7.own _ (cs _) ?_;rintro d H' n4 ⟨P',g1,g2,g3,rfl,rfl⟩;rw[SI.lP]at g1;refine AD (Ar kN BZ hz') ?_;rw[map_set];refine Ao 1800 ?_;refine AW wi ?_;exact⟨(j,u.take j++(P'++u.drop (j+(m+3))),q.set j (AT ((u.drop j).take (m+3))/AT v),_),⟨by dsimp only;omega,J P' g1 g2 g3⟩,by dsimp only;omega,AL⟩
 ·have hk:k=0:=by
   have:¬((k:Int)-1>=0):=by simpa using h20
   omega
  subst hk;obtain⟨q1,q2⟩:=oG I vv;have D0:=kC I.wU q2 hs;have wu:=I.wU;have wqq:=I.wq;have lu:=I.lU;have lqq:=I.lQ;have hlt:AT u<BB^(m+2):=by
   have:=I.less
   rw[Fi]at this;have h:=IC wv;rw[show v.length=m+2 from hvl]at h;omega
  clear I;refine CK ?_;refine AC.seq ?_;refine sR 2000 ?_;refine AC.block ?_;refine AC.loop (α:=Nat×List Nat×Nat) (λp=>⟨[(9,i64 s),(11,.osl 103 gu 1 0 (la.length+1)),(12,i64 ((m+2:Nat):Int)),(13,.osl 1505 g 1 0 (lq+1)),(96,i64 ((m+2:Nat):Int)),(97,i64 p.1)],[⟨1505,g,172,1,q.map AS⟩,⟨103,gu,172,1,p.2.1.map AS⟩],p.2.2⟩) (λp=>m+2-p.1)
   (λp=>p.1<=m+2/\Oz u p.2.1 s p.1) (0,u,_) ⟨BU _,D0⟩ AL ?_
  rintro⟨i,x,n4⟩ F ⟨hi,I⟩;dsimp only at hi I⊢;have xl:=I.len;refine sR 2100 ?_;refine AC.seq ?_;refine AN ?_
  (refine B1 (λhlt2=>?_) (λhlt2=>?_))<;>(try simp only[Bl,Bz]at hlt2)<;>(try simp only[hlt2])
  ·have hi2:i<m+2:=by
    have:=DJ hlt2
    omega
   obtain⟨c,hc⟩:=Cg (l:=u) (i:=i) (by omega);obtain⟨d,hd⟩:=Cg (l:=u) (i:=i+1) (by omega);have hcx:x[i]?=some c:=by rw[I.rest i (Al _)];exact hc
   have hdx:x[i+1]?=some d:=by rw[I.rest (i+1) (by omega)];exact hd
   have hc':=Dl hcx;have hcl:=wu c (Ay hc);have hdl:=wu d (Ay hd);have I2:=l5 hs wu I hc hd;obtain⟨g1,g2,_⟩:=Xa (d:=d) hs hcl;have esh:=MT c s (by omega);have wi:IntKind.i64.wrap ((i:Int)+1)=((i+1:Nat):Int):=wI;refine Aj ?_;refine AC.seq ?_;refine AC.block ?_;refine sR 2200 ?_;refine sZ 2300 ?_;refine AD (BS kN BZ hc' esh) ?_;rw[map_set];have hxi:i<x.length:=by omega
   have h2c:((x.set i (c/2^s)).map AS)[i]?=some (AS (c/2^s)):=Dl (Wc hxi);have h2d:((x.set i (c/2^s)).map AS)[i+1]?=some (AS d):=Dl (by rw[I9 (by omega)];exact hdx);refine AC.seq ?_;rcases ED s with h0|h0
   ·have e24:decide ((s:Int)>0)=false:=Bc
    have es0:x.set i (c/2^s+d%2^s*2^(64-s))=x.set i (c/2^s):=by
     rw[h0,Mq,Nat.mod_one,HS,Dq]
    rw[es0]at I2;refine Ao 2400 ?_;refine AW e24 ?_;refine AD e24 ?_;refine AN ?_;refine Aj ?_;refine Ao 2600 ?_;refine AW wi ?_;exact⟨(i+1,x.set i (c/2^s),_),⟨hi2,I2⟩,by dsimp only;omega,AL⟩
   ·have e24:decide ((s:Int)>0)=true:=BV
    have e24':decide (((i+1:Nat):Int)<((la.length+1:Nat):Int))=true:=BV;have w64:IntKind.i64.wrap (64-(s:Int))=((64-s:Nat):Int):=by rw[wI];omega
    have w640:(0:Int)<=IntKind.i64.wrap (64-(s:Int)):=by rw[w64];omega
    have e27:=Pa d (64-s) (by omega);have e28:Hc .or .u64 ((c/2^s:Nat):Int) ((d*2^(64-s)%18446744073709551616:Nat):Int)=((c/2^s+d%2^s*2^(64-s):Nat):Int):=by
     rw[WT _ _ (DH (GJ _ _) hcl) (B7 _ (by decide)),g1]
    have hset:((x.set i (c/2^s)).map AS).set i (AS (c/2^s+d%2^s*2^(64-s)))=(x.set i (c/2^s+d%2^s*2^(64-s))).map AS:=by
     rw[map_set,List.set_set]
    refine Ao 2400 ?_;refine AW e24 ?_;refine AD (Ar e24 wi e24') ?_;refine AN ?_;refine CM 2500 [0,1,2,3,4,5,6,7,8,9,10,11] [12,13,14] ?_;refine AD (Ci wi w64 e27 e28 kN BZ (Ab h2c h2d)) ?_;refine ET rfl rfl ?_;refine NZ rfl rfl rfl h2c ?_;refine AD hset ?_;refine Ao 2600 ?_;refine AW wi ?_;exact⟨(i+1,x.set i (c/2^s+d%2^s*2^(64-s)),_),⟨hi2,I2⟩,by dsimp only;omega,AL⟩
  ·have hi2:i=m+2:=by
    have:=Db hlt2
    omega
   subst hi2;have hr:=lZ I (by omega) q2 hlt;have wx:=I.wd;refine CK ?_;refine AC.weak ⟨[(11,.sl false 1 (x.map AS)),(12,i64 ((m+2:Nat):Int)),(13,.sl false 1 (q.map AS))],[],_⟩ ⟨.drop (.drop .nil),⟨Zy (by omega),.refl _,Zy lqq,trivial⟩,Al _⟩ ?_;have e4:List.take (m+2-0) (List.drop 0 (x.map AS))=(x.take (m+2)).map AS:=by
    rw[QF];simp
   have e5:List.take (m+2) (x.map AS)=(x.take (m+2)).map AS:=by
    rw[QF]
   have ex:(x.map AS).length=la.length+1:=by rw[Ag];omega
   refine AC.seq ?_;refine CM 2700 [0,1,2,3,4] [5,6,7] ?_;refine BO ?_;refine Bb.same _ (trim_ok q wqq (by omega)) AI ?_;refine AD (BS kN Nat.sub_zero (@Fi D) e5) ?_;refine A7.same _ (trim_ok (x.take (m+2)) (wx.take _) (by rw[Bi];omega)) AI ?_;refine BO ?_;refine Ad ?_;exact AJ (by rw[q1,hr]) AA.out
theorem iH (a b:Nat)(hb:b≠0)(ha:(Ae a).length<1000000)(hbl:(Ae b).length<1000000):AK C0 127 [wD a,wD b] (.tup [wD (a/b),wD (a%b)]):=by
 rcases BA a b with h|h
 ·exact lX a b h ha hbl
 ·rcases hl:(Ae b).length with _|m
  ·have:=Jz b
   rw[hl]at this;simp at this;exact Af this hb
  ·rcases m with _|m
   ·exact oJ a b h ha hl hb
   ·exact lY a b m h ha hl
set_option maxHeartbeats 2000000
theorem PT {x:GI}(h:x.wf)(h0:x.z ≠ -9223372036854775808):x=AX x.z:=by
 obtain⟨z,sm⟩:=x;unfold AX
 congr 1
 cases sm with
 |true=>
  have:=h.1 rfl
  dsimp only at this h0⊢;exact(Au (show Sm z from⟨by omega,by omega⟩)).symm
 |false=>
  have:=h.2 rfl
  exact(Av this).symm
theorem EA (z:Int):(AX z).z=z:=rfl
def EK (x y:GI):GI×GI:=
 if x.sm=true/\y.sm=true/\x.z ≠ -9223372036854775808 then(⟨x.z/y.z,true⟩,⟨x.z%y.z,true⟩)
 else if x.z.tmod y.z<0 then(I6 (AX (x.z.tdiv y.z)) ⟨1,true⟩,EZ (AX (x.z.tmod y.z)) y)else(AX (x.z.tdiv y.z),AX (x.z.tmod y.z))
theorem kr (a b:Int)(hb:0<b):(a.tmod b<0->a.tdiv b-1=a/b/\a.tmod b+b=a%b)/\(¬a.tmod b<0->a.tdiv b=a/b/\a.tmod b=a%b):=by
 have e1:=Int.tdiv_eq_ediv (a:=a) (b:=b);have e2:=Int.tmod_add_mul_tdiv a b;have e3:=Int.emod_add_mul_ediv a b;have e4:=Int.emod_nonneg a (show b≠0 by omega);have e5:=Int.emod_lt_of_pos a hb;have hsg:b.sign=1:=Int.sign_eq_one_of_pos hb;rw[hsg]at e1;split at e1
 ·rw[Int.add_zero]at e1
  rw[e1]at e2;constructor
  ·intro h;omega
  ·intro _;exact⟨e1,by omega⟩
 ·rename_i hc
  have hd:¬b ∣ a:=λh=>hc (Or.inr h)
  have hr:a%b≠0:=λh=>hd (Int.dvd_of_emod_eq_zero h)
  have e6:b*(a/b+1)=b*(a/b)+b:=by rw[Int.mul_add,Int.mul_one]
  rw[e1,e6]at e2;constructor
  ·intro _;exact⟨by omega,by omega⟩
  ·intro h;omega
theorem ak {x y:GI}(hy:0<y.z):(EK x y).1.z=x.z/y.z/\(EK x y).2.z=x.z%y.z:=by
 obtain⟨f1,f2⟩:=kr x.z y.z hy;unfold EK;split
 ·exact⟨rfl,rfl⟩
 ·split
  ·rename_i h
   rw[dU,NO];exact f1 h
  ·rename_i h
   exact f2 h
theorem Zm {x y:GI}(hx:x.wf)(hy:y.wf)(h0:0<y.z):(EK x y).1.wf/\(EK x y).2.wf:=by
 unfold EK;split
 ·rename_i h
  have hx1:=hx.1 h.1;have hy1:=hy.1 h.2.1;obtain⟨_,_,h3⟩:=h;have hm:=Int.emod_lt_of_pos x.z h0;have hm2:=Int.emod_nonneg x.z (show y.z≠0 by omega);refine⟨⟨λ_=>?_,λh=>by cases h⟩,⟨λ_=>⟨by dsimp only;omega,by dsimp only;omega⟩,λh=>by cases h⟩⟩;dsimp only;have e3:=Int.emod_add_mul_ediv x.z y.z;constructor
  ·rcases Int.lt_or_le (x.z/y.z) (-9223372036854775808)with h|h
   ·exfalso
    have h8:y.z*(x.z/y.z+1)<=1*(x.z/y.z+1):=Int.mul_le_mul_of_nonpos_right (by omega) (by omega);rw[Int.mul_add,Int.mul_one]at h8;omega
   ·exact h
  ·rcases Int.lt_or_le (x.z/y.z) 9223372036854775808 with h|h
   ·exact h
   ·exfalso
    have h5:(1:Int)*(x.z/y.z)<=y.z*(x.z/y.z):=Int.mul_le_mul_of_nonneg_right (by omega) (by omega);omega
 ·split
  ·exact⟨aT _ _,NC _ _⟩
  ·exact⟨Cv _,Cv _⟩
theorem mX (a b:Int)(hb:0<b):EL (decide (a<0)) (a.natAbs/b.natAbs)=a.tdiv b/\EL (decide (a<0)) (a.natAbs%b.natAbs)=a.tmod b:=by
 obtain⟨n,rfl⟩:∃n:Nat,b=n:=⟨b.natAbs,by omega⟩
 rw[D7]
 by_cases h:a<0
 ·obtain⟨m,rfl⟩:∃m:Nat,a = -(m:Int):=⟨a.natAbs,by omega⟩
  rw[Au h,Mp,D7,Int.neg_tdiv,Int.neg_tmod];exact⟨rfl,rfl⟩
 ·obtain⟨m,rfl⟩:∃m:Nat,a=(m:Int):=⟨a.natAbs,by omega⟩
  rw[Av h,D7];exact⟨rfl,rfl⟩
theorem kA (x y:GI)(hx:x.wf)(hy:y.wf)(h0:0<y.z)(fx:x.few)(fy:y.few)(hn:¬(x.sm=true/\y.sm=true/\x.z ≠ -9223372036854775808)):
  AK C0 210 [x.D,y.D] (.tup [(EK x y).1.D,(EK x y).2.D]):=by
 unfold EK;rw[AG hn];refine AZ.walk w1 VF rfl λF=>?_
 have cx:=J4 x hx;have cy:=J4 y hy;have cd:=iH x.z.natAbs y.z.natAbs (by omega) fx fy;obtain⟨t1,t2⟩:=mX x.z y.z h0;have lq:(Ae (x.z.natAbs/y.z.natAbs)).length<1000000:=DH (H6 _ _ (GJ _ _)) fx;have lr:(Ae (x.z.natAbs%y.z.natAbs)).length<1000000:=DH (H6 _ _ (Nat.mod_le _ _)) fx;have c1:=ME (decide (x.z<0)) (x.z.natAbs/y.z.natAbs) (Gf lq (by decide));have c2:=ME (decide (x.z<0)) (x.z.natAbs%y.z.natAbs) (Gf lr (by decide));rw[t1]at c1;rw[t2]at c2;have fq:(AX (x.z.tdiv y.z)).few:=by
  show(Ae (x.z.tdiv y.z).natAbs).length<1000000;rw[Int.natAbs_tdiv];exact lq
 have fr:(AX (x.z.tmod y.z)).few:=by
  show(Ae (x.z.tmod y.z).natAbs).length<1000000;rw[Int.natAbs_tmod];exact lr
 have f1:(⟨1,true⟩:GI).few:=by show(Ae 1).length<1000000;rw[M2 (by decide) (by decide)];decide
 have cg:=NV (AX (x.z.tmod y.z)) (Cv _);have cs:=gj (AX (x.z.tdiv y.z)) ⟨1,true⟩ (Cv _) ⟨λ_=>⟨by decide,by decide⟩,λh=>by cases h⟩ fq f1;have ca:=PS (AX (x.z.tmod y.z)) y (Cv _) hy fr fy;rw[EA]at cg;have co:AK C0 82 [i64 1] (⟨1,true⟩:GI).D:=CV Dv 1000 40;have hpx:AA x.w:=AI;have hpy:AA y.w:=AI;have hpq:AA (AX (x.z.tdiv y.z)).w:=AI;have hpr:AA (AX (x.z.tmod y.z)).w:=AI;have hps:AA (I6 (AX (x.z.tdiv y.z)) ⟨1,true⟩).w:=AI;have hpa:AA (EZ (AX (x.z.tmod y.z)) y).w:=AI;have hp1:AA (⟨1,true⟩:GI).w:=AI;clear t1 t2 lq lr fq fr f1;dsimp only[GI.D]at*;refine fR 0 ?_;refine D6 ⟨[(2,.optr 0 0 2 0 0),(3,.optr 1 1 2 0 0),(4,.optr 2 2 2 0 0),(5,.optr 3 3 2 0 0)],[⟨3,3,81,2,[DL 0]⟩,⟨2,2,81,2,[DL 0]⟩,⟨1,1,81,2,[.agg [i64 y.s,y.w]]⟩,⟨0,0,81,2,[.agg [i64 x.s,x.w]]⟩],90⟩ ?_ ?_
 ·obtain⟨a,sa⟩:=x
  obtain⟨b,sb⟩:=y;clear cx cy cd c1 c2 cg cs ca co hpq hpr hps hpa hp1;have nx:sa=false->(Ae a.natAbs).map AS≠[]:=λh=>ID (by
   intro h0;subst h;exact hx.2 rfl ⟨by dsimp only;omega,by dsimp only;omega⟩)
  have ny:sb=false->(Ae b.natAbs).map AS≠[]:=λh=>ID (by
   intro h0;subst h;exact hy.2 rfl ⟨by dsimp only;omega,by dsimp only;omega⟩)
  unfold GI.s GI.w wD wL at*;dsimp only at*;generalize(Ae a.natAbs).map AS=ka at*;generalize(Ae b.natAbs).map AS=kb at*;cases sa with
  |false=>
   have nx:=nx rfl;dsimp only at*;generalize(if a<0 then(-1:Int)else 1)=sg at*;generalize(match sb with|true=>b|false=>if b<0 then(-1:Int)else 1)=sh at*;generalize(match sb with|true=>CS|false=>D.sl false 1 kb)=wy at*;refine AC.seq ?_;refine Ao 100 ?_;refine AW (Ar (@ne_eq (List D)) nx Es) ?_;refine AD kT ?_;refine AD kT ?_;refine AD kT ?_;refine AN ?_;refine Aj ?_;exact BK (by trivial) (AL)
  |true=>
   dsimp only at*;cases sb with
   |false=>
    have ny:=ny rfl;dsimp only at*;generalize(if b<0 then(-1:Int)else 1)=sh at*;refine AC.seq ?_;refine Ao 100 ?_;refine AW (Ar (@ne_eq (List D)) ny Es) ?_;refine AD (BS kT (@ne_eq (List D)) ny Es) ?_;refine AD (BS kT (@ne_eq (List D)) ny Es) ?_;refine AD (BS kT (@ne_eq (List D)) ny Es) ?_;refine AN ?_;refine Aj ?_;exact BK (by trivial) (AL)
   |true=>
    have ha:a = -9223372036854775808:=DB λh=>hn ⟨rfl,rfl,h⟩
    subst ha;dsimp only at*;refine sZ 100 ?_
    repeat'(first|(refine BK (by exact CF) ?_;refine BJ ?_)|((refine B1 (λhb=>?_) (λhb=>?_))<;>(try simp only[Bl,Bz]at hb)<;>(try simp only[hb])<;>(refine BJ ?_)))
    refine AN ?_;refine Aj ?_;exact BK (by trivial) (AL)
 ·refine fR 600 ?_
  refine dI cx ?_;refine fR 700 ?_;refine dI cy ?_;refine fR 800 ?_;refine dI cd ?_;refine fR 900 ?_;refine dI c1 ?_;refine dI c2 ?_;refine AC.seq ?_;refine fR 1000 ?_;refine dI cg ?_
  by_cases h:x.z.tmod y.z<0
  ·have e:decide (max (-1) (min 1 (x.z.tmod y.z))<0)=true:=BV
   rw[AH h,e];refine AN ?_;refine CM 1100 [0,1,2,3,4] [5,6,7] ?_;refine CL ?_;refine Bb.same _ (co) AI ?_;refine CL ?_;refine Bb.same _ (cs) AI ?_;refine CL ?_;refine dI ca ?_;refine AC.seq ?_;refine Pz w1 1200 [0,1,2] [3] 2 [0] (2) (by kernel_rfl) (by kernel_rfl) ?_;refine CL ?_;refine CL ?_;refine Ad ?_;exact AJ rfl AA.out
  ·have e:decide (max (-1) (min 1 (x.z.tmod y.z))<0)=false:=Bc
   rw[AG h,e];refine AN ?_;refine Aj ?_;refine AC.seq ?_;refine Pz w1 1200 [0,1,2] [3] 2 [0] (2) (by kernel_rfl) (by kernel_rfl) ?_;refine CL ?_;refine CL ?_;refine Ad ?_;exact AJ rfl AA.out
theorem Y3 (x y:GI)(hx:x.wf)(hy:y.wf)(h0:0<y.z)(fx:x.few)(fy:y.few):AK C0 210 [x.D,y.D] (.tup [(EK x y).1.D,(EK x y).2.D]):=by
 by_cases h:x.sm=true/\y.sm=true/\x.z ≠ -9223372036854775808
 ·unfold EK
  rw[AH h];obtain⟨a,sa⟩:=x;obtain⟨b,sb⟩:=y;obtain⟨h1,h2,h3⟩:=h;dsimp only at h1 h2 h3 h0;subst h1;subst h2;have ra:=hx.1 rfl;have rb:=hy.1 rfl;dsimp only at ra rb;exact lW a b h0 ⟨by omega,by omega⟩ ⟨by omega,by omega⟩
 ·exact kA x y hx hy h0 fx fy h
theorem iB (x y:GI)(hx:x.wf)(hy:y.wf)(h0:0<y.z)(fx:x.few)(fy:y.few):AK C0 160 [x.D,y.D] (EK x y).1.D:=by
 refine AZ.walk w1 bC rfl λF=>?_
 have cg:=NV y hy;have cd:=Y3 x y hx hy h0 fx fy;have e1:decide (max (-1) (min 1 y.z)<0)=false:=Bc;have hpx:AA x.w:=AI;have hpy:AA y.w:=AI;have hpq:AA (EK x y).1.w:=AI;have hpr:AA (EK x y).2.w:=AI;dsimp only[GI.D]at*;generalize(EK x y).1.s=qs at*;generalize(EK x y).1.w=qw at*;generalize(EK x y).2.s=rs at*;generalize(EK x y).2.w=rw at*;refine fR 0 ?_;refine AC.seq ?_;refine fR 100 ?_;refine dI cg ?_;rw[e1];refine AN ?_;refine Aj ?_;refine fR 300 ?_;refine dI cd ?_;refine fR 400 ?_;refine Ad ?_;exact AJ rfl AA.out
theorem ZV (x:GI)(h:x.wf):Mf x=AX (x.z.natAbs:Nat):=by
 have h1:=pZ x h;have h2:=sI x;rw[PT h1 (by omega),h2]
theorem Ik {n:Nat}(h:(Ae n).length<1000000):(AX (n:Int)).few:=by
 show(Ae (n:Int).natAbs).length<1000000;rw[D7];exact h
theorem Y2 {a b:Nat}(hb:0<b):EK (AX a) (AX b)=(AX ((a/b:Nat):Int),AX ((a%b:Nat):Int)):=by
 have hb':(0:Int)<(AX (b:Int)).z:=by show(0:Int)<(b:Int);omega
 obtain⟨h1,h2⟩:=Zm (Cv a) (Cv b) hb';obtain⟨h3,h4⟩:=ak (x:=AX a) hb';have e3:(EK (AX a) (AX b)).1.z=((a/b:Nat):Int):=by rw[h3];exact(Int.natCast_ediv a b).symm
 have e4:(EK (AX a) (AX b)).2.z=((a%b:Nat):Int):=by rw[h4];exact(Int.natCast_emod a b).symm
 have c3:=PT h1 (by rw[e3];generalize a/b=q;omega);have c4:=PT h2 (by rw[e4];generalize a%b=q;omega);rw[e3]at c3;rw[e4]at c4;generalize EK (AX a) (AX b)=p at*;obtain⟨p1,p2⟩:=p;dsimp only at c3 c4;rw[c3,c4]
theorem gh (x y:GI)(hx:x.wf)(hy:y.wf)(fx:x.few)(fy:y.few):AK C0 159 [x.D,y.D] (AX (Nat.gcd x.z.natAbs y.z.natAbs:Nat)).D:=by
 refine AZ.walk w1 bB rfl λF=>?_
 have c1:=fG x hx fx;have c2:=fG y hy fy;rw[ZV x hx]at c1;rw[ZV y hy]at c2;have hpx:AA x.w:=AI;have hpy:AA y.w:=AI;have hpm:∀n:Nat,AA (AX (n:Int)).w:=λn=>AI
 unfold GI.few at fx fy;generalize x.z.natAbs=a at*;generalize y.z.natAbs=b at*;dsimp only[GI.D]at*;refine fR 0 ?_;refine AC.seq ?_;refine CM 100 [0,1,2] [3,4,5] ?_;refine CL ?_;refine Bb.same _ (c1) AI ?_;refine CL ?_;refine dI c2 ?_;refine AC.seq ?_;refine AC.block ?_;refine AC.loop (α:=Nat×Nat×Nat) (λp=>⟨[(2,.optr 0 0 2 0 0),(3,.optr 1 1 2 0 0),(4,.optr 2 2 2 0 0)],[⟨2,2,81,2,[DL 0]⟩,⟨1,1,81,2,[.agg [i64 (AX (p.2.1:Int)).s,(AX (p.2.1:Int)).w]]⟩,⟨0,0,81,2,[.agg [i64 (AX (p.1:Int)).s,(AX (p.1:Int)).w]]⟩],p.2.2⟩) (λp=>p.2.1)
  (λp=>Nat.gcd p.1 p.2.1=Nat.gcd a b/\(Ae p.1).length<1000000/\(Ae p.2.1).length<1000000) (a,b,_) ⟨rfl,fx,fy⟩ AL ?_
 rintro⟨u,v,n⟩ F ⟨g1,g2,g3⟩;dsimp only at g1 g2 g3⊢;have cg:=NV (AX (v:Int)) (Cv _);rw[EA]at cg;dsimp only[GI.D]at cg;refine AC.seq ?_;refine fR 200 ?_;refine dI cg ?_;rcases ED v with hv|hv
 ·subst hv
  have e2:(max (-1) (min 1 ((0:Nat):Int)) != 0)=false:=by decide
  rw[e2];refine AN ?_;refine CK ?_;refine fR 500 ?_;refine Ad ?_;refine AJ ?_ AA.out;rw[<-g1,Nat.gcd_zero_right]
 ·have e2:(max (-1) (min 1 (v:Int)) != 0)=true:=by
   have:max (-1) (min 1 (v:Int))=1:=by omega
   rw[this];rfl
  have cd:=Y3 (AX (u:Int)) (AX (v:Int)) (Cv _) (Cv _) (by show(0:Int)<(v:Int);omega) (Ik g2) (Ik g3);rw[Y2 hv]at cd;dsimp only[GI.D]at cd;rw[e2];refine AN ?_;refine Aj ?_;refine AC.block ?_;refine fR 300 ?_;refine dI cd ?_;refine Pz w1 400 [0,1,2] [3] 2 [0] (0) (by kernel_rfl) (by kernel_rfl) ?_;refine CL ?_;refine CL ?_;have hm:u%v<v:=B7 u hv;refine⟨(v,u%v,_),⟨?_,g3,DH (H6 _ _ (Nat.mod_le _ _)) g2⟩,hm,AL⟩;rw[<-g1,OE u v,Nat.gcd_rec v u,OE]
structure GF where
 n:GI
 d:Nat
abbrev GF.D (x:GF):D:=.agg [i64 x.n.s,x.n.w,i64 (AX (x.d:Int)).s,(AX (x.d:Int)).w]
def Ib (r:Rat)(x:GF):Prop:=x.n.wf/\x.n.z=r.num/\x.d=r.den
theorem pV {a b:Nat}(hb:0<b)(h:(Ae b).length<1000000):(Ae (Nat.gcd a b)).length<1000000:=DH (H6 _ _ (Nat.gcd_le_right _ hb)) h
def Iu (x:GI)(d:Nat):GF:=if d=1 then⟨x,1⟩else⟨(EK x (AX (Nat.gcd x.z.natAbs d:Nat))).1,d/Nat.gcd x.z.natAbs d⟩
theorem RC (x:GI)(d:Nat)(hx:x.wf)(hd:0<d):Ib (mkRat x.z d) (Iu x d):=by
 have hg:0<Nat.gcd x.z.natAbs d:=P2 _ hd;have e:mkRat x.z d=Rat.normalize x.z d (by omega):=(Rat.normalize_eq_mkRat _).symm;rw[e,Rat.normalize_eq];unfold Iu;split
 ·rename_i h
  subst h;refine⟨hx,?_,?_⟩
  ·dsimp only;rw[Nat.gcd_one_right];simp
  ·dsimp only;rw[Nat.gcd_one_right]
 ·have hg':(0:Int)<(AX (Nat.gcd x.z.natAbs d:Nat)).z:=by show(0:Int)<(Nat.gcd x.z.natAbs d:Nat);omega
  exact⟨(Zm hx (Cv _) hg').1,(ak hg').1,rfl⟩
theorem VO:AX ((1:Nat):Int)=⟨1,true⟩:=KH ⟨by decide,by decide⟩
theorem Sq {d:Nat}(h:Sm (d:Int)):(AX (d:Int)).s=(d:Int)/\(AX (d:Int)).w=CS:=by rw[KH h];exact⟨rfl,rfl⟩
theorem WQ {d:Nat}(h:¬Sm (d:Int)):(AX (d:Int)).s=1/\(AX (d:Int)).w=.sl false 1 ((Ae d).map AS)/\(Ae d).map AS≠[]:=by
 rw[VN h];refine⟨?_,rfl,ID ?_⟩
 ·show(if(d:Int)<0 then(-1:Int)else 1)=1
  rw[CR]
 ·intro h0
  subst h0;exact h ⟨by decide,by decide⟩
def LM (x y:GI):GF:=Iu (if y.z<0 then AX (-x.z)else x) y.z.natAbs
theorem na (x y:GI)(hx:x.wf)(h0:y.z≠0):Ib (Rat.divInt x.z y.z) (LM x y):=by
 unfold LM
 by_cases h:y.z<0
 ·rw[AH h]
  have:=RC (AX (-x.z)) y.z.natAbs (Cv _) (by omega)
  rw[EA]at this;have e:mkRat (-x.z) y.z.natAbs=Rat.divInt x.z y.z:=by
   obtain⟨k,hk⟩:∃k,y.z=Int.negSucc k:=by
    cases hy:y.z with
    |ofNat n=>rw[hy]at h;simp at h;omega
    |negSucc k=>exact⟨k,rfl⟩
   rw[hk];show mkRat (-x.z) (k+1)=_;exact(Rat.normalize_eq_mkRat (by omega)).symm
  rw[e]at this;exact this
 ·rw[AG h]
  have:=RC x y.z.natAbs hx (by omega)
  have e:mkRat x.z y.z.natAbs=Rat.divInt x.z y.z:=by
   rw[<-Rat.divInt_ofNat];congr 1;omega
  rw[e]at this;exact this
theorem eC (x y:GI)(hx:x.wf)(hy:y.wf)(h0:y.z≠0)(fx:x.few)(fy:y.few):AK C0 120 [x.D,y.D] (LM x y).D:=by
 refine AZ.walk w1 bq rfl λF=>?_
 have cg:=NV y hy;have cn1:=Pb x hx fx;have cn2:=Pb y hy fy;obtain⟨x',hx'⟩:∃x',x'=if y.z<0 then AX (-x.z)else x:=⟨_,rfl⟩
 have wx':x'.wf:=by rw[hx'];split;exact Cv _;exact hx
 have fx':x'.few:=by rw[hx'];split;exact Zd fx;exact fx
 have hd:0<y.z.natAbs:=by omega
 have fd:(Ae y.z.natAbs).length<1000000:=fy;have fdg:=Ik fd;have ey:y.z<0->AX (-y.z)=AX (y.z.natAbs:Int):=λh=>by congr 1;omega
 have ey':¬y.z<0->y=AX (y.z.natAbs:Int):=λh=>by
  rw[PT hy (by omega)];show AX y.z=AX (y.z.natAbs:Int)
  congr 1;omega
 unfold LM;rw[<-hx'];generalize hdd:y.z.natAbs=d at*;have hpx:AA x.w:=AI;have hpy:AA y.w:=AI;have hpx':AA x'.w:=AI;have hpd:AA (AX (d:Int)).w:=AI;have hg:0<Nat.gcd x'.z.natAbs d:=P2 _ hd;have cc:=gh x' (AX (d:Int)) wx' (Cv _) fx' fdg;rw[EA,D7]at cc;have fgg:(AX (Nat.gcd x'.z.natAbs d:Nat)).few:=Ik (pV hd fd);have cq1:=iB x' (AX (Nat.gcd x'.z.natAbs d:Nat)) wx' (Cv _) (by show(0:Int)<(Nat.gcd x'.z.natAbs d:Nat);omega) fx' fgg;have cq2:=iB (AX (d:Int)) (AX (Nat.gcd x'.z.natAbs d:Nat)) (Cv _) (Cv _) (by show(0:Int)<(Nat.gcd x'.z.natAbs d:Nat);omega) fdg fgg;rw[Y2 hg]at cq2;have hpg:AA (AX ((Nat.gcd x'.z.natAbs d:Nat):Int)).w:=AI;have hpq1:AA (EK x' (AX (Nat.gcd x'.z.natAbs d:Nat))).1.w:=AI;have hpq2:AA (AX ((d/Nat.gcd x'.z.natAbs d:Nat):Int)).w:=AI;unfold Iu GF.D;dsimp only[GI.D]at*;refine fR 0 ?_;refine D6 ⟨[(2,.optr 0 0 2 0 0),(3,.optr 1 1 2 0 0),(4,.optr 2 2 4 0 0)],[⟨2,2,83,4,[.agg [i64 0,CS,i64 0,CS]]⟩,⟨1,1,81,2,[.agg [i64 (AX (d:Int)).s,(AX (d:Int)).w]]⟩,⟨0,0,81,2,[.agg [i64 x'.s,x'.w]]⟩],90⟩ ?_ ?_
 ·by_cases h:y.z<0
  ·have e1:decide (max (-1) (min 1 y.z)<0)=true:=BV
   rw[AH h]at hx';subst hx';rw[<-ey h];refine fR 100 ?_;refine dI cg ?_;rw[e1];refine AN ?_;refine CM 200 [0,1,2] [3,4,5] ?_;refine CL ?_;refine Bb.same _ (cn1) AI ?_;refine CL ?_;refine dI cn2 ?_;exact⟨rfl,AL⟩
  ·have e1:decide (max (-1) (min 1 y.z)<0)=false:=Bc
   rw[AG h]at hx';subst hx';have ey:=ey' h;refine fR 100 ?_;refine dI cg ?_;rw[e1];refine AN ?_;refine Aj ?_;rw[<-ey];exact⟨rfl,AL⟩
 by_cases h1:d=1
 ·subst h1
  rw[AH rfl,VO];refine AC.seq ?_;refine sZ 300 ?_
  repeat'(first|(refine BK (by exact CF) ?_;refine BJ ?_)|((refine B1 (λhb=>?_) (λhb=>?_))<;>(try simp only[Bl,Bz]at hb)<;>(try simp only[hb])<;>(refine BJ ?_)))
  refine AN ?_;refine fR 400 ?_;refine Ad ?_;exact AJ rfl AA.out
 ·rw[AG h1]
  refine D6 ⟨[(2,.optr 0 0 2 0 0),(3,.optr 1 1 2 0 0),(4,.optr 2 2 4 0 0)],[⟨2,2,83,4,[.agg [i64 0,CS,i64 0,CS]]⟩,⟨1,1,81,2,[.agg [i64 (AX (d:Int)).s,(AX (d:Int)).w]]⟩,⟨0,0,81,2,[.agg [i64 x'.s,x'.w]]⟩],98⟩ ?_ ?_
  ·by_cases hs:Sm (d:Int)
   ·obtain⟨a1,a2⟩:=Sq hs
    rw[a1,a2];have e2:((d:Int)==1)=false:=Br.2 (by omega);refine sZ 300 ?_
    repeat'(first|(refine BK (by exact CF) ?_;refine BJ ?_)|((refine B1 (λhb=>?_) (λhb=>?_))<;>(try simp only[Bl,Bz]at hb)<;>(try simp only[hb])<;>(refine BJ ?_)))
    try simp only[e2]
    refine AN ?_;refine Aj ?_;exact⟨rfl,⟨Hb _,⟨.refl _,.refl _,.refl _,trivial⟩,Al _⟩⟩
   ·obtain⟨a1,a2,a3⟩:=WQ hs
    rw[a1,a2];generalize(Ae d).map AS=l at*;refine AC.seq ?_;refine Ao 300 ?_;refine AW (Ar (@ne_eq (List D)) a3 Es) ?_;refine AD kT ?_;refine AN ?_;refine Aj ?_;exact⟨rfl,⟨Hb _,⟨.refl _,.refl _,.refl _,trivial⟩,Al _⟩⟩
  ·refine fR 500 ?_
   refine dI cc ?_;refine AC.seq ?_;refine CM 600 [0,1,2,3,4] [5,6,7] ?_;refine CL ?_;refine Bb.same _ (cq1) AI ?_;refine CL ?_;refine dI cq2 ?_;refine Ad ?_;exact AJ rfl AA.out
def rk (r:Rat)(k:Nat):Prop:=(Ae r.num.natAbs).length<=k/\(Ae r.den).length<=k
theorem rk.mono {r:Rat}{k l:Nat}(h:rk r k)(hl:k<=l):rk r l:=⟨BT h.1 hl,BT h.2 hl⟩
theorem RX {n:Int}{d k:Nat}(hd:d≠0)(h1:(Ae n.natAbs).length<=k)(h2:(Ae d).length<=k):rk (Rat.normalize n d hd) k:=by
 rw[Rat.normalize_eq];exact⟨BT (H6 _ _ (Int.natAbs_ediv_le_natAbs _ _)) h1,BT (H6 _ _ (GJ _ _)) h2⟩
theorem Kx (a b:Int):(Ae (a*b).natAbs).length<=(Ae a.natAbs).length+(Ae b.natAbs).length:=by
 rw[KZ];exact L1 _ _
theorem Xn (a b:Int):(Ae (a+b).natAbs).length<=max (Ae a.natAbs).length (Ae b.natAbs).length+1:=
 BT (H6 _ _ (Int.natAbs_add_le a b)) (X6 _ _)
theorem VW {a b:Rat}{i j:Nat}(ha:rk a i)(hb:rk b j):rk (a+b) (i+j+1):=by
 rw[Rat.add_def];have h1:=Kx a.num b.den;have h2:=Kx b.num a.den;have h3:=Xn (a.num*b.den) (b.num*a.den);have h4:=L1 a.den b.den;rw[D7]at h1 h2;obtain⟨a1,a2⟩:=ha;obtain⟨b1,b2⟩:=hb;exact RX _ (by omega) (by omega)
theorem dG {a b:Rat}{i j:Nat}(ha:rk a i)(hb:rk b j):rk (a*b) (i+j):=by
 rw[Rat.mul_def];have h1:=Kx a.num b.num;have h4:=L1 a.den b.den;obtain⟨a1,a2⟩:=ha;obtain⟨b1,b2⟩:=hb;exact RX _ (by omega) (by omega)
structure FR (r:Rat)(x:GF)(k:Nat):Prop where
 is:Ib r x
 rk:rk r k
theorem FR.fn {r:Rat}{x:GF}{k:Nat}(h:FR r x k)(hk:k<1000000):x.n.few:=by
 show(Ae x.n.z.natAbs).length<1000000;rw[h.is.2.1];have:=h.rk.1;omega
theorem FR.ln {r:Rat}{x:GF}{k:Nat}(h:FR r x k):(Ae x.n.z.natAbs).length<=k:=by rw[h.is.2.1];exact h.rk.1
theorem FR.ld {r:Rat}{x:GF}{k:Nat}(h:FR r x k):(Ae x.d).length<=k:=by rw[h.is.2.2];exact h.rk.2
theorem FR.dpos {r:Rat}{x:GF}{k:Nat}(h:FR r x k):0<x.d:=by rw[h.is.2.2];exact r.den_pos
theorem Pq (x:GI)(d:Nat)(hx:x.wf)(fx:(Ae x.z.natAbs).length<400000)(fd:(Ae d).length<400000):AK C0 121 [x.D,(AX (d:Int)).D] (AX (x.z*d)).D:=by
 have:=gL x (AX (d:Int)) hx (Cv _) fx (by rw[EA,D7];exact fd)
 rwa [EA]at this
theorem WS (c d:Nat)(fc:(Ae c).length<400000)(fd:(Ae d).length<400000):AK C0 121 [(AX (c:Int)).D,(AX (d:Int)).D] (AX ((c*d:Nat):Int)).D:=by
 have:=Pq (AX (c:Int)) d (Cv _) (by rw[EA,D7];exact fc) fd
 rw[EA,<-E7]at this;exact this
theorem Yr (x:GI)(d:Nat)(hx:x.wf)(hd:0<d)(fx:x.few)(fd:(Ae d).length<1000000):AK C0 120 [x.D,(AX (d:Int)).D] (Iu x d).D:=by
 have:=eC x (AX (d:Int)) hx (Cv _) (by rw[EA];omega) fx (Ik fd)
 unfold LM at this;rw[EA,CR,D7]at this;exact this
theorem Tw (x:GF)(hd:0<x.d):AK C0 84 [x.D] (Ai (decide (x.d=1))):=by
 refine AZ.walk w1 gY rfl λF=>?_
 obtain⟨y,d⟩:=x;dsimp only[GF.D]at hd⊢;have hpy:AA y.w:=AI;generalize y.s=ys at*;generalize y.w=yw at*
 by_cases hs:Sm (d:Int)
 ·obtain⟨a1,a2⟩:=Sq hs
  rw[a1,a2];have e2:((d:Int)==1)=decide (d=1):=by
   rw[F7,EQ,decide_eq_true_iff];omega
  refine fR 0 ?_;refine sZ 100 ?_
  repeat'(first|(refine BK (by exact CF) ?_;refine BJ ?_)|((refine B1 (λhb=>?_) (λhb=>?_))<;>(try simp only[Bl,Bz]at hb)<;>(try simp only[hb])<;>(refine BJ ?_)))
  try simp only[e2]
  refine Ad ?_;exact AJ rfl AA.out
 ·obtain⟨a1,a2,a3⟩:=WQ hs
  rw[a1,a2];have e2:decide (d=1)=false:=Av λh=>hs (by rw[h];exact⟨by decide,by decide⟩)
  rw[e2];generalize(Ae d).map AS=l at*;refine fR 0 ?_;refine AC.seq ?_;refine Ao 100 ?_;refine AW (Ar (@ne_eq (List D)) a3 Es) ?_;refine AD kT ?_;refine Ad ?_;exact AJ rfl AA.out
def KR (x y:GF):GF:=if x.d=1/\y.d=1 then⟨EZ x.n y.n,1⟩else Iu (EZ (AX (x.n.z*y.d)) (AX (y.n.z*x.d))) (x.d*y.d)
theorem p9 {a b:Rat}{x y:GF}(hx:Ib a x)(hy:Ib b y):Ib (a+b) (KR x y):=by
 obtain⟨x1,x2,x3⟩:=hx;obtain⟨y1,y2,y3⟩:=hy;rw[Rat.add_def,Rat.normalize_eq_mkRat,<-x2,<-x3,<-y2,<-y3];unfold KR;split
 ·rename_i h
  rw[h.1,h.2];refine⟨NC _ _,?_,?_⟩
  ·dsimp only
   rw[NO];show _=(mkRat (x.n.z*1+y.n.z*1) 1).num;rw[Int.mul_one,Int.mul_one,Rat.mkRat_one,Rat.num_intCast]
  ·dsimp only
   show _=(mkRat (x.n.z*1+y.n.z*1) 1).den;rw[Rat.mkRat_one,Rat.den_intCast]
 ·have:=RC (EZ (AX (x.n.z*y.d)) (AX (y.n.z*x.d))) (x.d*y.d) (NC _ _) (G7 (by rw[x3];exact a.den_pos) (by rw[y3];exact b.den_pos))
  rw[NO,EA,EA]at this;exact this
theorem aQ (x:GI):AK C0 81 [x.D] (⟨x,1⟩:GF).D:=by
 refine AZ.walk w1 V3 rfl λF=>?_
 have hpx:AA x.w:=AI;unfold GF.D;rw[VO];dsimp only[GI.D]at*;refine fR 0 ?_;refine AC.seq ?_;refine CM 100 [0,1] [2,3] ?_;refine CL ?_;refine Bb.same _ (Pc 1) AI ?_;refine CL ?_;refine Ad ?_;exact AJ rfl AA.out
theorem R7 {a b:Rat}{x y:GF}{i j:Nat}(hx:FR a x i)(hy:FR b y j)(hk:i+j<300000):AK C0 80 [x.D,y.D] (KR x y).D:=by
 refine AZ.walk w1 gV rfl λF=>?_
 have v1:=Tw x hx.dpos;have v2:=Tw y hy.dpos;have l1:=hx.ln;have l2:=hy.ln;have l3:=hx.ld;have l4:=hy.ld;have dp:=G7 hx.dpos hy.dpos;have m1:=Pq x.n y.d hx.is.1 (by omega) (by omega);have m2:=Pq y.n x.d hy.is.1 (by omega) (by omega);have m3:=WS x.d y.d (by omega) (by omega);have z1:=Kx x.n.z y.d;have z2:=Kx y.n.z x.d;rw[D7]at z1 z2;have z3:=Xn (x.n.z*y.d) (y.n.z*x.d);have z4:=L1 x.d y.d;have s1:=PS (AX (x.n.z*y.d)) (AX (y.n.z*x.d)) (Cv _) (Cv _) (by show(Ae (x.n.z*y.d).natAbs).length<1000000;omega) (by show(Ae (y.n.z*x.d).natAbs).length<1000000;omega);have s0:=PS x.n y.n hx.is.1 hy.is.1 (hx.fn (by omega)) (hy.fn (by omega));have mk:=Yr (EZ (AX (x.n.z*y.d)) (AX (y.n.z*x.d))) (x.d*y.d) (NC _ _) dp (by
  show(Ae (EZ (AX (x.n.z*y.d)) (AX (y.n.z*x.d))).z.natAbs).length<1000000;rw[NO,EA,EA];omega) (by omega)
 have wg:=aQ (EZ x.n y.n);have hp1:AA x.n.w:=AI;have hp2:AA y.n.w:=AI;have hp3:AA (AX (x.d:Int)).w:=AI;have hp4:AA (AX (y.d:Int)).w:=AI;have hp5:AA (EZ x.n y.n).w:=AI;have hp6:AA (EZ (AX (x.n.z*y.d)) (AX (y.n.z*x.d))).w:=AI;have hp7:AA (AX (x.n.z*y.d)).w:=AI;have hp8:AA (AX (y.n.z*x.d)).w:=AI;have hp9:AA (AX ((x.d*y.d:Nat):Int)).w:=AI;have hq1:AA (Iu (EZ (AX (x.n.z*y.d)) (AX (y.n.z*x.d))) (x.d*y.d)).n.w:=AI;have hq2:AA (AX ((Iu (EZ (AX (x.n.z*y.d)) (AX (y.n.z*x.d))) (x.d*y.d)).d:Int)).w:=AI;have hq3:AA (AX ((1:Nat):Int)).w:=AI;unfold KR;clear z1 z2 z3 z4 l1 l2 l3 l4 dp hk hx hy;dsimp only[GI.D,GF.D]at*
 by_cases e1:x.d=1
 ·have fb:decide (x.d=1)=true:=Au e1
  rw[fb]at v1
  by_cases e2:y.d=1
  ·have fd:decide (y.d=1)=true:=Au e2
   rw[fd]at v2;rw[AH ⟨e1,e2⟩];refine fR 0 ?_;refine AC.seq ?_;refine fR 100 ?_;refine dI v1 ?_;dsimp only[Ng];refine CL ?_;dsimp only[Ng];refine CL ?_;refine dI v2 ?_;refine AN ?_;refine fR 200 ?_;refine dI s0 ?_;refine dI wg ?_;refine Ad ?_;exact AJ rfl AA.out
  ·have fd:decide (y.d=1)=false:=Av e2
   rw[fd]at v2;rw[AG λh=>e2 h.2];refine fR 0 ?_;refine AC.seq ?_;refine fR 100 ?_;refine dI v1 ?_;dsimp only[Ng];refine CL ?_;dsimp only[Ng];refine CL ?_;refine dI v2 ?_;refine AN ?_;refine Aj ?_;refine AC.seq ?_;refine CM 300 [0,1,2,3,4,5,6,7,8,9,10,11,12,13,14] [15,16,17] ?_;refine CL ?_;refine Bb.same _ (m1) AI ?_;refine CL ?_;refine Bb.same _ (m2) AI ?_;refine CL ?_;refine Bb.same _ (s1) AI ?_;refine CL ?_;refine dI m3 ?_;refine dI mk ?_;refine Ad ?_;exact AJ rfl AA.out
 ·have fb:decide (x.d=1)=false:=Av e1
  rw[fb]at v1;rw[AG λh=>e1 h.1];refine fR 0 ?_;refine AC.seq ?_;refine fR 100 ?_;refine dI v1 ?_;dsimp only[SU];refine CL ?_;dsimp only[SU];refine CL ?_;refine AN ?_;refine Aj ?_;refine AC.seq ?_;refine CM 300 [0,1,2,3,4,5,6,7,8,9,10,11,12,13,14] [15,16,17] ?_;refine CL ?_;refine Bb.same _ (m1) AI ?_;refine CL ?_;refine Bb.same _ (m2) AI ?_;refine CL ?_;refine Bb.same _ (s1) AI ?_;refine CL ?_;refine dI m3 ?_;refine dI mk ?_;refine Ad ?_;exact AJ rfl AA.out
theorem RQ {a b:Rat}{x y:GF}{i j:Nat}(hx:FR a x i)(hy:FR b y j):FR (a+b) (KR x y) (i+j+1):=⟨p9 hx.is hy.is,VW hx.rk hy.rk⟩
def I5 (x y:GF):GF:=Iu (AX (x.n.z*y.n.z)) (x.d*y.d)
theorem pn {a b:Rat}{x y:GF}(hx:Ib a x)(hy:Ib b y):Ib (a*b) (I5 x y):=by
 obtain⟨x1,x2,x3⟩:=hx;obtain⟨y1,y2,y3⟩:=hy;rw[Rat.mul_def,Rat.normalize_eq_mkRat,<-x2,<-x3,<-y2,<-y3]
 have:=RC (AX (x.n.z*y.n.z)) (x.d*y.d) (Cv _) (G7 (by rw[x3];exact a.den_pos) (by rw[y3];exact b.den_pos))
 rw[EA]at this;exact this
theorem U6 {a b:Rat}{x y:GF}{i j:Nat}(hx:FR a x i)(hy:FR b y j):FR (a*b) (I5 x y) (i+j):=⟨pn hx.is hy.is,dG hx.rk hy.rk⟩
theorem VB {a b:Rat}{x y:GF}{i j:Nat}(hx:FR a x i)(hy:FR b y j)(hk:i+j<300000):AK C0 79 [x.D,y.D] (I5 x y).D:=by
 refine AZ.walk w1 gU rfl λF=>?_
 have l1:=hx.ln;have l2:=hy.ln;have l3:=hx.ld;have l4:=hy.ld;have dp:=G7 hx.dpos hy.dpos;have z1:=Kx x.n.z y.n.z;have z4:=L1 x.d y.d;have m1:=gL x.n y.n hx.is.1 hy.is.1 (by omega) (by omega);have m3:=WS x.d y.d (by omega) (by omega);have mk:=Yr (AX (x.n.z*y.n.z)) (x.d*y.d) (Cv _) dp (by show(Ae (x.n.z*y.n.z).natAbs).length<1000000;omega) (by omega);have p1:AA x.n.w:=AI;have p2:AA y.n.w:=AI;have p3:AA (AX (x.d:Int)).w:=AI;have p4:AA (AX (y.d:Int)).w:=AI;have p5:AA (AX (x.n.z*y.n.z)).w:=AI;have p6:AA (AX ((x.d*y.d:Nat):Int)).w:=AI;have p7:AA (Iu (AX (x.n.z*y.n.z)) (x.d*y.d)).n.w:=AI;have p8:AA (AX ((Iu (AX (x.n.z*y.n.z)) (x.d*y.d)).d:Int)).w:=AI;unfold I5;clear l1 l2 l3 l4 dp z1 z4 hx hy;dsimp only[GI.D,GF.D]at*;refine fR 0 ?_;refine AC.seq ?_;refine CM 100 [0,1,2,3,4,5,6,7,8] [9,10,11] ?_;refine CL ?_;refine Bb.same _ (m1) AI ?_;refine CL ?_;refine dI m3 ?_;refine dI mk ?_;refine Ad ?_;exact AJ rfl AA.out
def KT (x:GF):GF:=LM (AX (x.d:Int)) x.n
theorem qV {a:Rat}{x:GF}(hx:Ib a x)(h0:a≠0):Ib a⁻¹ (KT x):=by
 obtain⟨x1,x2,x3⟩:=hx;have hn:x.n.z≠0:=by
  rw[x2];intro h;exact h0 (Rat.num_eq_zero.1 h)
 rw[Rat.inv_def,<-x2,<-x3];exact na (AX (x.d:Int)) x.n (Cv _) hn
theorem xK {a:Rat}{k:Nat}(h:rk a k)(h0:a≠0):rk a⁻¹ k:=by
 rw[Rat.inv_def];obtain⟨h1,h2⟩:=h;have hn:a.num≠0:=λh=>h0 (Rat.num_eq_zero.1 h)
 rcases Int.lt_or_gt_of_ne hn with h|h
 ·obtain⟨m,hm⟩:∃m,a.num=Int.negSucc m:=by
   cases hy:a.num with
   |ofNat n=>rw[hy]at h;simp at h;omega
   |negSucc k=>exact⟨k,rfl⟩
  rw[hm]at h1⊢;exact RX (n:=-(a.den:Int)) (d:=m+1) (by omega) (by rw[Mp,D7];exact h2) h1
 ·obtain⟨m,hm⟩:∃m:Nat,a.num=(m:Int):=⟨a.num.natAbs,by omega⟩
  rw[hm]at h1 h⊢;rw[Rat.divInt_ofNat,<-Rat.normalize_eq_mkRat (by omega)];exact RX _ (by rw[D7];exact h2) (by rw[D7]at h1;exact h1)
theorem Z7 {a:Rat}{x:GF}{k:Nat}(h:FR a x k)(h0:a≠0):FR a⁻¹ (KT x) k:=⟨qV h.is h0,xK h.rk h0⟩
theorem sB {a:Rat}{x:GF}{k:Nat}(h:FR a x k)(h0:a≠0)(hk:k<1000000):AK C0 148 [x.D] (KT x).D:=by
 refine AZ.walk w1 cY rfl λF=>?_
 have l3:=h.ld;have hn:x.n.z≠0:=by
  rw[h.is.2.1];intro h;exact h0 (Rat.num_eq_zero.1 h)
 have mk:=eC (AX (x.d:Int)) x.n (Cv _) h.is.1 hn (Ik (by omega)) (h.fn hk);have p1:AA x.n.w:=AI;have p3:AA (AX (x.d:Int)).w:=AI;have p7:AA (LM (AX (x.d:Int)) x.n).n.w:=AI;have p8:AA (AX ((LM (AX (x.d:Int)) x.n).d:Int)).w:=AI;unfold KT;dsimp only[GI.D,GF.D]at*;refine fR 0 ?_;refine fR 100 ?_;refine dI mk ?_;refine Ad ?_;exact AJ rfl AA.out
def Sh (x y:GF):GF:=I5 x (KT y)
theorem pI {a b:Rat}{x y:GF}{i j:Nat}(hx:FR a x i)(hy:FR b y j)(h0:b≠0):FR (a/b) (Sh x y) (i+j):=by
 rw[Rat.div_def];exact U6 hx (Z7 hy h0)
theorem rz {a b:Rat}{x y:GF}{i j:Nat}(hx:FR a x i)(hy:FR b y j)(h0:b≠0)(hk:i+j<300000):AK C0 107 [x.D,y.D] (Sh x y).D:=by
 refine AZ.walk w1 b9 rfl λF=>?_
 have c1:=sB hy h0 (by omega);have c2:=VB hx (Z7 hy h0) hk;have p1:AA x.n.w:=AI;have p2:AA y.n.w:=AI;have p3:AA (AX (x.d:Int)).w:=AI;have p4:AA (AX (y.d:Int)).w:=AI;have p5:AA (KT y).n.w:=AI;have p6:AA (AX ((KT y).d:Int)).w:=AI;have p7:AA (I5 x (KT y)).n.w:=AI;have p8:AA (AX ((I5 x (KT y)).d:Int)).w:=AI;unfold Sh;dsimp only[GI.D,GF.D]at*;refine fR 0 ?_;refine AC.seq ?_;refine CM 100 [0,1,2] [3,4] ?_;refine CL ?_;refine Bb.same _ (c1) AI ?_;refine CL ?_;refine dI c2 ?_;refine Ad ?_;exact AJ rfl AA.out
def MZ (a b:Rat):Int:=if a<b then -1 else if b<a then 1 else 0
theorem rm (a b:Rat):EJ (a.num*b.den) (b.num*a.den)=MZ a b:=by
 unfold EJ MZ;simp only[Rat.lt_iff]
theorem ru {a b:Rat}{x y:GF}{i j:Nat}(hx:FR a x i)(hy:FR b y j)(hk:i+j<300000):AK C0 234 [x.D,y.D] (i64 (MZ a b)):=by
 refine AZ.walk w1 dX rfl λF=>?_
 have l1:=hx.ln;have l2:=hy.ln;have l3:=hx.ld;have l4:=hy.ld;have m1:=Pq x.n y.d hx.is.1 (by omega) (by omega);have m2:=Pq y.n x.d hy.is.1 (by omega) (by omega);have z1:=Kx x.n.z y.d;have z2:=Kx y.n.z x.d;rw[D7]at z1 z2;have cm:=xU (AX (x.n.z*y.d)) (AX (y.n.z*x.d)) (Cv _) (Cv _) (by show(Ae (x.n.z*y.d).natAbs).length<1000000;omega) (by show(Ae (y.n.z*x.d).natAbs).length<1000000;omega);have e:EJ (AX (x.n.z*y.d)).z (AX (y.n.z*x.d)).z=MZ a b:=by
  rw[EA,EA,<-rm,hx.is.2.1,hx.is.2.2,hy.is.2.1,hy.is.2.2]
 rw[e]at cm;have p1:AA x.n.w:=AI;have p2:AA y.n.w:=AI;have p3:AA (AX (x.d:Int)).w:=AI;have p4:AA (AX (y.d:Int)).w:=AI;have p5:AA (AX (x.n.z*y.d)).w:=AI;have p6:AA (AX (y.n.z*x.d)).w:=AI;clear l1 l2 l3 l4 z1 z2 e hx hy;dsimp only[GI.D,GF.D]at*;refine fR 0 ?_;refine AC.seq ?_;refine CM 100 [0,1,2,3,4,5,6,7,8] [9,10,11] ?_;refine CL ?_;refine Bb.same _ (m1) AI ?_;refine CL ?_;refine dI m2 ?_;refine dI cm ?_;refine Ad ?_;exact AJ rfl AA.out
def GH (a:Rat):Int:=max (-1) (min 1 a.num)
theorem Zg {a:Rat}{x:GF}(hx:Ib a x):AK C0 192 [x.D] (i64 (GH a)):=by
 refine AZ.walk w1 bV rfl λF=>?_
 have cg:=NV x.n hx.1;rw[hx.2.1]at cg;have p1:AA x.n.w:=AI;have p3:AA (AX (x.d:Int)).w:=AI;unfold GH;dsimp only[GI.D,GF.D]at*;refine fR 0 ?_;refine fR 100 ?_;refine dI cg ?_;refine Ad ?_;exact AJ rfl AA.out
abbrev sb (l:List UInt8):ByteArray:=⟨l.toArray⟩
theorem Cd (l:List UInt8):(sb l).size=l.length:=by simp[ByteArray.size]
theorem Em (l:List UInt8)(i j:Nat):(sb l).extract i j=sb ((l.take j).drop i):=by
 apply ByteArray.ext;rw[ByteArray.data_extract];simp[List.drop_take]
theorem aF (l:List UInt8):(sb l).toList=l:=by
 rw[ByteArray.toList_eq]
theorem Ep (l m:List UInt8):BI (sb l) (sb m)=decide (l=m):=by
 unfold BI;rw[aF,aF,F7,EQ,decide_eq_true_iff]
def Dh (l:List UInt8):Bool:=match l with
 | []=>false
 |c::_=>c==45
def Bs (l:List UInt8):List UInt8:=if Dh l then l.drop 1 else l
def BC (l:List UInt8):Nat:=(l.takeWhile (· != 47)).length
theorem J3 (l:List UInt8):BC l<=l.length:=by
 unfold BC;exact(List.takeWhile_sublist _).length_le
theorem jU (l:List UInt8):Lib.indexByte l 47=if BC l<l.length then(BC l:Int)else -1:=by
 induction l with
 |nil=>rfl
 |cons c l ih=>
  unfold Lib.indexByte
  by_cases h:c=47
  ·subst h
   simp[BC]
  ·have e1:BC (c::l)=BC l+1:=by
    unfold BC;rw[N9,AH (by simpa using h),Bq]
   have hb:(c==47)=false:=by simpa using h
   rw[hb,ih,e1,Bq]
   by_cases h2:BC l<l.length
   ·have h3:BC l+1<l.length+1:=by omega
    have h4:(((BC l:Nat):Int) == -1)=false:=Br.2 (by omega);simp only[h2,h3,h4,if_true,Gd,if_false];omega
   ·have h3:¬BC l+1<l.length+1:=by omega
    simp only[h2,h3,Gd,if_false];rfl
theorem Xj (l:List UInt8)(hl:l.length<=1000000000):AK C0 206 [str (sb l),str (sb [45])] (Ai (Dh l)):=by
 refine AZ.walk w1 bY rfl λF=>?_
 have hsz:=Cd l;have hs1:=Cd [45];refine sR 0 ?_;refine AC.seq ?_;cases l with
 |nil=>
  have e1:decide (((sb []).size:Int)>=((sb [45]).size:Int))=false:=rfl;refine Ao 100 ?_;refine AW e1 ?_;refine AD e1 ?_;refine AD e1 ?_;refine Ad ?_;exact AJ rfl AA.out
 |cons c l=>
  have e1:decide (((sb (c::l)).size:Int)>=((sb [45]).size:Int))=true:=Au (by rw[hsz,hs1];simp only[Bq,HQ];omega);have e2:(sb (c::l)).extract 0 ((((sb [45]).size:Nat):Int)).toNat=sb [c]:=by rw[Em];rfl
  have e3:BI (sb [c]) (sb [45])=Dh (c::l):=by
   rw[Ep,Dh,F7,decide_eq_true_iff,EQ];simp
  have h0:(0:Int)<=((sb [45]).size:Int):=by omega
  have h1:((sb [45]).size:Int)<=((sb (c::l)).size:Int):=by rw[hsz,hs1];simp only[Bq,HQ];omega
  refine Ao 100 ?_;refine AW e1 ?_;refine AD (Ar e1 e2 e3) ?_;refine AD (Ar e1 e2 e3) ?_;refine Ad ?_;exact AJ rfl AA.out
theorem jT (l:List UInt8)(hl:l.length<=1000000000):AK C0 154 [str (sb l),str (sb [45])] (Ai (Dh l)):=by
 refine AZ.walk w1 az rfl λF=>?_
 have c1:=Xj l hl;generalize sb l=s at*;generalize Dh l=b at*;refine fR 0 ?_;refine fR 100 ?_;refine dI c1 ?_;refine Ad ?_;exact AJ rfl AA.out
theorem jk (l:List UInt8)(hl:l.length<=1000000000):AK C0 169 [str (sb l),str (sb [45])] (str (sb (Bs l))):=by
 refine AZ.walk w1 bM rfl λF=>?_
 have c1:=Xj l hl;have hsz:=Cd l;unfold Bs;refine sR 0 ?_;refine AC.seq ?_;refine sR 100 ?_;refine cI c1 ?_;rcases hb:Dh l with _|_
 ·rw[AG (by simp)]
  refine AN ?_;refine Aj ?_;refine sR 300 ?_;refine Ad ?_;exact AJ rfl AA.out
 ·rw[AH rfl]
  have h1:(0:Int)<=((sb [45]).size:Int):=by omega
  have h2:((sb [45]).size:Int)<=((sb l).size:Int):=by
   rw[hsz];show(1:Int)<=_;cases l with
   |nil=>cases hb
   |cons c l=>simp only[Bq];omega
  have e2:(sb l).extract (((sb [45]).size:Nat):Int).toNat (sb l).size=sb (l.drop 1):=by
   rw[Em,hsz,Ch (Al _)];rfl
  refine AN ?_;refine sZ 200 ?_;refine AW e2 ?_;refine Ad ?_;exact AJ rfl AA.out
theorem Ta (l:List UInt8)(hl:l.length<=1000000000):AK C0 124 [str (sb l),str (sb [45])] (str (sb (Bs l))):=by
 refine AZ.walk w1 bs rfl λF=>?_
 have c1:=jk l hl;generalize sb l=s at*;generalize sb (Bs l)=t at*;refine fR 0 ?_;refine fR 100 ?_;refine dI c1 ?_;refine Ad ?_;exact AJ rfl AA.out
theorem kJ (l:List UInt8):AK C0 249 [str (sb l),.prim (.int .u8 47)] (i64 (if BC l<l.length then(BC l:Int)else -1)):=by
 refine AZ.walk w1 dZ rfl λF=>?_
 have e1:firstIdx (sb l) (((47:Int)).toNat.toUInt8)=(if BC l<l.length then(BC l:Int)else -1):=by
  rw[Lib.firstIdx_eq];exact jU l
 generalize(if BC l<l.length then(BC l:Int)else -1)=r at*;refine fR 0 ?_;refine AC.seq ?_;refine Ao 100 ?_;refine AW e1 ?_;refine Ad ?_;exact AJ rfl AA.out
theorem nQ (l:List UInt8)(hl:l.length<=1000000000):AK C0 205 [str (sb l),str (sb [47])] (i64 (if BC l<l.length then(BC l:Int)else -1)):=by
 refine AZ.walk w1 bX rfl λF=>?_
 have c1:=kJ l;have eS:=Ep [47] l;have hr:[47]=l->(if BC l<l.length then(BC l:Int)else -1)=0:=λh=>by subst h;rfl
 generalize(if BC l<l.length then(BC l:Int)else -1)=r at*;have e0:(((sb [47]).size:Int)==0)=false:=rfl;have e1:(((sb [47]).size:Int)==1)=true:=rfl;have hx:(((sb [47]).data.toList.getD ((0:Int)).toNat 0).toNat:Int)=47:=rfl;refine sR 0 ?_;refine sR 100 ?_;refine AC.seq ?_;refine AC.block ?_
 by_cases h:[47]=l
 ·rw[Au h]at eS
  have hr:=hr h;subst hr;refine sZ 200 ?_;refine AW e0 ?_;refine AD (Ar e0 kF eS) ?_;refine AD (Ar e0 kF eS) ?_;refine AN ?_;refine sR 300 ?_;refine Ad ?_;exact AJ rfl AA.out
 ·rw[Av h]at eS
  refine sZ 200 ?_;refine AW e0 ?_;refine AD (Ar e0 kF eS) ?_;refine AD (Ar e0 kF eS) ?_;refine AN ?_;refine sZ 400 ?_;refine AW e1 ?_;refine AN ?_;refine sZ 500 ?_;refine AW hx ?_;refine cI c1 ?_;refine Ad ?_;exact AJ rfl AA.out
theorem d8v (l:List UInt8)(hl:l.length<=1000000000):AK C0 153 [str (sb l),str (sb [47])] (.tup [str (sb (l.take (BC l))),str (sb (l.drop (BC l+1))),Ai (decide (BC l<l.length))]):=by
 refine AZ.walk w1 ay rfl λF=>?_
 have c1:=nQ l hl;have hsz:=Cd l;have hle:=J3 l;refine sR 0 ?_
 by_cases h:BC l<l.length
 ·rw[AH h]at c1
  have e1:decide (((BC l:Nat):Int)>=0)=true:=BV;have e2:(sb l).extract 0 (((BC l:Nat):Int)).toNat=sb (l.take (BC l)):=by rw[Em];rfl
  have w3:IntKind.i64.wrap (((BC l:Nat):Int)+((sb [47]).size:Int))=((BC l+1:Nat):Int):=by
   show IntKind.i64.wrap (((BC l:Nat):Int)+1)=_;rw[wI];omega
  have e3:(sb l).extract (((BC l+1:Nat):Int)).toNat (sb l).size=sb (l.drop (BC l+1)):=by
   rw[Em,hsz,Ch (Al _)];rfl
  rw[Au h];refine AC.seq ?_;refine sR 100 ?_;refine cI c1 ?_;refine sZ 200 ?_;refine AW e1 ?_;refine AN ?_;refine AC.seq ?_;refine CM 300 [0,1,2,3,4,5,6,7,8,9] [10,11] ?_;refine AD (Ar w3 e2 e3) ?_;refine Ad ?_;exact AJ rfl AA.out
 ·rw[AG h]at c1
  have hk:BC l=l.length:=by omega
  have e1:decide (((-1:Int))>=0)=false:=rfl;rw[Av h,hk,Ch (Al _),HP (by omega)];refine AC.seq ?_;refine sR 100 ?_;refine cI c1 ?_;refine sZ 200 ?_;refine AW e1 ?_;refine AN ?_;refine Aj ?_;refine sR 400 ?_;refine Ad ?_;exact AJ rfl AA.out
theorem aj (l:List UInt8)(hl:l.length<=1000000000):AK C0 118 [str (sb l),str (sb [47])] (.tup [str (sb (l.take (BC l))),str (sb (l.drop (BC l+1))),Ai (decide (BC l<l.length))]):=by
 refine AZ.walk w1 bo rfl λF=>?_
 have c1:=d8v l hl;generalize sb l=s at*;generalize sb (l.take (BC l))=t at*;generalize sb (l.drop (BC l+1))=u at*;generalize decide (BC l<l.length)=b at*;refine fR 0 ?_;refine fR 100 ?_;refine dI c1 ?_;refine Ad ?_;exact AJ rfl AA.out
theorem rE (a b:Nat)(ha:a<=9223372036854775807)(hb:b<=9223372036854775807):AK C0 225 [i64 a,i64 b] (i64 (Nat.gcd a b:Nat)):=by
 refine AZ.walk w1 u9 rfl λF=>?_
 refine fR 0 ?_;refine AC.seq ?_;refine AC.block ?_;refine AC.loop (α:=Nat×Nat×Nat) (λp=>⟨[(0,i64 p.1),(1,i64 p.2.1)],[],p.2.2⟩) (λp=>p.2.1) (λp=>Nat.gcd p.1 p.2.1=Nat.gcd a b/\p.1<=9223372036854775807/\p.2.1<=9223372036854775807) (a,b,_) ⟨rfl,ha,hb⟩ AL ?_;rintro⟨x,y,n⟩ F ⟨h1,h2,h3⟩;dsimp only at h1 h2 h3⊢;refine AC.seq ?_;refine fR 100 ?_;refine AN ?_
 (refine B1 (λhy=>?_) (λhy=>?_))<;>(try simp only[Bl,Bz]at hy)<;>(try simp only[hy])
 ·have hy':(y:Int)>0:=by simpa using hy
  refine Aj ?_;refine AC.block ?_;refine CM 200 [0,1,2,3,4] [5] ?_;refine CL ?_
  have:(x:Int).tmod y=((x%y:Nat):Int):=rfl
  rw[this];refine⟨(y,x%y,_),⟨?_,h3,?_⟩,?_,AL⟩
  ·rw[<-h1,OE x y,Nat.gcd_rec y x,OE]
  ·have:=B7 x (show y>0 by omega);dsimp only;omega
  ·exact B7 x (show y>0 by omega)
 ·have hy':y=0:=by simp at hy;omega
  subst hy';refine CK ?_;refine fR 300 ?_;refine Ad ?_;refine AJ ?_ AA.out;rw[<-h1,Nat.gcd_zero_right]
def Mh (least:Nat)(l:List UInt8):List UInt8:=List.replicate (least-l.length) 48++l
def FT (least m:Nat)(s:List UInt8):List UInt8:=Mh least (if m=0 then s else Lib.decDigits m++s)
theorem W5 (least m:Nat)(s:List UInt8)(h:0<m\/s.length<least):FT least (m/10) (UInt8.ofNat (48+m%10)::s)=FT least m s:=by
 unfold FT
 by_cases h0:m=0
 ·subst h0
  have hl:s.length<least:=h.resolve_left (by omega);rw[DQ,AH rfl];unfold Mh;obtain⟨k,hk⟩:∃k,least-s.length=k+1:=⟨least-s.length-1,by omega⟩
  rw[hk,show least-(UInt8.ofNat (48+0%10)::s).length=k from by simp;omega,List.replicate_succ'];simp
 ·rw[AG h0]
  by_cases h1:m<10
  ·rw[DQ]
   have:Lib.decDigits m=[UInt8.ofNat (48+m)]:=by unfold Lib.decDigits;rw[dif_pos h1]
   rw[this,show m%10=m from by omega];rfl
  ·rw[CR]
   have:Lib.decDigits m=Lib.decDigits (m/10)++[UInt8.ofNat (48+m%10)]:=by rw[Lib.decDigits];rw[dif_neg h1]
   rw[this,EE];rfl
theorem oE (k:Nat)(hk:k<10):(⟨#[48,49,50,51,52,53,54,55,56,57]⟩:ByteArray).extract k (k+1)=⟨([UInt8.ofNat (48+k)]:List UInt8).toArray⟩:=by
 match k,hk with
 | 0,_=>rfl
 | 1,_=>rfl
 | 2,_=>rfl
 | 3,_=>rfl
 | 4,_=>rfl
 | 5,_=>rfl
 | 6,_=>rfl
 | 7,_=>rfl
 | 8,_=>rfl
 | 9,_=>rfl
theorem Qb (a least:Nat)(ha:a+least<=9223372036854775807):AK C0 226 [i64 a,i64 least] (str ⟨(FT least a []).toArray⟩):=by
 refine AZ.walk w1 ua rfl λF=>?_
 refine fR 0 ?_;refine fR 100 ?_;refine AC.seq ?_;refine AC.block ?_;refine AC.loop (α:=Nat×List UInt8×Nat) (λp=>⟨[(0,i64 p.1),(1,i64 least),(5,str ⟨p.2.1.toArray⟩)],[],p.2.2⟩) (λp=>p.1+(least-p.2.1.length))
  (λp=>FT least p.1 p.2.1=FT least a []/\p.1+p.2.1.length<=a+least) (a,[],_) ⟨rfl,by simp⟩ AL ?_
 rintro⟨m,s,n⟩ F ⟨h1,h2⟩;dsimp only at h1 h2⊢;have hsz:=O3 s;refine AC.seq ?_;refine D6 ⟨[(0,i64 m),(1,i64 least),(5,str ⟨s.toArray⟩),(13,Ai (decide ((m:Int)>0)||decide ((s.length:Int)<least)))],[],n+30⟩ (Ao 200 ?_) ?_
 ·repeat'(first|(refine BK (by exact CF) ?_;refine BJ ?_)|((refine B1 (λhb=>?_) (λhb=>?_))<;>(try simp only[Bl,Bz]at hb)<;>(try simp only[hb])<;>(refine BJ ?_)))
  all_goals exact AL
 refine AN ?_
 (refine B1 (λhc=>?_) (λhc=>?_))<;>(try simp only[Bl,Bz]at hc)<;>(try simp only[hc])
 ·have hc:0<m\/s.length<least:=by
   simp at hc;omega
  refine Aj ?_;refine AC.block ?_;refine AC.seq ?_;have hm:(m:Int).tmod 10=((m%10:Nat):Int):=rfl;have e2:IntKind.i64.wrap (((m%10:Nat):Int)+1)=((m%10+1:Nat):Int):=wI;have hd:=oE (m%10) (by omega);have hs1:(⟨([UInt8.ofNat (48+m%10)]:List UInt8).toArray⟩:ByteArray).size=1:=rfl;have hlen:s.length+1<=9223372036854775807:=by omega
  have hs10:(⟨#[48,49,50,51,52,53,54,55,56,57]⟩:ByteArray).size=10:=rfl;refine Ao 300 ?_;refine Kj (BS hm e2 kN hd) ?_;refine fI 400 ?_;have hm4:(m:Int).tdiv 10=((m/10:Nat):Int):=rfl;have hm5:m/10<=9223372036854775807:=by omega
  rw[hm4,wN hm5,JY,E2,GK];refine⟨(m/10,UInt8.ofNat (48+m%10)::s,_),⟨(W5 least m s hc).trans h1,?_⟩,?_,AL⟩
  ·simp only[Bq];omega
  ·simp only[Bq];omega
 ·have hc:m=0/\least<=s.length:=by
   simp at hc;omega
  obtain⟨rfl,hl⟩:=hc;refine CK ?_;refine fR 500 ?_;refine Ad ?_;refine AJ ?_ AA.out;rw[<-h1];unfold FT Mh;rw[AH rfl,Nat.sub_eq_zero_of_le hl];rfl
theorem Zl (a:Nat):FT 1 a []=Lib.decDigits a:=by
 unfold FT Mh
 by_cases h:a=0
 ·subst h
  have:Lib.decDigits 0=[48]:=by unfold Lib.decDigits;rw[dif_pos (by decide)];rfl
  rw[AH rfl,this];rfl
 ·rw[AG h,Dm]
  have:(Lib.decDigits a).length≠0:=by
   unfold Lib.decDigits;split<;>simp
  rw[show 1-(Lib.decDigits a).length=0 from by omega];rfl
def EI (K g sz:Nat):List D->D
 | []=>CS
 |_::l=>.osl K g sz 0 (l.length+1)
def EC (K g T sz:Nat):List D->Hp
 | []=>[]
 |x::l=>[⟨K,g,T,sz,x::l⟩]
theorem JQ (K g sz:Nat):EI K g sz []=CS:=rfl
theorem H7 (K g sz:Nat)(x:D)(l:List D):EI K g sz (x::l)=.osl K g sz 0 (l.length+1):=rfl
theorem JR (K g T sz:Nat):EC K g T sz []=[]:=rfl
theorem H8 (K g T sz:Nat)(x:D)(l:List D):EC K g T sz (x::l)=[⟨K,g,T,sz,x::l⟩]:=rfl
theorem OV (K g sz:Nat)(x y:D)(l:List D):EI K g sz (x::l++[y])=.osl K g sz 0 (l.length+1+1):=by simp[EI]
theorem Rv (K g T sz:Nat)(l:List D):Fz (EC K g T sz l) [] (EI K g sz l) (.sl false sz l):=by
 cases l with
 |nil=>exact .nil sz
 |cons x l=>
  refine .osl (e:=⟨K,g,T,sz,x::l⟩) (by simp[EC,Hp.get]) rfl rfl rfl (by simp) (by simp) (λj d d' h1 h2=>?_) λj d d' q c c' h1 h2 h3 h4=>?_
  ·rw[BZ]at h1;rw[h1]at h2;cases h2;rfl
  ·rw[BZ]at h1;rw[h1]at h2;cases h2;rw[h3]at h4;cases h4;exact Fz.refl _
def spot (a b c d:Nat):D:=.agg [i64 (a/Nat.gcd a b:Nat),CS,i64 (b/Nat.gcd a b:Nat),CS,i64 (c/Nat.gcd c d:Nat),CS,i64 (d/Nat.gcd c d:Nat),CS]
instance  (a b c d:Nat):AO (spot a b c d):=by unfold spot;exact AI
instance  {α:Type}(f:α->List D)(l:List α)[h:∀x,Bg (f x)]:Bg (l.flatMap f):=⟨λe he=>by
 obtain⟨x,_,hx⟩:=List.mem_flatMap.1 he;exact(h x).out e hx⟩
theorem nJ {tt:Nat->Option Aw}{xt:Nat->Option XI}{g:Operand->D}{t:Nat}{x ix:Operand}{ok:Bool}{K V:List D}{a b:Nat}{z:Value}{s:ByteArray}{d:D}(h1:xt t=some (.map a b z))(h2:g x=.mp K V)(h3:g ix=.prim (.string s))
  (h4:HH s K V=some (some d)):E8 tt xt g (.lookup t x ix ok)=some (Gh ok d true,True):=by simp only[E8,h1,h2,h3,h4]
theorem lG {tt:Nat->Option Aw}{xt:Nat->Option XI}{g:Operand->D}{t:Nat}{x ix:Operand}{ok:Bool}{K V:List D}{a b:Nat}{z:Value}{s:ByteArray}(h1:xt t=some (.map a b z))(h2:g x=.mp K V)(h3:g ix=.prim (.string s))
  (h4:HH s K V=some none):E8 tt xt g (.lookup t x ix ok)=some (Gh ok (ofV z) false,True):=by simp only[E8,h1,h2,h3,h4]
theorem eX {X:EV}{g:Operand->D}{op:Op}{acc:Prop}{k:Prop->D->Option Aq->Prop}{d:D}{p:Prop}(h:E8 X.tt X.xt g op=some (d,p))(hk:k (p/\acc) d none):JI X g op acc k:=by
 unfold JI;rw[h];exact hk
theorem Hh {H Hf:Hp}{a a' b b':D}(h1:Fz H Hf a a')(h2:Fz H Hf b b'):Fz H Hf (.tup [a,b]) (.tup [a',b']):=.tup rfl λi d d' hd hd'=>by
 match i with
 | 0=>simp at hd hd';subst hd;subst hd';exact h1
 | 1=>simp at hd hd';subst hd;subst hd';exact h2
 |n+2=>simp at hd
set_option allowUnsafeReducibility true in
attribute [local irreducible] BI
inductive Kd where
 |line|zig|grid|quin
def Kd.most:Kd->Int
 | .line | .zig=>64
 | .grid=>8
 | .quin=>5
end Go.Ide
