/- The layer of own lemmas and contracts, part 7. -/
import Derived.Test.YtbfcnlkcimghoaaGreatDoorAB5
import Derived.Test.YtbfcnlkcimghoaaGreatDoorAB4
import Derived.Test.YtbfcnlkcimghoaaGreatDoorAB6
import Derived.Lib.AppendIntMem
import Derived.Lib.SmallJoins
import Derived.Shelf.Spec.BitsCarry
import Derived.Laws.StandIn
set_option linter.unusedVariables false
set_option linter.unusedSimpArgs false
namespace Go.Ide
open Go Go.Ide Go.Proofs Go.RowKit
set_option maxRecDepth 100000
def G0 (w:World):Prop:=Lib.TabIs Tryz.prog w "internal/strconv.uint64pow10" .u64 Lib.pow10Tab
theorem rz:Tryz.prog.globalNamed "internal/strconv.uint64pow10" = some 5:=by kernel_rfl
theorem q9 {w w':World}(h:G0 w)(b:Below (5+1) w w'):G0 w':=by
 unfold G0 Lib.TabIs World.var? at h⊢;rw[rz]at h⊢;simp only[Option.bind_some]at h⊢;rw[b.block _ (by decide)];exact h
noncomputable def C0:BH:={P:=Tryz.prog,G:=G0,nG:=5+1,hG:=λ_ _=>q9}
theorem e1R (a b:Value)(fn:Fn):D9 (.agg [.prim a,.prim b,.clo fn [] []]):=D9.agg λd hd=>by
 simp only[Aw,Ds,or_false]at hd;rcases hd with rfl|rfl|rfl
 ·exact .prim _
 ·exact .prim _
 ·exact .clo
def W1:D:=.mp [.prim (.string ⟨#[100,111,119,110]⟩),.prim (.string ⟨#[117,112]⟩),.prim (.string ⟨#[104,97,108,102,45,117,112]⟩),.prim (.string ⟨#[104,97,108,102,45,101,118,101,110]⟩)]
 [.agg [.clo (.func 314) [] []],.agg [.clo (.func 315) [] []],.agg [.clo (.func 316) [] []],.agg [.clo (.func 317) [] []]]
theorem L6 (fn:Fn):D9 (.agg [.clo fn [] []]):=D9.agg λd hd=>by
 simp only[Aw,Ds,or_false]at hd;subst hd;exact .clo
theorem sQ:AI C0 304 [] W1:=by
 refine Ac.intro KR Tryz.func304 rfl (by kernel_rfl) (by kernel_rfl) (by kernel_rfl) λF=>?_
 refine Ok.seq (Ok.region ?_);refine BJ.p KR rfl rfl AB ?_;refine BJ.nil ?_;refine Ok.seq (Ok.region ?_);refine HT.start (m:=1) rfl rfl rfl ?_;refine UB (C:=C0) KR (.agg [.clo (.func 314) [] []]) rfl (by kernel_rfl) (L6 _) rfl (by decide) ?_;refine UA (C:=C0) (k:=9) (e:=388) (z:=.agg #[.nilFunc]) KF (by kernel_rfl) rfl rfl rfl (by kernel_rfl) rfl (λ_ _ _ _ h _ _ _=>L6 _ _ _ _ _ _ _ _ h) ?_;refine UB (C:=C0) KR (.agg [.clo (.func 315) [] []]) rfl (by kernel_rfl) (L6 _) rfl (by decide) ?_;refine UA (C:=C0) (k:=9) (e:=388) (z:=.agg #[.nilFunc]) KF (by kernel_rfl) rfl rfl rfl (by kernel_rfl) rfl (λ_ _ _ _ h _ _ _=>L6 _ _ _ _ _ _ _ _ h) ?_;refine UB (C:=C0) KR (.agg [.clo (.func 316) [] []]) rfl (by kernel_rfl) (L6 _) rfl (by decide) ?_;refine UA (C:=C0) (k:=9) (e:=388) (z:=.agg #[.nilFunc]) KF (by kernel_rfl) rfl rfl rfl (by kernel_rfl) rfl (λ_ _ _ _ h _ _ _=>L6 _ _ _ _ _ _ _ _ h) ?_;refine UB (C:=C0) KR (.agg [.clo (.func 317) [] []]) rfl (by kernel_rfl) (L6 _) rfl (by decide) ?_;refine UA (C:=C0) (k:=9) (e:=388) (z:=.agg #[.nilFunc]) KF (by kernel_rfl) rfl rfl rfl (by kernel_rfl) rfl (λ_ _ _ _ h _ _ _=>L6 _ _ _ _ _ _ _ _ h) ?_;refine HT.done ?_;refine BJ.p KR rfl rfl AB ?_;refine BJ.p KR rfl rfl AB ?_;refine BJ.nil ?_;refine Ok.ret ?_;exact⟨.inr rfl,_,_,rfl,⟨trivial,trivial⟩,W1,.refl _,F5 (n:=20) (by kernel_rfl),rfl⟩
theorem ki {ρ:Lk}{O:Nat->Prop}{w:World}{a b c:Value}{vs:Array Value}(hn:vs.size=3)(h:∀(i:Nat) (x:D),[D.prim a,.prim b,.prim c][i]?=some x->AV ρ O w x (vs.getD i undef)):vs = #[a,b,c]:=by
 match vs,hn with
 |⟨[u,v,x]⟩,_=>
  have h0:=h 0 _ rfl;have h1:=h 1 _ rfl;have h2:=h 2 _ rfl;simp at h0 h1 h2;cases h0;cases h1;cases h2;rfl
theorem ou (x y c:Nat)(hc:c<=1):Lb C0 221 [.prim (.int .u64 x),.prim (.int .u64 y),.prim (.int .u64 c)]
  (.tup [.prim (.int .u64 (((x+y+c)%18446744073709551616:Nat):Int)),.prim (.int .u64 (((x+y+c)/18446744073709551616:Nat):Int))]):=λρ O w vs hn h=>by
 have:=ki hn h
 subst this;refine⟨.tuple #[.int .u64 (((x+y+c)%18446744073709551616:Nat):Int),.int .u64 (((x+y+c)/18446744073709551616:Nat):Int)],?_,.tup rfl λi d hd=>?_⟩
 ·show(callFunc 221 _).run Tryz.prog w=_
  rw[run_callFunc_extern Tryz.func221 (by kernel_rfl) (by kernel_rfl) (by kernel_rfl) (e:=add64Entry) (by kernel_rfl),run_add64 x y c (by omega) (by omega) (by omega) (by omega)];simp only[Result.andThen]
  congr 5<;>omega
 ·match i with
  | 0=>simp at hd;subst hd;exact .prim _
  | 1=>simp at hd;subst hd;exact .prim _
  |n+2=>simp at hd
theorem e0t {ρ:Lk}{O:Nat->Prop}{w:World}{a b:Value}{vs:Array Value}(hn:vs.size=2)(h:∀(i:Nat) (x:D),[D.prim a,.prim b][i]?=some x->AV ρ O w x (vs.getD i undef)):vs = #[a,b]:=by
 match vs,hn with
 |⟨[u,v]⟩,_=>
  have h0:=h 0 _ rfl;have h1:=h 1 _ rfl;simp at h0 h1;cases h0;cases h1;rfl
theorem ml (s:ByteArray)(c:Int):Lb C0 286 [.prim (.string s),.prim (.int .u8 c)] (.prim (.int .i64 (firstIdx s c.toNat.toUInt8))):=λρ O w vs hn h=>by
 have:=e0t hn h
 subst this;refine⟨_,?_,.prim _⟩;show(callFunc 286 _).run Tryz.prog w=_;rw[run_callFunc_indexByte Tryz.func286 (by kernel_rfl) (by kernel_rfl) (by kernel_rfl) (by kernel_rfl),run_indexByte_string];rfl
theorem qp (x y b:Nat)(hb:b<=1):Lb C0 223 [.prim (.int .u64 x),.prim (.int .u64 y),.prim (.int .u64 b)]
  (.tup [.prim (.int .u64 (((x+18446744073709551616-y-b)%18446744073709551616:Nat):Int)),.prim (.int .u64 ((if x<y+b then 1 else 0:Nat):Int))]):=λρ O w vs hn h=>by
 have:=ki hn h
 subst this;refine⟨.tuple #[.int .u64 (((x+18446744073709551616-y-b)%18446744073709551616:Nat):Int),.int .u64 ((if x<y+b then 1 else 0:Nat):Int)],?_,.tup rfl λi d hd=>?_⟩
 ·show(callFunc 223 _).run Tryz.prog w=_
  rw[run_callFunc_extern Tryz.func223 (by kernel_rfl) (by kernel_rfl) (by kernel_rfl) (e:=sub64Entry) (by kernel_rfl),run_sub64 x y b hb];rfl
 ·match i with
  | 0=>simp at hd;subst hd;exact .prim _
  | 1=>simp at hd;subst hd;exact .prim _
  |n+2=>simp at hd
theorem SA {O:Nat->Prop}{w:World}{v:Value}{vs:Array Value}(hn:vs.size=1)(h:∀(i:Nat) (x:D),[D.prim v][i]?=some x->AV nol O w x (vs.getD i undef)):vs = #[v]:=by
 match vs,hn with
 |⟨[u]⟩,_=>
  have h0:=h 0 _ rfl;simp at h0;cases h0;rfl
theorem eQ (n:Int)(h0 : -9223372036854775808<=n)(h1:n<=9223372036854775807):AI C0 201 [i64 n] (str ⟨(Lib.itoa n).toArray⟩):=by
 refine⟨⟨_,_,Tryz.func201,rfl,by kernel_rfl⟩,λY w vs hG hnG hX hvs hr=>?_⟩
 have:=SA hvs hr
 subst this;refine(Tryz.strconv_Itoa n h0 h1 w hG).mono ?_;rintro e w' ⟨rfl,k,os,rfl⟩;exact⟨_,_,rfl,Lib.below_grow _ _ (Am _) _ _,rfl,.prim _⟩
theorem so (s:ByteArray)(n:Int)(hl:s.size<=18)(h:Lib.atoi s.data.toList=some n):AI C0 181 [str s] (.tup [i64 n,.prim .nilIface]):=by
 refine⟨⟨_,_,Tryz.func181,rfl,by kernel_rfl⟩,λY w vs hG hnG hX hvs hr=>?_⟩
 have:=SA hvs hr
 subst this;refine(Tryz.strconv_Atoi s n hl h w).mono ?_;rintro e w' ⟨rfl,t,rfl⟩;exact⟨_,_,rfl,Joins.below_bytesWorld _ _ _ _ (Am _),rfl,.tup rfl λi d hd=>by
  match i with
  | 0=>simp at hd;subst hd;exact .prim _
  | 1=>simp at hd;subst hd;exact .prim _
  |n+2=>simp at hd⟩
def KE (f:Nat)(ds:List D):Option D:=match Nat.beq f 221 with
 |true=>match ds with
  | [.prim (.int .u64 (.ofNat a)),.prim (.int .u64 (.ofNat b)),.prim (.int .u64 (.ofNat c))]=>match Nat.ble c 1 with
   |true=>some (.tup [.prim (.int .u64 (((a+b+c)%18446744073709551616:Nat):Int)),.prim (.int .u64 (((a+b+c)/18446744073709551616:Nat):Int))])
   |false=>none
  |_=>none
 |false=>match Nat.beq f 223 with
  |true=>match ds with
   | [.prim (.int .u64 (.ofNat a)),.prim (.int .u64 (.ofNat b)),.prim (.int .u64 (.ofNat c))]=>match Nat.ble c 1 with
    |true=>some (.tup [.prim (.int .u64 (((a+18446744073709551616-b-c)%18446744073709551616:Nat):Int)),.prim (.int .u64 ((if a<b+c then 1 else 0:Nat):Int))])
    |false=>none
   |_=>none
  |false=>match Nat.beq f 286 with
   |true=>match ds with
    | [.prim (.string s),.prim (.int .u8 c)]=>some (.prim (.int .i64 (firstIdx s c.toNat.toUInt8)))
    |_=>none
   |false=>none
theorem OO (f:Nat)(ds:List D)(d:D)(h:KE f ds=some d):Lb C0 f ds d:=by
 unfold KE at h;split at h
 ·rename_i hf
  obtain rfl:=Bi hf;split at h<;>try(cases h;done)
  split at h<;>try(cases h;done)
  rename_i hc;cases h;exact ou _ _ _ (Cf hc)
 ·split at h
  ·rename_i hf
   obtain rfl:=Bi hf;split at h<;>try(cases h;done)
   split at h<;>try(cases h;done)
   rename_i hc;cases h;exact qp _ _ _ (Cf hc)
  ·split at h
   ·rename_i hf
    obtain rfl:=Bi hf;split at h<;>try(cases h;done)
    cases h;exact ml _ _
   ·cases h
noncomputable def X1:EV:=⟨RW.get,LN.get,Mc.get,λ_=>false,λ_ _=>none,λ_ _=>none,KE⟩
theorem Eh:FC C0 X1:=⟨KR,KF,IV,λ_ _ _ h=>by simp[X1]at h,by kernel_rfl,λ_ _ _ h=>by simp[X1]at h,OO⟩
theorem w1:Di C0 X1:=Eh.w
theorem An {B:AZ}{rd:Option Nat}{F:AZ}{ops:Array Oper}{s:St}{Q:Exit->AZ->St->Prop}{i:Nat}(kb:Nat)(h:C7 C0 X1 kb ops (List.range ops.size) s True λacc s=>acc/\Q .normal F s)(hnd:EL ops.toList=true:=by kernel_rfl):AC C0 B rd F (.region i ops false) s Q:=LC w1 kb hnd h
theorem B0 {B:AZ}{rd:Option Nat}{F:AZ}{ops:Array Oper}{s:St}{Q:Exit->AZ->St->Prop}{i:Nat}(kb:Nat)(pre suf:List Nat)(h:Ed C0 X1 kb ops s.H s.n pre s.env [] True λacc env N=>C7 C0 X1 kb ops suf ⟨env,N++s.H,s.n+Es ops.toList⟩ acc λacc s=>acc/\Q .normal F s)(hc:(GD ops pre suf&&EL ops.toList)=true:=by kernel_rfl):AC C0 B rd F (.region i ops true) s Q:=mL w1 kb pre suf hc h
theorem DR {C:BH}{X:EV}(hX:FC C X)(n k:Nat){f:Nat}{ds:List D}{d:D}(h:(Gu X n k).1 f ds=some d:=by kernel_rfl):AI C f ds d:=Q8 hX n k h
theorem wI {z:Int}(h1 : -9223372036854775808<=z:=by omega)(h2:z<=9223372036854775807:=by omega):IntKind.i64.wrap z=z:=by
 have e1:(2:Int)^IntKind.i64.bits=18446744073709551616:=rfl;have e2:(2:Int)^(IntKind.i64.bits-1)=9223372036854775808:=rfl;unfold IntKind.wrap;simp only[e1,e2];have e3:IntKind.i64.signed=true:=rfl;rw[e3];simp only[Hs,HL];split<;>omega
theorem wN {n:Nat}(h:n<=9223372036854775807):IntKind.i64.wrap (n:Int)=n:=wI
set_option maxRecDepth 20000
theorem Qk (n:Int):AI C0 114 [i64 n] (CG n):=by
 refine Ac.walk w1 iD rfl λF=>?_
 refine fR 0 ?_;refine fR 100 ?_;refine AX ?_;exact AM rfl (AA.out (d:=CG n))
theorem QF (z:Int):AI C0 115 [CG z] (i64 (max (-1) (min 1 z))):=by
 refine Ac.walk w1 Wj rfl λF=>?_
 refine fR 0 ?_;refine fR 100 ?_;refine AX ?_;exact AM rfl AA.out
theorem oy (a b:Nat)(hb:0<b)(h1:a<=9223372036854775807)(h2:b<=9223372036854775807):AI C0 220 [CG a,CG b] (.tup [CG (a/b:Nat),CG (a%b:Nat)]):=by
 refine Ac.walk w1 S3 rfl λF=>?_
 refine fR 0 ?_;refine AC.seq ?_;refine sZ 100 ?_
 repeat'(first|(refine A7 (by exact Bu) ?_;refine BA ?_)|((refine Bn (λhb=>?_) (λhb=>?_))<;>(try simp only[BZ,Bl]at hb)<;>(try simp only[hb])<;>(refine BA ?_)))
 have e0:((a:Int) != -9223372036854775808)=true:=by first|(simp;done)|(simp;omega)
 rw[e0];refine AK ?_;refine AC.seq ?_;refine B0 200 [0,1,2,3,4,5,6,7,8,9,10] [11] ?_;refine A9 ?_;have q1:(a:Int).tdiv b=((a/b:Nat):Int):=rfl;have q2:(a:Int).tmod b=((a%b:Nat):Int):=rfl;have hq:a/b<=9223372036854775807:=BP (GH a b) h1;simp(disch:=assumption) only[q1,q2,wN];refine AC.seq ?_;refine fR 300 ?_;refine AK ?_;have e1:decide (((a%b:Nat):Int)<0)=false:=by first|(simp;done)|(simp;omega)
 rw[e1];refine Ag ?_;refine fR 500 ?_;refine AX ?_;exact AM rfl AA.out
theorem PY (a b:Int):AI C0 134 [Cy a b] (Av (b==1)):=by
 refine Ac.walk w1 Wo rfl λF=>?_
 refine fR 0 ?_;refine sZ 100 ?_
 repeat'(first|(refine A7 (by exact Bu) ?_;refine BA ?_)|((refine Bn (λhb=>?_) (λhb=>?_))<;>(try simp only[BZ,Bl]at hb)<;>(try simp only[hb])<;>(refine BA ?_)))
 refine AX ?_;exact AM rfl AA.out
theorem VX (n:Int)(h0 : -9223372036854775808<=n)(h1:n<=9223372036854775807):AI C0 162 [CG n] (str ⟨(Lib.itoa n).toArray⟩):=by
 refine Ac.walk w1 Ws rfl λF=>?_
 refine fR 0 ?_;refine AC.seq ?_;refine fR 100 ?_;refine AK ?_;refine fR 200 ?_;refine dI (eQ n h0 h1) ?_;refine AX ?_;exact AM rfl AA.out
theorem KV:∀(k u:Nat),u<10^(k+1)->(Lib.decDigits u).length<=k+1
 | 0,u,h=>by
  unfold Lib.decDigits;rw[dif_pos (by simpa using h)];simp
 |k+1,u,h=>by
  unfold Lib.decDigits;split
  ·simp
  ·rw[Bz]
   have:=KV k (u/10) (by
    rw[CT]at h;omega)
   simp only[By,Ir];omega
theorem ai (n:Int)(h0 : -9223372036854775808<=n)(h1:n<=9223372036854775807):(Lib.itoa n).length<=20:=by
 unfold Lib.itoa;split
 ·have:=KV 18 n.natAbs (by omega)
  simp only[By];omega
 ·have:=KV 18 n.toNat (by omega)
  omega
theorem Ig (a b:List UInt8):(⟨a.toArray⟩:ByteArray)++⟨b.toArray⟩=⟨(a++b).toArray⟩:=by
 apply ByteArray.ext;simp[ByteArray.data_append]
theorem M2 (l:List UInt8):(⟨l.toArray⟩:ByteArray).size=l.length:=by simp[ByteArray.size]
def Tg (a b:Int):List UInt8:=if b=1 then Lib.itoa a else Lib.itoa a++47::Lib.itoa b
theorem u5 (a b:Int)(ha0 : -9223372036854775808<=a)(ha1:a<=9223372036854775807)(hb0 : -9223372036854775808<=b)(hb1:b<=9223372036854775807):AI C0 106 [Cy a b] (str ⟨(Tg a b).toArray⟩):=by
 refine Ac.walk w1 Wh rfl λF=>?_
 refine fR 0 ?_;refine AC.seq ?_;refine fR 100 ?_;refine dI (PY a b) ?_;refine AK ?_
 (refine Bn (λh=>?_) (λh=>?_))<;>(try simp only[BZ,Bl]at h)<;>(try simp only[h])
 ·have h:b=1:=by simpa using h
  refine fR 200 ?_;refine dI (VX a ha0 ha1) ?_;refine AX ?_;refine AM ?_ AA.out;unfold Tg;rw[AH h]
 ·have h:¬b=1:=by simpa using h
  refine Ag ?_;refine AC.seq ?_;refine B0 300 [0,1,2,3,4,5,6] [7,8] ?_;refine A9 ?_;have ea:=ai a ha0 ha1;have eb:=ai b hb0 hb1;have sa:(⟨(Lib.itoa a).toArray⟩:ByteArray).size<=20:=by rw[M2];exact ea
  have sb:(⟨(Lib.itoa b).toArray⟩:ByteArray).size<=20:=by rw[M2];exact eb
  have s1:(⟨#[47]⟩:ByteArray).size=1:=rfl;have sc:((⟨(Lib.itoa a).toArray⟩:ByteArray)++⟨#[47]⟩).size=(⟨(Lib.itoa a).toArray⟩:ByteArray).size+(⟨#[47]⟩:ByteArray).size:=ByteArray.size_append;refine BN.same _ (VX a ha0 ha1) AJ ?_;refine A9 ?_;refine BN.same _ (VX b hb0 hb1) AJ ?_;refine A9 ?_;refine AX ?_;refine AM ?_ AA.out;unfold Tg;rw[AG h];have e47:(⟨#[47]⟩:ByteArray)=⟨([47]:List UInt8).toArray⟩:=rfl;rw[e47,Ig,Ig];simp
def Sm (z:Int):Prop:=-9223372036854775808<z/\z<9223372036854775808
theorem wS {z:Int}(h:Sm z):IntKind.i64.wrap z=z:=wI (by have:=h.1;omega) (by have:=h.2;omega)
theorem kV {z:Int}(h:Sm z):(z != -9223372036854775808)=true:=by
 have:=h.1
 simp only[bne_iff_ne,ne_eq];omega
theorem wU {z:Int}(h1:0<=z:=by omega)(h2:z<18446744073709551616:=by omega):IntKind.u64.wrap z=z:=by
 have e1:(2:Int)^IntKind.u64.bits=18446744073709551616:=rfl;unfold IntKind.wrap;simp only[e1];have e3:IntKind.u64.signed=false:=rfl;rw[e3];simp only[JV,Iu,if_false];omega
theorem WF (z:Int)(h:Sm z):AI C0 186 [i64 z] (u64 (z.natAbs:Nat)):=by
 refine Ac.walk w1 gI rfl λF=>?_
 obtain⟨h1,h2⟩:=h;refine fR 0 ?_;refine AC.seq ?_;refine fR 100 ?_;refine AK ?_
 (refine Bn (λh4=>?_) (λh4=>?_))<;>(try simp only[BZ,Bl]at h4)<;>(try simp only[h4])
 ·have hz:z<0:=by simpa using h4
  have e1:IntKind.i64.wrap (0-z)=(z.natAbs:Nat):=by rw[wI];omega
  have e2:IntKind.u64.wrap ((z.natAbs:Nat):Int)=(z.natAbs:Nat):=wU;refine sZ 200 ?_;refine HS (Ae e1 e2) ?_;refine AX ?_;exact AM rfl AA.out
 ·have hz:¬z<0:=by simpa using h4
  have e2:IntKind.u64.wrap z=(z.natAbs:Nat):=by rw[wU];omega
  refine Ag ?_;refine sZ 300 ?_;refine HS e2 ?_;refine AX ?_;exact AM rfl AA.out
theorem QT (z:Int)(h:Sm z):AI C0 160 [CG z] (CG (-z)):=by
 refine Ac.walk w1 Wq rfl λF=>?_
 refine fR 0 ?_;refine AC.seq ?_;refine sZ 100 ?_
 repeat'(first|(refine A7 (by exact Bu) ?_;refine BA ?_)|((refine Bn (λhb=>?_) (λhb=>?_))<;>(try simp only[BZ,Bl]at hb)<;>(try simp only[hb])<;>(refine BA ?_)))
 rw[kV h];refine AK ?_;have e1:IntKind.i64.wrap (0-z) = -z:=by
  have:=h.1;have:=h.2
  rw[wI];omega
 refine sZ 200 ?_;refine HS e1 ?_;refine AX ?_;exact AM rfl AA.out
theorem We (a b:Int)(hc:Sm (a+b)):AI C0 135 [CG a,CG b] (CG (a+b)):=by
 refine Ac.walk w1 S1 rfl λF=>?_
 refine fR 0 ?_;refine AC.seq ?_;refine sZ 100 ?_
 repeat'(first|(refine A7 (by exact Bu) ?_;refine BA ?_)|((refine Bn (λhb=>?_) (λhb=>?_))<;>(try simp only[BZ,Bl]at hb)<;>(try simp only[hb])<;>(refine BA ?_)))
 refine AK ?_;have e1:=wS hc;have e2:(decide (a+b>a)==decide (b>0))=true:=by
  rw[EW,ED];omega
 refine sZ 200 ?_;refine HS e1 ?_;refine fR 300 ?_;rw[e2];refine AK ?_;refine fR 400 ?_;refine AX ?_;exact AM rfl AA.out
theorem OE (x y:Nat)(hx:x<18446744073709551616)(hy:y<18446744073709551616):AI C0 185 [u64 x,u64 y] (.tup [u64 (x*y/18446744073709551616:Nat),u64 (x*y%18446744073709551616:Nat)]):=by
 refine⟨⟨_,_,Tryz.func185,rfl,by kernel_rfl⟩,λY w vs hG hnG hX hvs hr=>?_⟩;obtain⟨v1,v2,rfl⟩:∃a b,vs = #[a,b]:=by
  match vs,hvs with
  |⟨[a,b]⟩,_=>exact⟨a,b,rfl⟩
 have h0:=hr 0 _ rfl;have h1:=hr 1 _ rfl;simp at h0 h1;cases h0;cases h1;refine(Tryz.bits_Mul64 x y hx hy w).mono ?_;rintro e w' ⟨rfl,rfl⟩;exact⟨_,_,rfl,.refl _ _,rfl,.tup rfl λi d hd=>by
  match i with
  | 0=>simp at hd;subst hd;exact .prim _
  | 1=>simp at hd;subst hd;exact .prim _
  |n+2=>simp at hd⟩
theorem Jw (a b:Int)(hc:Sm (a*b))(ha:Sm a)(hb:Sm b):AI C0 133 [CG a,CG b] (CG (a*b)):=by
 refine Ac.walk w1 S0 rfl λF=>?_
 have hab:a.natAbs*b.natAbs=(a*b).natAbs:=(KJ a b).symm;have h1:a.natAbs*b.natAbs/18446744073709551616=0:=by rw[hab];have:=hc.1;have:=hc.2;omega
 have h2:a.natAbs*b.natAbs%18446744073709551616=(a*b).natAbs:=by rw[hab];have:=hc.1;have:=hc.2;omega
 have c0:=OE a.natAbs b.natAbs (by have:=ha.1;have:=ha.2;omega) (by have:=hb.1;have:=hb.2;omega);rw[h1,h2]at c0;refine fR 0 ?_;refine AC.seq ?_;refine sZ 100 ?_
 repeat'(first|(refine A7 (by exact Bu) ?_;refine BA ?_)|((refine Bn (λhb=>?_) (λhb=>?_))<;>(try simp only[BZ,Bl]at hb)<;>(try simp only[hb])<;>(refine BA ?_)))
 refine AK ?_;refine AC.seq ?_;refine B0 200 [0,1,2,3,4,5,6,7,8,9,10] [11] ?_;refine A9 ?_;refine BN.same _ (WF a ha) AJ ?_;refine A9 ?_;refine BN.same _ (WF b hb) AJ ?_;refine A9 ?_;refine BN.same _ (c0) AJ ?_;refine A9 ?_;refine sZ 300 ?_
 repeat'(first|(refine A7 (by exact Bu) ?_;refine BA ?_)|((refine Bn (λhb=>?_) (λhb=>?_))<;>(try simp only[BZ,Bl]at hb)<;>(try simp only[hb])<;>(refine BA ?_)))
 have e3:decide ((((a*b).natAbs:Nat):Int)<=9223372036854775807)=true:=Ax (by have:=hc.1;have:=hc.2;omega);rw[e3];refine AK ?_;refine AC.seq ?_;refine fR 400 ?_;refine AK ?_;have e4:IntKind.i64.wrap (((a*b).natAbs:Nat):Int)=((a*b).natAbs:Nat):=wN (by have:=hc.1;have:=hc.2;omega)
 (refine Bn (λh41=>?_) (λh41=>?_))<;>(try simp only[BZ,Bl]at h41)<;>(try simp only[h41])
 ·have e5:IntKind.i64.wrap (0-(((a*b).natAbs:Nat):Int)) = -((a*b).natAbs:Nat):=by
   rw[wI (by have:=hc.1;have:=hc.2;omega) (by have:=hc.1;have:=hc.2;omega)];omega
  have e6 : -(((a*b).natAbs:Nat):Int)=a*b:=by
   have hs:(a<0)≠(b<0):=by simpa using h41
   have:a*b<=0:=by
    by_cases h1:a<0
    ·have h2:¬b<0:=λh2=>hs (by simp[h1,h2])
     exact YV (by omega) (by omega)
    ·have h2:b<0:=DA λh2=>hs (by simp[h1,h2])
     exact YU (by omega) (by omega)
   omega
  refine sZ 500 ?_;refine HS (BG e4 e5 e6) ?_;refine AX ?_;exact AM rfl AA.out
 ·have e6:(((a*b).natAbs:Nat):Int)=a*b:=by
   have hs:¬((a<0)≠(b<0)):=by simpa using h41
   have:0<=a*b:=by
    by_cases h1:a<0
    ·have h2:b<0:=DA λh2=>hs (by simp[h1,h2])
     exact YT (by omega) (by omega)
    ·have h2:¬b<0:=λh2=>hs (by simp[h1,h2])
     exact Int.mul_nonneg (by omega) (by omega)
   omega
  rw[e6]at e4;refine Ag ?_;refine sZ 600 ?_;refine HS (Ae e6 e4) ?_;refine AX ?_;exact AM rfl AA.out
theorem uW {a b:Int}(hb:0<b):(a.tmod b<0->a.tdiv b-1=a/b/\a.tmod b+b=a%b)/\(¬a.tmod b<0->a.tdiv b=a/b/\a.tmod b=a%b):=by
 have h1:=Int.mul_tdiv_add_tmod a b;have h2:=Int.tmod_lt_of_pos a hb;have h3:=Int.lt_tmod_of_pos a hb;constructor
 ·intro h
  have:=(Int.ediv_emod_unique (a:=a) (r:=a.tmod b+b) (q:=a.tdiv b-1) hb).2 ⟨by rw[Int.mul_sub,Int.mul_one];omega,by omega,by omega⟩
  exact⟨this.1.symm,this.2.symm⟩
 ·intro h
  have:=(Int.ediv_emod_unique (a:=a) (r:=a.tmod b) (q:=a.tdiv b) hb).2 ⟨by omega,by omega,by omega⟩
  exact⟨this.1.symm,this.2.symm⟩
theorem fo {a b:Int}(ha:Sm a):Sm (a.tdiv b):=by
 have h:(a.tdiv b).natAbs<=a.natAbs:=by rw[Int.natAbs_tdiv];exact GH _ _
 have:=ha.1;have:=ha.2
 exact⟨by omega,by omega⟩
theorem aA (a b:Int)(hb0:0<b)(ha:Sm a)(hb:Sm b):AI C0 220 [CG a,CG b] (.tup [CG (a/b),CG (a%b)]):=by
 refine Ac.walk w1 S3 rfl λF=>?_
 obtain⟨t1,t2⟩:=uW (a:=a) hb0;have h2:=Int.tmod_lt_of_pos a hb0;have h3:=Int.lt_tmod_of_pos a hb0;have q1:=wS (fo (b:=b) ha);have q2:IntKind.i64.wrap (a.tmod b)=a.tmod b:=wI (by have:=hb.2;omega) (by have:=hb.2;omega);have q0:=fo (b:=b) ha;refine fR 0 ?_;refine AC.seq ?_;refine sZ 100 ?_
 repeat'(first|(refine A7 (by exact Bu) ?_;refine BA ?_)|((refine Bn (λhb=>?_) (λhb=>?_))<;>(try simp only[BZ,Bl]at hb)<;>(try simp only[hb])<;>(refine BA ?_)))
 rw[kV ha];refine AK ?_;refine AC.seq ?_;refine B0 200 [0,1,2,3,4,5,6,7,8,9,10] [11] ?_;refine A7 (by(refine BA ?_);(try simp only[q1,q2]);all_goals exact Bu) ?_;refine BA ?_
 try simp only[q1,q2]
 refine AC.seq ?_;refine fR 300 ?_;refine AK ?_
 (refine Bn (λh40=>?_) (λh40=>?_))<;>(try simp only[BZ,Bl]at h40)<;>(try simp only[h40])
 ·obtain⟨e1,e2⟩:=t1 (by simpa using h40)
  have q3:IntKind.i64.wrap (a.tdiv b-1)=a/b:=by rw[wI (by have:=q0.1;omega) (by have:=q0.2;omega)];exact e1
  have q4:IntKind.i64.wrap (a.tmod b+b)=a%b:=by rw[wI (by have:=hb.2;omega) (by have:=hb.2;omega)];exact e2
  refine B0 400 [0,1,2,3,4,5,6] [7] ?_;refine A7 (by(refine BA ?_);(try simp only[q3,q4]);all_goals exact Bu) ?_;refine BA ?_
  try simp only[q3,q4]
  refine fR 500 ?_;refine AX ?_;exact AM rfl AA.out
 ·obtain⟨e1,e2⟩:=t2 (by simpa using h40)
  refine Ag ?_;refine AC.seq ?_;rw[e1,e2];refine fI 500 ?_;refine AX ?_;exact AM rfl AA.out
theorem TU (a b:Int)(hb0:0<b)(ha:Sm a)(hb:Sm b):AI C0 184 [CG a,CG b] (CG (a/b)):=by
 refine Ac.walk w1 Wu rfl λF=>?_
 refine fR 0 ?_;refine AC.seq ?_;refine fR 100 ?_;refine dI (QF b) ?_;have e1:decide (max (-1) (min 1 b)<0)=false:=BY;rw[e1];refine AK ?_;refine Ag ?_;refine fR 300 ?_;refine dI (aA a b hb0 ha hb) ?_;refine fR 400 ?_;refine AX ?_;exact AM rfl AA.out
theorem g8 (z:Int)(h:Sm z):AI C0 219 [CG z] (CG (z.natAbs:Nat)):=by
 refine Ac.walk w1 Ww rfl λF=>?_
 refine fR 0 ?_;refine AC.seq ?_;refine fR 100 ?_;refine AK ?_
 (refine Bn (λh5=>?_) (λh5=>?_))<;>(try simp only[BZ,Bl]at h5)<;>(try simp only[h5])
 ·have hz:z<0:=by simpa using h5
  have e : -z=(z.natAbs:Nat):=by omega
  refine fR 200 ?_;refine dI (QT z h) ?_;rw[e];refine AX ?_;exact AM rfl AA.out
 ·have hz:¬z<0:=by simpa using h5
  have e:z=(z.natAbs:Nat):=by omega
  refine Ag ?_;refine fR 300 ?_;refine AX ?_;exact AM (by rw[<-e]) AA.out
theorem jI (a b:Int)(ha:Sm a)(hb:Sm b):AI C0 183 [CG a,CG b] (CG (Nat.gcd a.natAbs b.natAbs:Nat)):=by
 refine Ac.walk w1 Wt rfl λF=>?_
 have h1:a.natAbs<=9223372036854775807:=by have:=ha.1;have:=ha.2;omega
 have h2:b.natAbs<=9223372036854775807:=by have:=hb.1;have:=hb.2;omega
 refine fR 0 ?_;refine AC.seq ?_;refine B0 100 [0,1,2] [3,4,5] ?_;refine A9 ?_;refine BN.same _ (g8 a ha) AJ ?_;refine A9 ?_;refine dI (g8 b hb) ?_;refine AC.seq ?_;refine AC.block ?_;refine AC.loop (α:=Nat×Nat×Nat) (λp=>⟨[(2,.optr 0 0 2 0 0),(3,.optr 1 1 2 0 0),(4,.optr 2 2 2 0 0)],[⟨2,2,109,2,[CG 0]⟩,⟨1,1,109,2,[CG p.2.1]⟩,⟨0,0,109,2,[CG p.1]⟩],p.2.2⟩) (λp=>p.2.1)
  (λp=>Nat.gcd p.1 p.2.1=Nat.gcd a.natAbs b.natAbs/\p.1<=9223372036854775807/\p.2.1<=9223372036854775807) (a.natAbs,b.natAbs,_) ⟨rfl,h1,h2⟩ AN ?_
 rintro⟨x,y,n⟩ F ⟨g1,g2,g3⟩;dsimp only at g1 g2 g3⊢;refine AC.seq ?_;refine fR 200 ?_;refine dI (QF y) ?_;refine AK ?_
 (refine Bn (λh13=>?_) (λh13=>?_))<;>(try simp only[BZ,Bl]at h13)<;>(try simp only[h13])
 ·have hy:0<y:=by
   simp at h13;omega
  refine Ag ?_;refine AC.block ?_;refine fR 300 ?_;refine dI (oy x y hy g2 g3) ?_;refine PE w1 400 [0,1,2] [3] 2 [0] (0) (by kernel_rfl) (by kernel_rfl) ?_;refine A9 ?_;refine A9 ?_;have hm:x%y<y:=CJ x hy;refine⟨(y,x%y,_),⟨?_,g3,by dsimp only;omega⟩,hm,AN⟩;rw[<-g1,MZ x y,Nat.gcd_rec y x,MZ]
 ·have hy:y=0:=by
   apply DA;intro h0;simp at h13;omega
  subst hy;refine CM ?_;refine fR 500 ?_;refine AX ?_;refine AM ?_ AA.out;rw[<-g1,Nat.gcd_zero_right]
theorem Sr (a b:Int)(hb0:0<b)(ha:Sm a)(hb:Sm b):AI C0 132 [CG a,CG b] (Cy (a/(Nat.gcd a.natAbs b.natAbs:Nat)) (b/(Nat.gcd a.natAbs b.natAbs:Nat))):=by
 refine Ac.walk w1 Sz rfl λF=>?_
 have hg:0<Nat.gcd a.natAbs b.natAbs:=Nl _ (by omega);have hgl:Nat.gcd a.natAbs b.natAbs<=b.natAbs:=RI _ (by omega);have hgs:Sm (Nat.gcd a.natAbs b.natAbs:Nat):=⟨by omega,by have:=hb.2;omega⟩
 refine fR 0 ?_;refine AC.seq ?_;refine fR 100 ?_;refine dI (QF b) ?_;have e1:decide (max (-1) (min 1 b)<0)=false:=BY;rw[e1];refine AK ?_;refine Ag ?_;refine AC.seq ?_;refine sZ 300 ?_
 repeat'(first|(refine A7 (by exact Bu) ?_;refine BA ?_)|((refine Bn (λhb=>?_) (λhb=>?_))<;>(try simp only[BZ,Bl]at hb)<;>(try simp only[hb])<;>(refine BA ?_)))
 refine AK ?_
 (refine Bn (λhb1=>?_) (λhb1=>?_))<;>(try simp only[BZ,Bl]at hb1)<;>(try simp only[hb1])
 ·have hb1:b=1:=by simpa using hb1
  subst hb1;refine fR 400 ?_;refine AX ?_;refine AM ?_ AA.out
  have:Nat.gcd a.natAbs (Int.natAbs 1)=1:=Nat.gcd_one_right _
  rw[this];simp
 ·refine Ag ?_
  refine fR 500 ?_;refine dI (jI a b ha hb) ?_;refine AC.seq ?_;refine B0 600 [0,1,2,3,4] [5,6,7] ?_;refine A9 ?_;refine BN.same _ (TU a (Nat.gcd a.natAbs b.natAbs:Nat) (by omega) ha hgs) AJ ?_;refine A9 ?_;refine dI (TU b (Nat.gcd a.natAbs b.natAbs:Nat) (by omega) hb hgs) ?_;refine AX ?_;exact AM rfl AA.out
structure Q2 where
 n:Int
 d:Int
abbrev Q2.D (q:Q2):D:=Cy q.n q.d
def KQ (a b:Int):Q2:=⟨a/(Nat.gcd a.natAbs b.natAbs:Nat),b/(Nat.gcd a.natAbs b.natAbs:Nat)⟩
theorem bn (z:Int):AI C0 113 [CG z] (Cy z 1):=by
 refine Ac.walk w1 Wi rfl λF=>?_
 refine fR 0 ?_;refine AC.seq ?_;refine B0 100 [0,1] [2,3] ?_;refine A9 ?_;refine BN.same _ (Qk 1) AJ ?_;refine A9 ?_;refine AX ?_;exact AM rfl AA.out
theorem lI (z:Int):AI C0 60 [i64 z] (Cy z 1):=by
 refine Ac.walk w1 jn rfl λF=>?_
 refine fR 0 ?_;refine fR 100 ?_;refine dI (Qk z) ?_;refine dI (bn z) ?_;refine AX ?_;exact AM rfl AA.out
def O4 (p q:Q2):Q2:=if p.d=1/\q.d=1 then⟨p.n+q.n,1⟩else KQ (p.n*q.d+q.n*p.d) (p.d*q.d)
theorem dV (p q:Q2)(hp:0<p.d)(hq:0<q.d)(h1:Sm p.n)(h2:Sm q.n)(h3:Sm p.d)(h4:Sm q.d)(h5:Sm (p.n*q.d))(h6:Sm (q.n*p.d))(h7:Sm (p.n*q.d+q.n*p.d))(h8:Sm (p.d*q.d)):
  AI C0 86 [p.D,q.D] (O4 p q).D:=by
 refine Ac.walk w1 Xq rfl λF=>?_
 obtain⟨a,b⟩:=p;obtain⟨c,d⟩:=q;dsimp only at*;unfold O4 Q2.D;dsimp only;have hbd:0<b*d:=Int.mul_pos hp hq
 by_cases e1:b=1
 ·have fb:(b==1)=true:=by rw[e1];rfl
  have c1:=PY a b;rw[fb]at c1
  by_cases e2:d=1
  ·have fd:(d==1)=true:=by rw[e2];rfl
   have c2:=PY c d;rw[fd]at c2;rw[AH ⟨e1,e2⟩];have h7':Sm (a+c):=by rw[e1,e2]at h7;simpa using h7
   refine fR 0 ?_;refine AC.seq ?_;refine fR 100 ?_;refine dI c1 ?_;dsimp only[J5];refine A9 ?_;dsimp only[J5];refine A9 ?_;refine dI c2 ?_;refine AK ?_;refine fR 200 ?_;refine dI (We a c h7') ?_;refine dI (bn (a+c)) ?_;refine AX ?_;exact AM rfl AA.out
  ·have fd:(d==1)=false:=by simpa using e2
   have c2:=PY c d;rw[fd]at c2;rw[AG λh=>e2 h.2];refine fR 0 ?_;refine AC.seq ?_;refine fR 100 ?_;refine dI c1 ?_;dsimp only[J5];refine A9 ?_;dsimp only[J5];refine A9 ?_;refine dI c2 ?_;refine AK ?_;refine Ag ?_;refine AC.seq ?_;refine B0 300 [0,1,2,3,4,5,6,7,8,9,10,11,12,13,14] [15,16,17] ?_;refine A9 ?_;refine BN.same _ (Jw a d h5 h1 h4) AJ ?_;refine A9 ?_;refine BN.same _ (Jw c b h6 h2 h3) AJ ?_;refine A9 ?_;refine BN.same _ (We (a*d) (c*b) h7) AJ ?_;refine A9 ?_;refine dI (Jw b d h8 h3 h4) ?_;refine dI (Sr (a*d+c*b) (b*d) hbd h7 h8) ?_;refine AX ?_;exact AM rfl AA.out
 ·have fb:(b==1)=false:=by simpa using e1
  have c1:=PY a b;rw[fb]at c1;rw[AG λh=>e1 h.1];refine fR 0 ?_;refine AC.seq ?_;refine fR 100 ?_;refine dI c1 ?_;dsimp only[Oq];refine A9 ?_;dsimp only[Oq];refine A9 ?_;refine AK ?_;refine Ag ?_;refine AC.seq ?_;refine B0 300 [0,1,2,3,4,5,6,7,8,9,10,11,12,13,14] [15,16,17] ?_;refine A9 ?_;refine BN.same _ (Jw a d h5 h1 h4) AJ ?_;refine A9 ?_;refine BN.same _ (Jw c b h6 h2 h3) AJ ?_;refine A9 ?_;refine BN.same _ (We (a*d) (c*b) h7) AJ ?_;refine A9 ?_;refine dI (Jw b d h8 h3 h4) ?_;refine dI (Sr (a*d+c*b) (b*d) hbd h7 h8) ?_;refine AX ?_;exact AM rfl AA.out
theorem dP (p q:Q2)(hp:0<p.d)(hq:0<q.d)(h1:Sm p.n)(h2:Sm q.n)(h3:Sm p.d)(h4:Sm q.d)(h5:Sm (p.n*q.n))(h8:Sm (p.d*q.d)):
  AI C0 85 [p.D,q.D] (KQ (p.n*q.n) (p.d*q.d)).D:=by
 refine Ac.walk w1 Xp rfl λF=>?_
 obtain⟨a,b⟩:=p;obtain⟨c,d⟩:=q;unfold Q2.D;dsimp only at*;have hbd:0<b*d:=Int.mul_pos hp hq;refine fR 0 ?_;refine AC.seq ?_;refine B0 100 [0,1,2,3,4,5,6,7,8] [9,10,11] ?_;refine A9 ?_;refine BN.same _ (Jw a c h5 h1 h2) AJ ?_;refine A9 ?_;refine dI (Jw b d h8 h3 h4) ?_;refine dI (Sr (a*c) (b*d) hbd h5 h8) ?_;refine AX ?_;exact AM rfl AA.out
def O9 (p:Q2):Q2:=⟨-p.n,p.d⟩
theorem dQ (p:Q2)(h:Sm p.n):AI C0 101 [p.D] (O9 p).D:=by
 refine Ac.walk w1 Wg rfl λF=>?_
 obtain⟨a,b⟩:=p;unfold O9 Q2.D;dsimp only at*;refine fR 0 ?_;refine AC.seq ?_;refine B0 100 [0,1,2,3,4] [5,6] ?_;refine A9 ?_;refine BN.same _ (QT a h) AJ ?_;refine A9 ?_;refine AX ?_;exact AM rfl AA.out
theorem XX {z:Int}(h:Sm z):Sm (-z):=⟨by have:=h.2;omega,by have:=h.1;omega⟩
theorem uH (p q:Q2)(hp:0<p.d)(hq:0<q.d)(h1:Sm p.n)(h2:Sm q.n)(h3:Sm p.d)(h4:Sm q.d)(h5:Sm (p.n*q.d))(h6:Sm (-q.n*p.d))(h7:Sm (p.n*q.d + -q.n*p.d))(h8:Sm (p.d*q.d)):
  AI C0 151 [p.D,q.D] (O4 p (O9 q)).D:=by
 refine Ac.walk w1 Wp rfl λF=>?_
 have c1:=dQ q h2;have c2:=dV p (O9 q) hp hq h1 (XX h2) h3 h4 h5 h6 h7 h8;obtain⟨a,b⟩:=p;obtain⟨c,d⟩:=q;unfold Q2.D at*;dsimp only at*;refine fR 0 ?_;refine AC.seq ?_;refine B0 100 [0,1,2] [3,4] ?_;refine A9 ?_;refine BN.same _ (c1) AJ ?_;refine A9 ?_;refine dI c2 ?_;refine AX ?_;exact AM rfl AA.out
def HH (p:Q2):Q2:=if p.n<0 then KQ (-p.d) (-p.n)else KQ p.d p.n
theorem s6 (a b:Int)(hb0:b≠0)(ha:Sm a)(hb:Sm b):AI C0 132 [CG a,CG b] (if b<0 then KQ (-a) (-b)else KQ a b).D:=by
 by_cases hn:b<0
 ·rw[AH hn]
  refine Ac.walk w1 Sz rfl λF=>?_
  unfold KQ Q2.D;dsimp only;have ha':=XX ha;have hb':=XX hb;have q1:=QT a ha;have q2:=QT b hb;have hb1:0 < -b:=by omega
  have e1:decide (max (-1) (min 1 b)<0)=true:=BV;have q3:=QF b;generalize -a=x at*;generalize -b=y at*;have hg:0<Nat.gcd x.natAbs y.natAbs:=Nl _ (by omega);have hgl:Nat.gcd x.natAbs y.natAbs<=y.natAbs:=RI _ (by omega);have hgs:Sm (Nat.gcd x.natAbs y.natAbs:Nat):=⟨by omega,by have:=hb'.2;omega⟩
  refine fR 0 ?_;refine AC.seq ?_;refine fR 100 ?_;refine dI q3 ?_;rw[e1];refine AK ?_;refine B0 200 [0,1,2] [3,4,5] ?_;refine A9 ?_;refine BN.same _ (q1) AJ ?_;refine A9 ?_;refine dI q2 ?_;refine AC.seq ?_;refine sZ 300 ?_
  repeat'(first|(refine A7 (by exact Bu) ?_;refine BA ?_)|((refine Bn (λhb=>?_) (λhb=>?_))<;>(try simp only[BZ,Bl]at hb)<;>(try simp only[hb])<;>(refine BA ?_)))
  refine AK ?_
  (refine Bn (λhb2=>?_) (λhb2=>?_))<;>(try simp only[BZ,Bl]at hb2)<;>(try simp only[hb2])
  ·have hb1:y=1:=by simpa using hb2
   subst hb1;refine fR 400 ?_;refine AX ?_;refine AM ?_ AA.out
   have:Nat.gcd x.natAbs (Int.natAbs 1)=1:=Nat.gcd_one_right _
   rw[this];simp
  ·refine Ag ?_
   refine fR 500 ?_;refine dI (jI x y ha' hb') ?_;refine AC.seq ?_;refine B0 600 [0,1,2,3,4] [5,6,7] ?_;refine A9 ?_;refine BN.same _ (TU x (Nat.gcd x.natAbs y.natAbs:Nat) (by omega) ha' hgs) AJ ?_;refine A9 ?_;refine dI (TU y (Nat.gcd x.natAbs y.natAbs:Nat) (by omega) hb' hgs) ?_;refine AX ?_;exact AM rfl AA.out
 ·rw[AG hn]
  exact Sr a b (by omega) ha hb
theorem dL (p:Q2)(h0:p.n≠0)(h1:Sm p.n)(h2:Sm p.d):AI C0 116 [p.D] (HH p).D:=by
 refine Ac.walk w1 Wl rfl λF=>?_
 have c1:=s6 p.d p.n h0 h2 h1;obtain⟨a,b⟩:=p;unfold HH Q2.D at*;dsimp only at*;refine fR 0 ?_;refine fR 100 ?_;refine dI c1 ?_;refine AX ?_;exact AM rfl AA.out
theorem uB (p q:Q2)(h0:q.n≠0)(hp:0<p.d)(hq:0<(HH q).d)(h1:Sm p.n)(h2:Sm q.n)(h3:Sm p.d)(h4:Sm q.d)(g1:Sm (HH q).n)(g2:Sm (HH q).d)(h5:Sm (p.n*(HH q).n))(h8:Sm (p.d*(HH q).d)):
  AI C0 64 [p.D,q.D] (KQ (p.n*(HH q).n) (p.d*(HH q).d)).D:=by
 refine Ac.walk w1 Xo rfl λF=>?_
 have c1:=dL q h0 h2 h4;have c2:=dP p (HH q) hp hq h1 g1 h3 g2 h5 h8;generalize HH q=r at*;obtain⟨a,b⟩:=p;obtain⟨c,d⟩:=q;obtain⟨e,f⟩:=r;unfold Q2.D at*;dsimp only at*;refine fR 0 ?_;refine AC.seq ?_;refine B0 100 [0,1,2] [3,4] ?_;refine A9 ?_;refine BN.same _ (c1) AJ ?_;refine A9 ?_;refine dI c2 ?_;refine AX ?_;exact AM rfl AA.out
def D6 (a b:Int):Int:=if a<b then -1 else if b<a then 1 else 0
theorem eG (a b:Int):AI C0 236 [CG a,CG b] (i64 (D6 a b)):=by
 refine Ac.walk w1 Wx rfl λF=>?_
 unfold D6;refine fR 0 ?_;refine AC.seq ?_;refine sZ 100 ?_
 repeat'(first|(refine A7 (by exact Bu) ?_;refine BA ?_)|((refine Bn (λhb=>?_) (λhb=>?_))<;>(try simp only[BZ,Bl]at hb)<;>(try simp only[hb])<;>(refine BA ?_)))
 refine AK ?_;refine AC.seq ?_;refine AC.block ?_;refine fR 200 ?_;refine AK ?_
 (refine Bn (λh13=>?_) (λh13=>?_))<;>(try simp only[BZ,Bl]at h13)<;>(try simp only[h13])
 ·have h1:a<b:=by simpa using h13
  rw[AH h1];refine fR 300 ?_;refine AX ?_;exact AM rfl AA.out
 ·have h1:¬a<b:=by simpa using h13
  rw[AG h1];refine fR 400 ?_;refine AK ?_
  (refine Bn (λh19=>?_) (λh19=>?_))<;>(try simp only[BZ,Bl]at h19)<;>(try simp only[h19])
  ·have h2:b<a:=by simpa using h19
   rw[AH h2];refine fR 500 ?_;refine AX ?_;exact AM rfl AA.out
  ·have h2:¬b<a:=by simpa using h19
   rw[AG h2];refine Ag ?_;refine fR 600 ?_;refine AX ?_;exact AM rfl AA.out
theorem uA (p q:Q2)(h1:Sm p.n)(h2:Sm q.n)(h3:Sm p.d)(h4:Sm q.d)(h5:Sm (p.n*q.d))(h6:Sm (q.n*p.d)):AI C0 198 [p.D,q.D] (i64 (D6 (p.n*q.d) (q.n*p.d))):=by
 refine Ac.walk w1 Wv rfl λF=>?_
 obtain⟨a,b⟩:=p;obtain⟨c,d⟩:=q;unfold Q2.D;dsimp only at*;refine fR 0 ?_;refine AC.seq ?_;refine B0 100 [0,1,2,3,4,5,6,7,8] [9,10,11] ?_;refine A9 ?_;refine BN.same _ (Jw a d h5 h1 h4) AJ ?_;refine A9 ?_;refine dI (Jw c b h6 h2 h3) ?_;refine dI (eG (a*d) (c*b)) ?_;refine AX ?_;exact AM rfl AA.out
theorem rK (p:Q2):AI C0 61 [p.D] (i64 (max (-1) (min 1 p.n))):=by
 refine Ac.walk w1 Xn rfl λF=>?_
 obtain⟨a,b⟩:=p;unfold Q2.D;dsimp only;refine fR 0 ?_;refine fR 100 ?_;refine dI (QF a) ?_;refine AX ?_;exact AM rfl AA.out
theorem TB {n k:Nat}(h:Nat.blt n k=true):n<k:=by rw[Nat.blt_eq]at h;exact h
def Cq:Int->Bool
 | .ofNat n=>Nat.blt n 9223372036854775808
 | .negSucc n=>Nat.blt n 9223372036854775807
theorem Cn {z:Int}(h:Cq z=true):Sm z:=by
 cases z with
 |ofNat n=>have:=TB h;exact⟨by rw[LI];omega,by rw[LI];omega⟩
 |negSucc n=>have:=TB h;exact⟨by omega,by omega⟩
def LM:Int->Bool
 | .ofNat n=>Nat.blt 0 n
 | .negSucc _=>false
theorem Lv {z:Int}(h:LM z=true):0<z:=by
 cases z with
 |ofNat n=>have:=TB h;rw[LI];omega
 |negSucc n=>cases h
def Yh:Int->Bool
 | .ofNat n=>Nat.blt 0 n
 | .negSucc _=>true
theorem iS {z:Int}(h:Yh z=true):z≠0:=by
 cases z with
 |ofNat n=>have:=TB h;rw[LI];omega
 |negSucc n=>omega
def QE:D->Option Q2
 | .agg [.prim (.int .i64 a),.prim (.slice none 0 0),.prim (.int .i64 b),.prim (.slice none 0 0)]=>some ⟨a,b⟩
 |_=>none
theorem Wf {d:D}{q:Q2}(h:QE d=some q):d=q.D:=by
 unfold QE at h;split at h
 ·cases h;rfl
 ·cases h
def Xw (p q:Q2):Bool:=LM p.d&&LM q.d&&Cq p.n&&Cq q.n&&Cq p.d&&Cq q.d&&Cq (p.n*q.d)&&Cq (q.n*p.d)&&Cq (p.n*q.d+q.n*p.d)&&Cq (p.d*q.d)
def Xk (p q:Q2):Bool:=LM p.d&&LM q.d&&Cq p.n&&Cq q.n&&Cq p.d&&Cq q.d&&Cq (p.n*q.d)&&Cq (-q.n*p.d)&&Cq (p.n*q.d + -q.n*p.d)&&Cq (p.d*q.d)
def Xv (p q:Q2):Bool:=LM p.d&&LM q.d&&Cq p.n&&Cq q.n&&Cq p.d&&Cq q.d&&Cq (p.n*q.n)&&Cq (p.d*q.d)
def kD (p q:Q2):Bool:=Cq p.n&&Cq q.n&&Cq p.d&&Cq q.d&&Cq (p.n*q.d)&&Cq (q.n*p.d)
def kG (p q r:Q2):Bool:=Yh q.n&&LM p.d&&LM r.d&&Cq p.n&&Cq q.n&&Cq p.d&&Cq q.d&&Cq r.n&&Cq r.d&&Cq (p.n*r.n)&&Cq (p.d*r.d)
def lE (p q:Q2):Q2:=O4 p (O9 q)
def l5 (p q:Q2):Q2:=KQ (p.n*q.n) (p.d*q.d)
theorem vV {p q:Q2}(hb:Xk p q=true):AI C0 151 [p.D,q.D] (lE p q).D:=by
 simp only[Xk,BM]at hb;obtain⟨⟨⟨⟨⟨⟨⟨⟨⟨b1,b2⟩,b3⟩,b4⟩,b5⟩,b6⟩,b7⟩,b8⟩,b9⟩,b10⟩:=hb;exact uH p q (Lv b1) (Lv b2) (Cn b3) (Cn b4) (Cn b5) (Cn b6) (Cn b7) (Cn b8) (Cn b9) (Cn b10)
theorem d7v {p q:Q2}(hb:Xw p q=true):AI C0 86 [p.D,q.D] (O4 p q).D:=by
 simp only[Xw,BM]at hb;obtain⟨⟨⟨⟨⟨⟨⟨⟨⟨b1,b2⟩,b3⟩,b4⟩,b5⟩,b6⟩,b7⟩,b8⟩,b9⟩,b10⟩:=hb;exact dV p q (Lv b1) (Lv b2) (Cn b3) (Cn b4) (Cn b5) (Cn b6) (Cn b7) (Cn b8) (Cn b9) (Cn b10)
theorem zw {p q:Q2}(hb:Xv p q=true):AI C0 85 [p.D,q.D] (l5 p q).D:=by
 simp only[Xv,BM]at hb;obtain⟨⟨⟨⟨⟨⟨⟨b1,b2⟩,b3⟩,b4⟩,b5⟩,b6⟩,b7⟩,b8⟩:=hb;exact dP p q (Lv b1) (Lv b2) (Cn b3) (Cn b4) (Cn b5) (Cn b6) (Cn b7) (Cn b8)
def MM (b:Bool)(d:D):Option D:=match b with
 |true=>some d
 |false=>none
theorem M6 {b:Bool}{d d':D}(h:MM b d=some d'):b=true/\d=d':=by
 cases b
 ·cases h
 ·cases h;exact⟨rfl,rfl⟩
abbrev BB:Nat:=18446744073709551616
def Ad (n:Nat):List Nat:=if _h:n=0 then[]else(n%BB)::Ad (n/BB)
termination_by n
decreasing_by exact It (ER _h) (by decide)
def AT:List Nat->Nat
 | []=>0
 |a::l=>a+BB*AT l
def Wd (l:List Nat):Prop:=∀a∈l,a<BB
theorem Gg:Ad 0=[]:=by unfold Ad;rfl
theorem G1 {n:Nat}(h:n≠0):Ad n=(n%BB)::Ad (n/BB):=by rw[Ad,dif_neg h]
theorem F3 (n:Nat):Wd (Ad n):=by
 induction n using Nat.strongRecOn with
 |ind n ih=>
  by_cases h:n=0
  ·subst h;rw[Gg];intro a ha;cases ha
  ·rw[G1 h]
   intro a ha;rcases Aw.1 ha with rfl|ha
   ·exact CJ _ (by decide)
   ·exact ih _ (It (ER h) (by decide)) a ha
theorem Fi (n:Nat):AT (Ad n)=n:=by
 induction n using Nat.strongRecOn with
 |ind n ih=>
  by_cases h:n=0
  ·subst h;rw[Gg];rfl
  ·rw[G1 h,AT,ih _ (It (ER h) (by decide))]
   exact FX n BB
theorem LU (l m:List Nat):AT (l++m)=AT l+BB^l.length*AT m:=by
 induction l with
 |nil=>simp[AT]
 |cons a l ih=>
  simp only[Gr,AT,ih,By,CT,BQ];rw[Bd (BB^l.length) BB,CE,FG]
theorem Wd.tail {a:Nat}{l:List Nat}(h:Wd (a::l)):Wd l:=λb hb=>h b (B6 _ hb)
theorem Wd.head {a:Nat}{l:List Nat}(h:Wd (a::l)):a<BB:=h a CF
theorem Wd.append {l m:List Nat}(h:Wd l)(k:Wd m):Wd (l++m):=λa ha=>(Bs.1 ha).elim (h a) (k a)
theorem Wd.take {l:List Nat}(h:Wd l)(n:Nat):Wd (l.take n):=λa ha=>h a (HK ha)
theorem Id:∀ {l:List Nat},Wd l->AT l<BB^l.length
 | [],_=>by simp[AT]
 |a::l,h=>by
  have h1:=Id h.tail;have h2:=h.head;rw[AT,By,CT]
  calc a+BB*AT l<BB+BB*AT l:=by omega
   _=BB*(AT l+1):=by rw[BQ,EQ,MY]
   _<=BB*BB^l.length:=Cj _ h1
   _=_:=Bd _ _
theorem Z3:∀ {l:List Nat},Wd l->(∀a∈l.getLast?,a≠0)->Ad (AT l)=l
 | [],_,_=>Gg
 | [a],h,hl=>by
  have ha:a≠0:=hl a (by simp);have hb:=h.head;rw[show AT [a]=a from by simp[AT],G1 ha,GG hb,Iw hb,Gg]
 |a::b::l,h,hl=>by
  have ih:=Z3 h.tail (λx hx=>hl x (by simpa using hx));have hb:=h.head;have hv:AT (b::l)≠0:=by
   intro h0;rw[h0,Gg]at ih;cases ih
  have e1:AT (a::b::l)%BB=a:=by rw[AT,UJ,GG hb]
  have e2:AT (a::b::l)/BB=AT (b::l):=by
   rw[AT,UE _ _ (by decide),Iw hb,BX]
  have hne:AT (a::b::l)≠0:=by
   intro h0;rw[h0]at e2;exact hv (by rw[<-e2];rfl)
  rw[G1 hne,e1,e2,ih]
theorem Rp:∀(k:Nat),AT (List.replicate k 0)=0
 | 0=>rfl
 |k+1=>by rw[List.replicate_succ,AT,Rp k,FJ]
theorem Zi {l:List Nat}(h:Wd l)(n:Nat)(hz:∀j,n<=j->∀a,l[j]?=some a->a=0)(hn:n<=l.length)(hl:∀m,n=m+1->∀a,l[m]?=some a->a≠0):l.take n=Ad (AT l):=by
 have hd:l.drop n=List.replicate (l.length-n) 0:=by
  refine RH λi=>?_
  rw[Gb,List.getElem?_replicate];split
  ·rename_i hi
   rw[Ce]
   congr 1
   exact hz _ (Nat.le_add_right _ _) _ (Ce)
  ·exact D3 (by omega)
 have hv:AT l=AT (l.take n):=by
  conv=>lhs;rw[<-GL n l]
  rw[LU,hd,Rp,FJ,Dm]
 rw[hv];refine(Z3 (h.take n) λa ha=>?_).symm
 match n,hl,hn with
 | 0,_,_=>simp at ha
 |m+1,hl,hn=>
  refine hl m rfl a ?_;rw[List.getLast?_eq_getElem?,Be,FW hn,FH,DJ]at ha;simpa using ha
abbrev AS (n:Nat):D:=u64 (n:Int)
def wL (l:List Nat):D:=.sl false 1 (l.map AS)
def wD (n:Nat):D:=wL (Ad n)
theorem Ll (l:List Nat):CI (wL l):=.sl λe he d hd=>by
 obtain⟨a,_,rfl⟩:=CL.1 he;simp only[D.cells,Aw,Ds,or_false]at hd;subst hd;exact .prim _
instance  (l:List Nat):AA (wL l):=⟨Ll l⟩
instance  (n:Nat):AA (wD n):=⟨Ll _⟩
theorem Dj {l:List Nat}{i a:Nat}(h:l[i]?=some a):(l.map AS)[i]?=some (AS a):=by rw[BT,h];rfl
theorem trim_ok (l:List Nat)(h:Wd l)(hlen:l.length<4000000000):AI C0 222 [wL l] (wD (AT l)):=by
 refine Ac.walk w1 ic rfl λF=>?_
 unfold wL;refine sR 0 ?_;refine sR 100 ?_;refine AC.seq ?_;refine AC.block ?_;have hml:((l.map AS).length:Int)=(l.length:Int):=by rw[Al]
 rw[hml];refine AC.loop (α:=Nat×Nat) (λp=>⟨[(0,.sl false 1 (l.map AS)),(3,i64 p.1)],[],p.2⟩) (λp=>p.1)
  (λp=>p.1<=l.length/\∀j,p.1<=j->∀a,l[j]?=some a->a=0) (l.length,_) ⟨Am _,λj hj a ha=>by rw[D3 hj]at ha;cases ha⟩ AN ?_
 rintro⟨n,m⟩ F ⟨h1,h2⟩;dsimp only at h1 h2⊢;refine AC.seq ?_;refine AC.seq ?_;rcases n with _|n
 ·have z0:decide (((0:Nat):Int)>0)=false:=rfl
  refine An 200 ?_;refine AF z0 ?_;refine AK ?_;refine CM ?_;have ht:=Zi h 0 h2 (Bg _) (by simp);refine sR 400 ?_;refine AX ?_;refine AM (d0:=wL (l.take 0)) ?_ AA.out;rw[ht];rfl
 ·obtain⟨a,ha⟩:∃a,l[n]?=some a:=⟨l[n],Ce⟩
  have hx:=Dj ha;have z1:decide (((n+1:Nat):Int)>0)=true:=BV;have w2:IntKind.i64.wrap (((n+1:Nat):Int)-1)=(n:Int):=by rw[wI];omega
  refine An 200 ?_;refine AF (Ae z1 w2) ?_;refine CN z1 hx ?_;refine AF (Ae z1 w2) ?_;refine AK ?_
  (refine Bn (λh15=>?_) (λh15=>?_))<;>(try simp only[BZ,Bl]at h15)<;>(try simp only[h15])
  ·have ha0:a=0:=by
    have:(a:Int)=0:=by simpa using h15
    omega
   subst ha0;refine Ag ?_;refine AC.block ?_;refine An 300 ?_;refine AW w2 ?_;refine⟨(n,_),⟨by dsimp only;omega,λj hj b hb=>?_⟩,by dsimp only;omega,AN⟩;rcases Nat.eq_or_lt_of_le hj with rfl|hlt
   ·exact GJ (hb.symm.trans ha)
   ·exact h2 j hlt b hb
  ·have ha0:a≠0:=by
    intro h0;subst h0;simp at h15
   refine CM ?_;have ht:=Zi h (n+1) h2 h1 (λm hm b hb=>by
    obtain rfl:n=m:=by omega
    rw[ha]at hb;cases hb;exact ha0)
   refine sR 400 ?_;refine AX ?_;have e4:List.take ((((n+1:Nat):Int)).toNat-0) (List.drop 0 (l.map AS))=(l.take (n+1)).map AS:=by
    rw[List.map_take];simp
   rw[e4];refine AM (d0:=wL (l.take (n+1))) ?_ AA.out;rw[ht];rfl
theorem IY (b:Nat):∀a,b<=a->(Ad b).length<=(Ad a).length:=by
 induction b using Nat.strongRecOn with
 |ind b ih=>
  intro a h
  by_cases hb:b=0
  ·subst hb;rw[Gg];exact Bg _
  ·rw[G1 hb,G1 (n:=a) (by omega),By,By]
   exact Nat.succ_le_succ (ih _ (It (ER hb) (by decide)) _ (Nat.div_le_div_right h))
theorem Yw {a b:Nat}(h:(Ad a).length<(Ad b).length):a<b:=by
 rcases BL a b with h1|h1
 ·exact h1
 ·have:=IY b a h1;omega
theorem Ln {l:List Nat}{k a:Nat}(h:l[k]?=some a):AT l=AT (l.take k)+BB^k*(a+BB*AT (l.drop (k+1))):=by
 have hk:k<l.length:=(BR.1 h).1
 conv=>lhs;rw[<-GL k l]
 rw[LU,Be,FW (by omega)]
 have:l.drop k=a::l.drop (k+1):=by
  rw[E3 hk]
  congr 1
  exact(BR.1 h).2
 rw[this,AT]
theorem ZU {l m:List Nat}{k a b:Nat}(hl:Wd l)(ha:l[k]?=some a)(hb:m[k]?=some b)(hd:l.drop (k+1)=m.drop (k+1))(hab:a<b):AT l<AT m:=by
 have hk:k<l.length:=(BR.1 ha).1;rw[Ln ha,Ln hb,hd];have h1:=Id (hl.take k);rw[Be,FW (by omega)]at h1;generalize AT (m.drop (k+1))=r;have h2:BB^k*(a+BB*r)+BB^k<=BB^k*(b+BB*r):=by
  rw[<-Nat.mul_succ];exact Cj _ (by omega)
 omega
theorem Sa (a b:Nat)(ha:(Ad a).length<4000000000)(hb:(Ad b).length<4000000000):AI C0 191 [wD a,wD b] (i64 (D6 a b)):=by
 refine Ac.walk w1 gP rfl λF=>?_
 have hwa:=F3 a;have hwb:=F3 b;have va:=Fi a;have vb:=Fi b;have hlt:=@Yw a b;have hgt:=@Yw b a;unfold wD wL D6;generalize Ad a=la at*;generalize Ad b=lb at*;have ea:(((la.map AS).length:Nat):Int)=(la.length:Int):=by rw[Al]
 have eb:(((lb.map AS).length:Nat):Int)=(lb.length:Int):=by rw[Al]
 refine sR 0 ?_;refine AC.seq ?_;refine sZ 100 ?_;refine AW (Ae ea eb) ?_;refine AK ?_
 (refine Bn (λh10=>?_) (λh10=>?_))<;>(try simp only[BZ,Bl]at h10)<;>(try simp only[h10])
 ·have hne:la.length≠lb.length:=by
   have:(la.length:Int)≠lb.length:=by simpa using h10
   omega
  refine AC.seq ?_;refine sZ 200 ?_;refine AW (Ae ea eb) ?_;refine AK ?_
  (refine Bn (λh15=>?_) (λh15=>?_))<;>(try simp only[BZ,Bl]at h15)<;>(try simp only[h15])
  ·have h1:la.length<lb.length:=by
    have:(la.length:Int)<lb.length:=by simpa using h15
    omega
   rw[AH (by have:=hlt h1;omega)];refine sR 300 ?_;refine AX ?_;exact AM rfl AA.out
  ·have h1:lb.length<la.length:=by
    have:¬(la.length:Int)<lb.length:=by simpa using h15
    omega
   have h2:=hgt h1;rw[B3,DJ];refine Ag ?_;refine sR 400 ?_;refine AX ?_;exact AM rfl AA.out
 ·have hl:la.length=lb.length:=by
   have:(la.length:Int)=lb.length:=by simpa using h10
   omega
  clear hlt hgt;refine Ag ?_;refine AC.seq ?_;refine sZ 500 ?_;refine AW ea ?_;refine AC.block ?_;have w0:IntKind.i64.wrap ((la.length:Int)-1)=(la.length:Int)-1:=wI;rw[w0];refine AC.loop (α:=Nat×Nat) (λp=>⟨[(0,.sl false 1 (la.map AS)),(1,.sl false 1 (lb.map AS)),(5,i64 ((p.1:Int)-1))],[],p.2⟩) (λp=>p.1)
   (λp=>p.1<=la.length/\la.drop p.1=lb.drop p.1) (la.length,_) ⟨Am _,by rw[KH,hl,KH]⟩ AN ?_
  rintro⟨k,m⟩ F ⟨h1,h2⟩;dsimp only at h1 h2⊢;refine AC.seq ?_;refine sR 600 ?_;refine AK ?_
  (refine Bn (λh20=>?_) (λh20=>?_))<;>(try simp only[BZ,Bl]at h20)<;>(try simp only[h20])
  ·obtain⟨j,rfl⟩:∃j,k=j+1:=⟨k-1,by
    have:(k:Int)-1>=0:=by simpa using h20
    omega⟩
   have wj:((j+1:Nat):Int)-1=(j:Int):=by omega
   obtain⟨x,hx⟩:∃x,la[j]?=some x:=⟨la[j],Ce⟩
   obtain⟨y,hy⟩:∃y,lb[j]?=some y:=⟨lb[j],Ce⟩
   have hx':=Dj hx;have hy':=Dj hy;rw[wj];refine Ag ?_;refine AC.seq ?_;refine AC.block ?_;refine AC.seq ?_;refine B0 800 [0,1,2,3,4,5,6,7] [8] ?_;refine AF kN ?_;refine CN kT hx' ?_;refine AF kN ?_;refine CN kT hy' ?_;refine AF kN ?_;refine AF kN ?_;refine AK ?_
   (refine Bn (λh31=>?_) (λh31=>?_))<;>(try simp only[BZ,Bl]at h31)<;>(try simp only[h31])
   ·have hne:x≠y:=by
     intro h0;subst h0;simp at h31
    refine AC.seq ?_;refine AC.seq ?_;refine B0 900 [0,1,2,3,4,5,6,7] [8] ?_;refine AF kN ?_;refine CN kT hx' ?_;refine AF kN ?_;refine CN kT hy' ?_;refine AF kN ?_;refine AF kN ?_;refine AK ?_
    (refine Bn (λh40=>?_) (λh40=>?_))<;>(try simp only[BZ,Bl]at h40)<;>(try simp only[h40])
    ·have hxy:x<y:=by
      have:(x:Int)<y:=by simpa using h40
      omega
     have:=ZU hwa hx hy h2 hxy
     rw[DJ];refine sR 1000 ?_;refine AX ?_;exact AM rfl AA.out
    ·have hxy:y<x:=by
      have:¬(x:Int)<y:=by simpa using h40
      omega
     have:=ZU hwb hy hx h2.symm hxy
     rw[B3,DJ];refine Ag ?_;refine sR 1100 ?_;refine AX ?_;exact AM rfl AA.out
   ·have hxy:x=y:=by
     have:(x:Int)=y:=by simpa using h31
     omega
    subst hxy;have w5:IntKind.i64.wrap ((j:Int)-1)=(j:Int)-1:=wI;refine Ag ?_;refine An 700 ?_;refine AW w5 ?_;have hj:=(BR.1 hx)
    have hj':=(BR.1 hy)
    refine⟨(j,_),⟨by dsimp only;omega,?_⟩,by dsimp only;omega,AN⟩;dsimp only;rw[E3 hj.1,E3 hj'.1,hj.2,hj'.2,h2]
  ·have hk:k=0:=by
    have:¬((k:Int)-1>=0):=by simpa using h20
    omega
   subst hk;have hab:a=b:=by
    rw[<-va,<-vb]
    have:la=lb:=by simpa using h2
    rw[this]
   subst hab;rw[B3,B3];refine CM ?_;refine sR 1200 ?_;refine AX ?_;exact AM rfl AA.out
theorem av {a b c:Nat}(hc:c<=1):KE 221 [AS a,AS b,AS c]=some (.tup [AS ((a+b+c)%BB),AS ((a+b+c)/BB)]):=by
 show(match Nat.ble c 1 with
  |true=>some (D.tup [.prim (.int .u64 (((a+b+c)%18446744073709551616:Nat):Int)),.prim (.int .u64 (((a+b+c)/18446744073709551616:Nat):Int))])
  |false=>none)=_
 have h1:Nat.ble c 1=true:=by rw[Nat.ble_eq];exact hc
 rw[h1]
theorem F6 {l:List Nat}{i a:Nat}(h:l[i]?=some a):l.take (i+1)=l.take i++[a]:=by rw[FV,h];rfl
theorem SC {l:List Nat}{i a:Nat}(h:i<l.length):(l.set i a).take (i+1)=l.take i++[a]:=by
 rw[F6 (l:=l.set i a) (i:=i) (a:=a) (by simp[h]),List.take_set_of_le (Am _)]
theorem HW {l:List Nat}{i a:Nat}(hi:l.length=i):AT (l++[a])=AT l+BB^i*a:=by rw[LU,hi];simp[AT]
theorem map_set {l:List Nat}{i a:Nat}:(l.map AS).set i (AS a)=(l.set i a).map AS:=List.map_set.symm
theorem Wd.set {l:List Nat}(h:Wd l){i a:Nat}(ha:a<BB):Wd (l.set i a):=λb hb=>by
 rcases YO hb with h1|rfl
 ·exact h b h1
 ·exact ha
theorem OF (n:Nat):Wd (List.replicate n 0):=λa ha=>by rw[RF ha];decide
theorem XT {env:As}{t K g n N:Nat}{z:List Nat}{T:Nat}(hl:z.length=N)(he:env.get t=.osl K g 1 0 N:=by exact rfl):Wk ⟨env,[⟨K,g,T,1,z.map AS⟩],n⟩ ⟨[(t,.sl false 1 (z.map AS))],[],n⟩:=by
 subst hl;refine⟨.drop .nil,⟨?_,trivial⟩,Am _⟩;dsimp only;rw[he]
 have:=S7 K g T 1 (z.map AS)
 rwa [Al]at this
theorem tS (la lb:List Nat)(ha:Wd la)(hb:Wd lb)(hla:la.length<4000000)(hlb:lb.length<4000000):AI C0 190 [wL la,wL lb] (wD (AT la+AT lb)):=by
 refine Ac.walk w1 gO rfl λF=>?_
 unfold wL;have ea:(((la.map AS).length:Nat):Int)=(la.length:Int):=by rw[Al]
 have eb:(((lb.map AS).length:Nat):Int)=(lb.length:Int):=by rw[Al]
 obtain⟨x,y,hsw,hle,hx,hy,hlx,hv⟩:∃x y:List Nat,(la.length<lb.length/\x=lb/\y=la\/¬la.length<lb.length/\x=la/\y=lb)/\y.length<=x.length/\Wd x/\Wd y/\x.length<4000000/\AT la+AT lb=AT x+AT y:=by
  by_cases h:la.length<lb.length
  ·exact⟨lb,la,.inl ⟨h,rfl,rfl⟩,by omega,hb,ha,hlb,by omega⟩
  ·exact⟨la,lb,.inr ⟨h,rfl,rfl⟩,by omega,ha,hb,hla,rfl⟩
 rw[hv];refine sR 0 ?_;refine Fp ⟨[(0,.sl false 1 (x.map AS)),(1,.sl false 1 (y.map AS)),(4,CS)],[],20⟩ ?_ ?_
 ·refine sZ 100 ?_
  refine AW (Ae ea eb) ?_;refine AK ?_;rcases hsw with⟨h,rfl,rfl⟩|⟨h,rfl,rfl⟩
  ·have e1:decide ((y.length:Int)<(x.length:Int))=true:=BV
   rw[e1];refine rI 200 ?_;exact A7 (by trivial) (AN)
  ·have e1:decide ((x.length:Int)<(y.length:Int))=false:=BY
   rw[e1];refine Ag ?_;exact A7 (by trivial) (AN)
 clear hsw ea eb;have ex:(((x.map AS).length:Nat):Int)=(x.length:Int):=by rw[Al]
 have ey:(((y.map AS).length:Nat):Int)=(y.length:Int):=by rw[Al]
 have w3:IntKind.i64.wrap ((x.length:Int)+1)=((x.length+1:Nat):Int):=by rw[wI];omega
 have r3:List.replicate (x.length+1) (ofV (.int .u64 0))=(List.replicate (x.length+1) 0).map AS:=by rw[LD];rfl
 refine sZ 300 ?_;refine AW (BG ex w3 kN) ?_;refine sR 400 ?_;refine AC.seq ?_;refine sZ 500 ?_;refine AW ex ?_;refine AC.block ?_;refine AC.loop (α:=Nat×Nat×List Nat×Nat) (λp=>⟨[(0,.sl false 1 (x.map AS)),(1,.sl false 1 (y.map AS)),(4,CS),(5,.osl 303 23 1 0 (x.length+1)),(6,AS p.2.1),(21,i64 x.length),(22,i64 p.1)],[⟨303,23,271,1,p.2.2.1.map AS⟩],p.2.2.2⟩) (λp=>x.length-p.1)
  (λp=>p.1<=x.length/\p.2.1<=1/\p.2.2.1.length=x.length+1/\Wd p.2.2.1/\AT (p.2.2.1.take p.1)+BB^p.1*p.2.1=AT (x.take p.1)+AT (y.take p.1)) (0,0,List.replicate (x.length+1) 0,_)
  ⟨Bg _,Bg _,by simp,OF _,by simp[AT]⟩ (by rw[<-r3];exact AN) ?_
 rintro⟨i,c,o,m⟩ F ⟨h1,h2,h3,h4,h5⟩;dsimp only at h1 h2 h3 h4 h5⊢;refine sR 600 ?_;refine AC.seq ?_;refine AK ?_
 (refine Bn (λh23=>?_) (λh23=>?_))<;>(try simp only[BZ,Bl]at h23)<;>(try simp only[h23])
 ·have hi:i<x.length:=by simpa using h23
  obtain⟨a,hxa⟩:∃a,x[i]?=some a:=⟨x[i],B4 hi⟩
  have ha:=Dj hxa;obtain⟨v,hvl,hvv⟩:∃v,v<BB/\(i<y.length/\y[i]?=some v\/y.length<=i/\v=0):=by
   by_cases h:i<y.length
   ·exact⟨y[i],hy _ (List.getElem_mem h),.inl ⟨h,B4 h⟩⟩
   ·exact⟨0,by decide,.inr ⟨by omega,rfl⟩⟩
  have hal:a<BB:=hx a (A8 hxa);have hyv:AT (y.take (i+1))=AT (y.take i)+BB^i*v:=by
   rcases hvv with⟨h,hh⟩|⟨h,rfl⟩
   ·rw[F6 hh,HW (i:=i) (by rw[Be];omega)]
   ·rw[Gx,Ci h];simp
  have hoi:i<o.length:=by omega
  obtain⟨oi,hoa⟩:∃a,o[i]?=some a:=⟨o[i],B4 hoi⟩
  have hob:=Dj hoa;have hadd:=av (a:=a) (b:=v) h2;have wi:IntKind.i64.wrap ((i:Int)+1)=((i+1:Nat):Int):=wI;refine Ag ?_;refine AC.seq ?_;refine AC.block ?_;refine sR 700 ?_;refine sR 800 ?_;refine Fp ⟨[(0,.sl false 1 (x.map AS)),(1,.sl false 1 (y.map AS)),(4,CS),(5,.osl 303 23 1 0 (x.length+1)),(6,AS c),(7,i64 i),(8,AS v),(21,i64 x.length),(22,i64 i)],[⟨303,23,271,1,o.map AS⟩],m+30⟩ ?_ ?_
  ·refine sZ 900 ?_
   refine AW ey ?_;refine AK ?_;rcases hvv with⟨h,hh⟩|⟨h,rfl⟩
   ·have hy':=Dj hh
    have e1:decide ((i:Int)<(y.length:Int))=true:=BV;rw[e1];refine rI 1000 ?_;refine AF kN ?_;refine CN kT hy' ?_;refine Bb ?_;exact A7 (by trivial) (AN)
   ·have e1:decide ((i:Int)<(y.length:Int))=false:=BY
    rw[e1];refine Ag ?_;exact A7 (by trivial) (AN)
  refine rI 1100 ?_;refine AF kN ?_;refine CN kT ha ?_;refine AF kN ?_
  first|(refine Ea rfl rfl ?_;refine So rfl rfl (hadd) ?_)|(refine FN rfl rfl ?_;refine QK rfl rfl (hadd) ?_)
  refine AF (BG kN BX hob) ?_;have hs:(a+v+c)%BB<BB:=CJ _ (by decide);have hc':(a+v+c)/BB<=1:=by
   have:a+v+c<2*BB:=by omega
   exact PL (Fs (by rw[Bd];exact this))
  rw[map_set];refine An 1200 ?_;refine AW wi ?_;refine⟨(i+1,(a+v+c)/BB,o.set i ((a+v+c)%BB),_),⟨hi,hc',by dsimp only;rw[Dt];exact h3,h4.set hs,?_⟩,by dsimp only;omega,AN⟩;dsimp only;rw[SC hoi,HW (i:=i) (by rw[Be];omega),F6 hxa,HW (i:=i) (by rw[Be];omega),hyv];have hm:=FX (a+v+c) BB;rw[CT,CE,FG,<-BQ,hm,BQ,BQ];omega
 ·have hi:i=x.length:=by
   have:¬i<x.length:=by simpa using h23
   omega
  subst hi;obtain⟨oi,hoa⟩:∃a,o[x.length]?=some a:=⟨o[x.length],Ce⟩
  have hob:=Dj hoa;refine CM ?_;refine sZ 1300 ?_;refine AF (Bo ex kN BX hob) ?_;rw[map_set];have ho:o.set x.length c=o.take x.length++[c]:=by
   have:=SC (l:=o) (i:=x.length) (a:=c) (by omega)
   rwa [Ci (by rw[Dt];omega)]at this
  have hov:AT (o.set x.length c)=AT x+AT y:=by
   rw[ho,HW (i:=x.length) (by rw[Be];omega),h5,Ci (Am _),Ci hle]
  have how:Wd (o.set x.length c):=h4.set (DD h2 (by decide));have hol:(o.set x.length c).length=x.length+1:=by rw[Dt];exact h3
  generalize o.set x.length c=z at*;refine AC.weak ⟨[(5,.sl false 1 (z.map AS))],[],_⟩ (XT hol) ?_;refine sR 1400 ?_;refine BI.same _ (trim_ok z how (by omega)) AJ ?_;refine Bb ?_;refine AX ?_;exact AM (by rw[hov]) AA.out
theorem Vl {a b c:Nat}(hc:c<=1):KE 223 [AS a,AS b,AS c]=some (.tup [AS ((a+BB-b-c)%BB),AS (if a<b+c then 1 else 0)]):=by
 show(match Nat.ble c 1 with
  |true=>some (D.tup [.prim (.int .u64 (((a+18446744073709551616-b-c)%18446744073709551616:Nat):Int)),.prim (.int .u64 ((if a<b+c then 1 else 0:Nat):Int))])
  |false=>none)=_
 have h1:Nat.ble c 1=true:=by rw[Nat.ble_eq];exact hc
 rw[h1]
theorem VY {a v c:Nat}(ha:a<BB)(hv:v<BB)(hc:c<=1):(a+BB-v-c)%BB+v+c=a+BB*(if a<v+c then 1 else 0):=by
 by_cases h:a<v+c
 ·rw[AH h,Jh];omega
 ·rw[AG h]
  have:a+BB-v-c=(a-v-c)+BB:=by omega
  rw[this,Nat.add_mod_right,Jh];omega
theorem uR (x y:List Nat)(hx:Wd x)(hy:Wd y)(hlx:x.length<4000000)(hle:y.length<=x.length)(hv:AT y<=AT x):AI C0 192 [wL x,wL y] (wD (AT x-AT y)):=by
 refine Ac.walk w1 gQ rfl λF=>?_
 unfold wL;have ex:(((x.map AS).length:Nat):Int)=(x.length:Int):=by rw[Al]
 have ey:(((y.map AS).length:Nat):Int)=(y.length:Int):=by rw[Al]
 have r3:List.replicate x.length (ofV (.int .u64 0))=(List.replicate x.length 0).map AS:=by rw[LD];rfl
 refine sR 0 ?_;refine sZ 100 ?_;refine AW (Ae ex kN) ?_;refine sR 200 ?_;refine AC.seq ?_;refine sZ 300 ?_;refine AW ex ?_;refine AC.block ?_;refine AC.loop (α:=Nat×Nat×List Nat×Nat) (λp=>⟨[(0,.sl false 1 (x.map AS)),(1,.sl false 1 (y.map AS)),(4,CS),(5,.osl 102 3 1 0 x.length),(6,AS p.2.1),(13,i64 x.length),(14,i64 p.1)],[⟨102,3,271,1,p.2.2.1.map AS⟩],p.2.2.2⟩) (λp=>x.length-p.1)
  (λp=>p.1<=x.length/\p.2.1<=1/\p.2.2.1.length=x.length/\Wd p.2.2.1/\AT (p.2.2.1.take p.1)+AT (y.take p.1)=AT (x.take p.1)+BB^p.1*p.2.1) (0,0,List.replicate x.length 0,_)
  ⟨Bg _,Bg _,by simp,OF _,by simp[AT]⟩ (by rw[<-r3];exact AN) ?_
 rintro⟨i,c,o,m⟩ F ⟨h1,h2,h3,h4,h5⟩;dsimp only at h1 h2 h3 h4 h5⊢;refine sR 400 ?_;refine AC.seq ?_;refine AK ?_
 (refine Bn (λh23=>?_) (λh23=>?_))<;>(try simp only[BZ,Bl]at h23)<;>(try simp only[h23])
 ·have hi:i<x.length:=by simpa using h23
  obtain⟨a,hxa⟩:∃a,x[i]?=some a:=⟨x[i],B4 hi⟩
  have ha:=Dj hxa;obtain⟨v,hvl,hvv⟩:∃v,v<BB/\(i<y.length/\y[i]?=some v\/y.length<=i/\v=0):=by
   by_cases h:i<y.length
   ·exact⟨y[i],hy _ (List.getElem_mem h),.inl ⟨h,B4 h⟩⟩
   ·exact⟨0,by decide,.inr ⟨by omega,rfl⟩⟩
  have hal:a<BB:=hx a (A8 hxa);have hyv:AT (y.take (i+1))=AT (y.take i)+BB^i*v:=by
   rcases hvv with⟨h,hh⟩|⟨h,rfl⟩
   ·rw[F6 hh,HW (i:=i) (by rw[Be];omega)]
   ·rw[Gx,Ci h];simp
  have hoi:i<o.length:=by omega
  obtain⟨oi,hoa⟩:∃a,o[i]?=some a:=⟨o[i],B4 hoi⟩
  have hob:=Dj hoa;have hsub:=Vl (a:=a) (b:=v) h2;have hdig:=VY hal hvl h2;have hc':(if a<v+c then 1 else 0)<=1:=by split<;>decide
  have hs:(a+BB-v-c)%BB<BB:=CJ _ (by decide);generalize(if a<v+c then 1 else 0)=c' at*;generalize(a+BB-v-c)%BB=d at*;have wi:IntKind.i64.wrap ((i:Int)+1)=((i+1:Nat):Int):=wI;refine Ag ?_;refine AC.seq ?_;refine AC.block ?_;refine sR 500 ?_;refine sR 600 ?_;refine Fp ⟨[(0,.sl false 1 (x.map AS)),(1,.sl false 1 (y.map AS)),(4,CS),(5,.osl 102 3 1 0 x.length),(6,AS c),(7,i64 i),(8,AS v),(13,i64 x.length),(14,i64 i)],[⟨102,3,271,1,o.map AS⟩],m+30⟩ ?_ ?_
  ·refine sZ 700 ?_
   refine AW ey ?_;refine AK ?_;rcases hvv with⟨h,hh⟩|⟨h,rfl⟩
   ·have hy':=Dj hh
    have e1:decide ((i:Int)<(y.length:Int))=true:=BV;rw[e1];refine rI 800 ?_;refine AF kN ?_;refine CN kT hy' ?_;refine Bb ?_;exact A7 (by trivial) (AN)
   ·have e1:decide ((i:Int)<(y.length:Int))=false:=BY
    rw[e1];refine Ag ?_;exact A7 (by trivial) (AN)
  refine rI 900 ?_;refine AF kN ?_;refine CN kT ha ?_;refine AF kN ?_
  first|(refine Ea rfl rfl ?_;refine So rfl rfl (hsub) ?_)|(refine FN rfl rfl ?_;refine QK rfl rfl (hsub) ?_)
  refine AF (BG kN BX hob) ?_;rw[map_set];refine An 1000 ?_;refine AW wi ?_;refine⟨(i+1,c',o.set i d,_),⟨hi,hc',by dsimp only;rw[Dt];exact h3,h4.set hs,?_⟩,by dsimp only;omega,AN⟩;dsimp only;rw[SC hoi,HW (i:=i) (by rw[Be];omega),F6 hxa,HW (i:=i) (by rw[Be];omega),hyv];have h6:BB^i*d+BB^i*v+BB^i*c=BB^i*a+BB^(i+1)*c':=by
   rw[CT,CE,<-BQ,<-BQ,<-BQ,hdig]
  omega
 ·have hi:i=x.length:=by
   have:¬i<x.length:=by simpa using h23
   omega
  subst hi;rw[Ci (Nat.le_of_eq h3),Ci (Am _),Ci hle]at h5;have hlt:=Id h4;rw[h3]at hlt;have hc0:c=0:=by
   rcases EC c with h|h
   ·exact h
   ·have:c=1:=by omega
    subst this;rw[EQ]at h5;omega
  subst hc0;have hov:AT o=AT x-AT y:=by
   rw[FJ]at h5;omega
  refine CM ?_;refine AC.weak ⟨[(5,.sl false 1 (o.map AS))],[],_⟩ (XT h3) ?_;refine sR 1100 ?_;refine BI.same _ (trim_ok o h4 (by omega)) AJ ?_;refine Bb ?_;refine AX ?_;exact AM (by rw[hov]) AA.out
theorem Ka:∀ {l:List Nat} {k o d:Nat},l[k]?=some o->AT (l.set k d)+BB^k*o=AT l+BB^k*d
 |a::l,0,o,d,h=>by
  simp only[RG,BO]at h;subst h;simp only[List.set_cons_zero,AT,Nq,IT];omega
 |a::l,k+1,o,d,h=>by
  simp only[Iq]at h;have ih:=Ka (d:=d) h;simp only[List.set_cons_succ,AT];have h1:BB^(k+1)*o=BB*(BB^k*o):=by rw[CT,Bd (BB^k) BB,CE]
  have h2:BB^(k+1)*d=BB*(BB^k*d):=by rw[CT,Bd (BB^k) BB,CE]
  have h3:BB*AT (l.set k d)+BB*(BB^k*o)=BB*AT l+BB*(BB^k*d):=by rw[<-BQ,<-BQ,ih]
  omega
theorem p9 {x y o c:Nat}(hx:x<BB)(hy:y<BB)(ho:o<BB)(hc:c<BB):
  ∃hi lo c1 lo1 hi1 c2 lo2 c',hi=x*y/BB/\lo=x*y%BB/\lo1=(lo+o+0)%BB/\c1=(lo+o+0)/BB/\hi1=hi+c1/\hi1<BB/\lo2=(lo1+c+0)%BB/\c2=(lo1+c+0)/BB/\c'=hi1+c2/\c'<BB/\lo2<BB /\
   lo2+BB*c'=x*y+o+c:=by
 refine⟨_,_,_,_,_,_,_,_,rfl,rfl,rfl,rfl,rfl,?_,rfl,rfl,rfl,?_,CJ _ (by decide),?_⟩
 all_goals
  unfold BB at*;have e1:=FX (x*y) 18446744073709551616;have e2:=FX (x*y%18446744073709551616+o+0) 18446744073709551616;have e3:=FX ((x*y%18446744073709551616+o+0)%18446744073709551616+c+0) 18446744073709551616;have hxy:x*y<=(18446744073709551616-1)*(18446744073709551616-1):=GK (by omega) (by omega);have hk:(18446744073709551616-1)*(18446744073709551616-1)=340282366920938463426481119284349108225:=by decide
  rw[hk]at hxy;have l1:=CJ (x*y) (show 18446744073709551616>0 by decide);have l2:=CJ (x*y%18446744073709551616+o+0) (show 18446744073709551616>0 by decide);have l3:=CJ ((x*y%18446744073709551616+o+0)%18446744073709551616+c+0) (show 18446744073709551616>0 by decide);generalize x*y=p at*;generalize hA:p/18446744073709551616=A at*;generalize hB:p%18446744073709551616=B at*;generalize hC:(B+o+0)/18446744073709551616=C at*;generalize hD:(B+o+0)%18446744073709551616=D at*;generalize hE:(D+c+0)/18446744073709551616=E at*;generalize hF:(D+c+0)%18446744073709551616=F at*;omega
theorem Yn {n:Nat}(h:n<BB):IntKind.u64.wrap (n:Int)=(n:Int):=wU (by omega) (by unfold BB at h;omega)
theorem th (a b:List Nat)(ha:Wd a)(hb:Wd b)(hla:a.length<1000000)(hlb:b.length<1000000):AI C0 189 [wL a,wL b] (wD (AT a*AT b)):=by
 refine Ac.walk w1 gM rfl λF=>?_
 unfold wL;have ea:(((a.map AS).length:Nat):Int)=(a.length:Int):=by rw[Al]
 have eb:(((b.map AS).length:Nat):Int)=(b.length:Int):=by rw[Al]
 have wl:IntKind.i64.wrap ((a.length:Int)+(b.length:Int))=((a.length+b.length:Nat):Int):=by rw[wI];omega
 have r3:List.replicate (a.length+b.length) (ofV (.int .u64 0))=(List.replicate (a.length+b.length) 0).map AS:=by rw[LD];rfl
 refine sR 0 ?_;refine sZ 100 ?_;refine AW (Bo ea eb wl kN) ?_;refine AC.seq ?_;refine sZ 200 ?_;refine AW ea ?_;refine AC.block ?_;refine AC.loop (α:=Nat×List Nat×Nat) (λp=>⟨[(0,.sl false 1 (a.map AS)),(1,.sl false 1 (b.map AS)),(4,CS),(5,.osl 105 6 1 0 (a.length+b.length)),(20,.sl false 1 (a.map AS)),(21,i64 a.length),(22,i64 p.1)],[⟨105,6,271,1,p.2.1.map AS⟩],p.2.2⟩) (λp=>a.length-p.1)
  (λp=>p.1<=a.length/\p.2.1.length=a.length+b.length/\Wd p.2.1/\AT p.2.1=AT (a.take p.1)*AT b/\∀k,p.1+b.length<=k->∀d,p.2.1[k]?=some d->d=0) (0,List.replicate (a.length+b.length) 0,_)
  ⟨Bg _,by simp,OF _,by simp[AT,Rp],λk _ d hd=>RF (A8 hd)⟩ (by rw[<-r3];exact AN) ?_
 rintro⟨i,o,m⟩ F ⟨h1,h2,h3,h4,h5⟩;dsimp only at h1 h2 h3 h4 h5⊢;refine sR 300 ?_;refine AC.seq ?_;refine AK ?_
 (refine Bn (λh23=>?_) (λh23=>?_))<;>(try simp only[BZ,Bl]at h23)<;>(try simp only[h23])
 ·have hi:i<a.length:=by simpa using h23
  obtain⟨x,hx⟩:∃x,a[i]?=some x:=⟨a[i],B4 hi⟩
  have hx':=Dj hx;have hxl:x<BB:=ha x (A8 hx);have wi:IntKind.i64.wrap ((i:Int)+1)=((i+1:Nat):Int):=wI;have hax:AT (a.take (i+1))=AT (a.take i)+BB^i*x:=by rw[F6 hx,HW (i:=i) (by rw[Be];omega)]
  refine Ag ?_;refine AC.seq ?_;refine AC.block ?_;refine sR 400 ?_;refine CN kT hx' ?_;refine Bb ?_;refine sR 500 ?_;refine AC.seq ?_;refine sZ 600 ?_;refine AW eb ?_;refine AC.block ?_;refine AC.loop (α:=Nat×Nat×List Nat×Nat) (λp=>⟨[(0,.sl false 1 (a.map AS)),(1,.sl false 1 (b.map AS)),(4,CS),(5,.osl 105 6 1 0 (a.length+b.length)),(6,i64 i),(7,AS x),(8,AS p.2.1),(20,.sl false 1 (a.map AS)),(21,i64 a.length),(22,i64 i),(27,.sl false 1 (b.map AS)),(28,i64 b.length),(29,i64 p.1)],[⟨105,6,271,1,p.2.2.1.map AS⟩],p.2.2.2⟩) (λp=>b.length-p.1)
   (λp=>p.1<=b.length/\p.2.1<BB/\p.2.2.1.length=a.length+b.length/\Wd p.2.2.1/\AT p.2.2.1+BB^(i+p.1)*p.2.1=AT (a.take i)*AT b+BB^i*x*AT (b.take p.1)/\∀k,i+b.length<=k->∀d,p.2.2.1[k]?=some d->d=0) (0,0,o,_)
   ⟨Bg _,show 0<BB by decide,h2,h3,by simp[AT,h4],h5⟩ AN ?_
  rintro⟨j,c,q,m2⟩ F ⟨g1,g2,g3,g4,g5,g6⟩;dsimp only at g1 g2 g3 g4 g5 g6⊢;clear h2 h3 h4 h5 r3 wl;refine sR 700 ?_;refine AC.seq ?_;refine AK ?_
  (refine Bn (λh30=>?_) (λh30=>?_))<;>(try simp only[BZ,Bl]at h30)<;>(try simp only[h30])
  ·have hj:j<b.length:=by simpa using h30
   obtain⟨y,hy⟩:∃y,b[j]?=some y:=⟨b[j],B4 hj⟩
   have hy':=Dj hy;have hyl:y<BB:=hb y (A8 hy);obtain⟨z,hz⟩:∃z,q[i+j]?=some z:=⟨q[i+j],Ce⟩
   have hz':=Dj hz;have hzl:z<BB:=g4 z (A8 hz);have wj:IntKind.i64.wrap ((j:Int)+1)=((j+1:Nat):Int):=wI;have wij:IntKind.i64.wrap ((i:Int)+(j:Int))=((i+j:Nat):Int):=by rw[wI];omega
   have hbx:AT (b.take (j+1))=AT (b.take j)+BB^j*y:=by rw[F6 hy,HW (i:=j) (by rw[Be];omega)]
   have cm:=OE x y hxl hyl;obtain⟨hi',lo,c1,lo1,hi1,c2,lo2,c',e1,e2,e3,e4,e5,e6,e7,e8,e9,e10,e11,e12⟩:=p9 hxl hyl hzl g2;rw[show x*y/18446744073709551616=hi' from e1.symm,show x*y%18446744073709551616=lo from e2.symm]at cm;have e3':(lo+z+0)%18446744073709551616=lo1:=e3.symm;have e4':(lo+z+0)/18446744073709551616=c1:=e4.symm;have e7':(lo1+c+0)%18446744073709551616=lo2:=e7.symm;have e8':(lo1+c+0)/18446744073709551616=c2:=e8.symm;have w6:IntKind.u64.wrap ((hi':Int)+(c1:Int))=(hi1:Int):=by rw[<-Int.natCast_add,<-e5];exact Yn e6
   have w7:IntKind.u64.wrap ((hi1:Int)+(c2:Int))=(c':Int):=by rw[<-Int.natCast_add,<-e9];exact Yn e10
   refine Ag ?_;refine AC.seq ?_;refine AC.block ?_;refine sR 800 ?_;refine CN kT hy' ?_;refine Bb ?_;refine sR 900 ?_;refine BI.same _ cm AJ ?_;refine Bb ?_;refine sR 1000 ?_;refine sZ 1100 ?_;refine AF (Fd wij kN BX hz' e3' e4') ?_;refine sZ 1200 ?_;refine AW w6 ?_;refine sZ 1300 ?_;refine AW (Ae e7' e8') ?_;refine An 1400 ?_;refine AF (Cw wij w7 kN BX hz') ?_;rw[show(D.prim (Value.int IntKind.u64 (lo2:Int)))=AS lo2 from rfl,map_set];refine An 1500 ?_;refine AW wj ?_;refine⟨(j+1,c',q.set (i+j) lo2,_),⟨hj,e10,by dsimp only;rw[Dt];exact g3,g4.set e11,?_,λk hk d hd=>?_⟩,by dsimp only;omega,AN⟩
   ·dsimp only
    have hs:=Ka (d:=lo2) hz;rw[hbx,BQ,<-FG (AT (a.take i)*AT b),<-g5];have h6:BB^(i+j)*lo2+BB^(i+(j+1))*c'=BB^i*x*(BB^j*y)+BB^(i+j)*z+BB^(i+j)*c:=by
     have:BB^i*x*(BB^j*y)=BB^(i+j)*(x*y):=by
      rw[Gt,CE,CE,JX x]
     rw[this,<-FG i j 1,CT,CE,<-BQ,<-BQ,<-BQ,e12]
    omega
   ·dsimp only at hk hd
    rw[JR (by omega)]at hd;exact g6 k hk d hd
  ·have hj:j=b.length:=by
    have:¬j<b.length:=by simpa using h30
    omega
   subst hj;obtain⟨z,hz⟩:∃z,q[i+b.length]?=some z:=⟨q[i+b.length],Ce⟩
   have hz0:z=0:=g6 _ (Am _) _ hz;subst hz0;have hz':=Dj hz;have wij:IntKind.i64.wrap ((i:Int)+(b.length:Int))=((i+b.length:Nat):Int):=by rw[wI];omega
   have wij0:IntKind.i64.wrap ((i:Int)+(((b.map AS).length:Nat):Int))=((i+b.length:Nat):Int):=by rw[eb];exact wij
   refine CM ?_;refine An 1600 ?_;refine AF (Cw eb wij kN BX hz') ?_;rw[map_set];refine An 1700 ?_;refine AW wi ?_;refine⟨(i+1,q.set (i+b.length) c,_),⟨hi,by dsimp only;rw[Dt];exact g3,g4.set g2,?_,λk hk d hd=>?_⟩,by dsimp only;omega,AN⟩
   ·dsimp only
    have hs:=Ka (d:=c) hz;rw[Ci (Am _)]at g5;rw[hax,B1];omega
   ·dsimp only at hk hd
    rw[JR (by omega)]at hd;exact g6 k (by omega) d hd
 ·have hi:i=a.length:=by
   have:¬i<a.length:=by simpa using h23
   omega
  subst hi;rw[Ci (Am _)]at h4;refine CM ?_;refine AC.weak ⟨[(5,.sl false 1 (o.map AS))],[],_⟩ (XT h2) ?_;refine sR 1800 ?_;refine BI.same _ (trim_ok o h3 (by omega)) AJ ?_;refine Bb ?_;refine AX ?_;exact AM (by rw[h4]) AA.out
structure GI where
 z:Int
 sm:Bool
def GI.wf (x:GI):Prop:=(x.sm=true→-9223372036854775808<=x.z/\x.z<9223372036854775808)/\(x.sm=false->¬Sm x.z)
def GI.s (x:GI):Int:=match x.sm with
 |true=>x.z
 |false=>if x.z<0 then -1 else 1
def GI.w (x:GI):D:=match x.sm with
 |true=>CS
 |false=>wD x.z.natAbs
abbrev GI.D (x:GI):D:=.agg [i64 x.s,x.w]
theorem zy (x:GI):CI x.w:=by
 unfold GI.w;split
 ·exact .prim _
 ·exact Ll _
instance  (x:GI):AA x.w:=⟨zy x⟩
instance  (z:Int):Decidable (Sm z):=inferInstanceAs (Decidable (_/\_))
def AY (z:Int):GI:=⟨z,decide (Sm z)⟩
theorem Ch (z:Int):(AY z).wf:=by
 refine⟨λh=>?_,λh=>?_⟩
 ·have h:Sm z:=DQ h
  exact⟨Int.le_of_lt h.1,h.2⟩
 ·exact Da h
theorem Km {z:Int}(h:Sm z):AY z=⟨z,true⟩:=by unfold AY;rw[Ax h]
theorem W4 {z:Int}(h:¬Sm z):AY z=⟨z,false⟩:=by unfold AY;rw[Az h]
theorem OA {n:Nat}(h0:n≠0)(h:n<BB):Ad n=[n]:=by
 rw[G1 h0,GG h,Iw h,Gg]
theorem Ia {n:Nat}(h:n≠0):(Ad n).map AS≠[]:=by rw[G1 h];simp
theorem jL (x:GI)(h:x.wf):(x.s<0)=(x.z<0):=by
 obtain⟨z,sm⟩:=x;cases sm with
 |true=>rfl
 |false=>
  unfold GI.s;dsimp only;split<;>simp<;>omega
theorem d9P {H Hf:Hp}(n:Nat)(h0:n≠0)(h:n<BB):Fz H Hf (.sl true 1 [AS n]) (wD n):=by
 unfold wD wL;rw[OA h0 h];exact .nn true 1 _
theorem jQ {H Hf:Hp}{a b c d:D}(h:Fz H Hf a c)(k:Fz H Hf b d):Fz H Hf (.tup [a,b]) (.tup [c,d]):=.tup rfl λi x y hx hy=>by
 match i with
 | 0=>simp at hx hy;subst hx;subst hy;exact h
 | 1=>simp at hx hy;subst hx;subst hy;exact k
 |i+2=>simp at hx
instance  (a b:Nat):AA (.tup [wD a,wD b]):=AJ
theorem sJ:AI C0 186 [i64 (-9223372036854775808)] (AS 9223372036854775808):=DR Eh 1000 40
theorem QU {z:Int}(h1 : -9223372036854775808<=z)(h2:z<9223372036854775808):AI C0 186 [i64 z] (AS z.natAbs):=by
 by_cases h:z = -9223372036854775808
 ·subst h;exact sJ
 ·exact WF z ⟨by omega,h2⟩
theorem Ki (x:GI)(h:x.wf):AI C0 187 [x.D] (.tup [Av (decide (x.z<0)),wD x.z.natAbs]):=by
 refine Ac.walk w1 gJ rfl λF=>?_
 obtain⟨z,sm⟩:=x;obtain⟨h1,h2⟩:=h;unfold GI.D GI.s GI.w;cases sm with
 |true=>
  obtain⟨h3,h4⟩:=h1 rfl;dsimp only at h3 h4⊢;have cs:=QU h3 h4;refine sR 0 ?_;refine AC.seq ?_;refine AC.block ?_;refine sR 100 ?_;refine AK ?_;refine sR 300 ?_;refine AK ?_
  (refine Bn (λh13=>?_) (λh13=>?_))<;>(try simp only[BZ,Bl]at h13)<;>(try simp only[h13])
  ·have hz:z=0:=by simpa using h13
   subst hz;refine sR 400 ?_;refine AX ?_;refine⟨_,jQ (.refl _) (c:=Av (decide ((0:Int)<0))) (d:=wD (Int.natAbs 0)) ?_,AA.out,rfl⟩;show Fz _ _ CS (wD 0);unfold wD wL;rw[Gg];exact .nil 1
  ·have hz:z≠0:=by simpa using h13
   refine Ag ?_;refine AC.seq ?_;refine B0 500 [0,1,2,3,4,5,6,7] [8] ?_;refine AF kN ?_;refine BN.same _ cs AJ ?_;refine Bb ?_;refine AX ?_;refine⟨_,jQ (.refl _) (c:=Av (decide (z<0))) (d9P z.natAbs (by omega) (by unfold BB;omega)),AA.out,rfl⟩
 |false=>
  have hb:=h2 rfl;have hs:=jL ⟨z,false⟩ ⟨h1,h2⟩;unfold GI.s at hs;dsimp only at hb hs⊢;have hne:=Ia (n:=z.natAbs) (by intro h0;apply hb;exact⟨by omega,by omega⟩);have hp:CI (.sl false 1 ((Ad z.natAbs).map AS)):=Ll _;unfold wD wL;generalize(Ad z.natAbs).map AS=l at*;generalize(if z<0 then(-1:Int)else 1)=sg at*;refine sR 0 ?_;refine AC.seq ?_;refine AC.block ?_;refine sZ 100 ?_;refine AW (BG (@ne_eq (List D)) hne E5) ?_;refine AK ?_;refine AC.seq ?_;refine B0 200 [0,1,2,3,4,5] [6] ?_;refine Bb ?_;refine AX ?_;refine AM ?_ (.tup λd hd=>?_)
  ·simp only[hs]
  ·simp only[Aw,Ds,or_false]at hd
   rcases hd with rfl|rfl
   ·exact .prim _
   ·exact hp
def EP (neg:Bool)(n:Nat):Int:=match neg with
 |true=>-(n:Int)
 |false=>n
theorem M7 (neg:Bool)(n:Nat)(hlen:(Ad n).length<4000000):AI C0 188 [Av neg,wD n] (AY (EP neg n)).D:=by
 refine Ac.walk w1 gL rfl λF=>?_
 by_cases h0:n=0
 ·subst h0
  have e:AY (EP neg 0)=⟨0,true⟩:=by cases neg<;>exact Km ⟨by decide,by decide⟩
  rw[e];unfold wD wL GI.D GI.s GI.w;rw[Gg];dsimp only[List.map];refine sR 0 ?_;refine AC.seq ?_;refine AC.block ?_;refine sR 100 ?_;refine AK ?_;refine sR 200 ?_;refine AX ?_;exact AM rfl AA.out
 ·by_cases h1:n<BB
  ·have hl:=OA h0 h1
   have b1:(((1:Nat):Int)==0)=false:=rfl;have b2:(((1:Nat):Int)==1)=true:=rfl;have hx:[AS n][(0:Int).toNat]?=some (AS n):=rfl
   by_cases h2:n<=9223372036854775807
   ·have b3:decide ((n:Int)<=9223372036854775807)=true:=BV
    have hsm:Sm (EP neg n):=by unfold EP;split<;>exact⟨by omega,by omega⟩
    rw[Km hsm];unfold wD wL GI.D GI.s GI.w;rw[hl];dsimp only[List.map];have w1':IntKind.i64.wrap (n:Int)=(n:Int):=wN h2;have w2':IntKind.i64.wrap (0-(n:Int)) = -(n:Int):=by rw[wI];omega
    cases neg with
    |true=>
     unfold EP;dsimp only;refine sR 0 ?_;refine AC.seq ?_;refine AC.block ?_;refine sZ 100 ?_;refine AW b1 ?_;refine AK ?_;refine sZ 300 ?_;refine AF (Ae b2 b3) ?_;refine AF (Ae b2 b3) ?_;refine CN b2 hx ?_;refine AF (Ae b2 b3) ?_;refine AF (Ae b2 b3) ?_;refine AK ?_;refine sZ 400 ?_;refine AF b2 ?_;refine CN b2 hx ?_;refine AF (Ae w1' w2') ?_;refine AX ?_;exact AM rfl AA.out
    |false=>
     unfold EP;dsimp only;refine sR 0 ?_;refine AC.seq ?_;refine AC.block ?_;refine sZ 100 ?_;refine AW b1 ?_;refine AK ?_;refine sZ 300 ?_;refine AF (Ae b2 b3) ?_;refine AF (Ae b2 b3) ?_;refine CN b2 hx ?_;refine AF (Ae b2 b3) ?_;refine AF (Ae b2 b3) ?_;refine AK ?_;refine sZ 500 ?_;refine AF (Ae b2 b3) ?_;refine AF (Ae b2 b3) ?_;refine CN b2 hx ?_;refine AF (Ae b2 b3) ?_;refine AF (Ae b2 b3) ?_;refine AK ?_;refine sZ 600 ?_;refine AF b2 ?_;refine CN b2 hx ?_;refine AF (Ae w1' w2') ?_;refine AX ?_;exact AM rfl AA.out
   ·have b3:decide ((n:Int)<=9223372036854775807)=false:=BY
    have hsm:¬Sm (EP neg n):=by
     intro hs;have h3:=hs.1;have h4:=hs.2
     revert h3 h4
     unfold EP;split<;>intro h3 h4<;>omega
    rw[W4 hsm];have ha:(EP neg n).natAbs=n:=by unfold EP;split<;>omega
    unfold GI.D GI.s GI.w;dsimp only;rw[ha];unfold wD wL;rw[hl];dsimp only[List.map];cases neg with
    |true=>
     have hs:(if EP true n<0 then(-1:Int)else 1) = -1:=AH (by show -(n:Int)<0;omega);rw[hs];refine sR 0 ?_;refine AC.seq ?_;refine AC.block ?_;refine sZ 100 ?_;refine AW b1 ?_;refine AK ?_;refine sZ 300 ?_;refine AF (Ae b2 b3) ?_;refine AF (Ae b2 b3) ?_;refine CN b2 hx ?_;refine AF (Ae b2 b3) ?_;refine AF (Ae b2 b3) ?_;refine AK ?_;refine sZ 500 ?_;refine AF (Ae b2 b3) ?_;refine AF (Ae b2 b3) ?_;refine CN b2 hx ?_;refine AF (Ae b2 b3) ?_;refine AF (Ae b2 b3) ?_;refine AK ?_;refine sR 700 ?_;refine AK ?_;refine sR 800 ?_;refine AX ?_;exact AM rfl AA.out
    |false=>
     have hs:(if EP false n<0 then(-1:Int)else 1)=1:=AG (by show ¬(n:Int)<0;omega);rw[hs];refine sR 0 ?_;refine AC.seq ?_;refine AC.block ?_;refine sZ 100 ?_;refine AW b1 ?_;refine AK ?_;refine sZ 300 ?_;refine AF (Ae b2 b3) ?_;refine AF (Ae b2 b3) ?_;refine CN b2 hx ?_;refine AF (Ae b2 b3) ?_;refine AF (Ae b2 b3) ?_;refine AK ?_;refine sZ 500 ?_;refine AF (Ae b2 b3) ?_;refine AF (Ae b2 b3) ?_;refine CN b2 hx ?_;refine AF (Ae b2 b3) ?_;refine AF (Ae b2 b3) ?_;refine AK ?_;refine sR 700 ?_;refine AK ?_;refine Ag ?_;refine sR 900 ?_;refine AX ?_;exact AM rfl AA.out
  ·have hl2:2<=(Ad n).length:=by
    rw[G1 h0,G1 (n:=n/BB) (by
     intro h
     have:=Fq n BB
     have:=CJ n (show BB>0 by decide)
     rw[h]at*;omega)]
    simp
   have hsm:¬Sm (EP neg n):=by
    intro hs;have h3:=hs.1;have h4:=hs.2;have h5:BB<=n:=by omega
    unfold BB at h5
    revert h3 h4
    unfold EP;split<;>intro h3 h4<;>omega
   rw[W4 hsm];have ha:(EP neg n).natAbs=n:=by unfold EP;split<;>omega
   have hp:AA (.sl false 1 ((Ad n).map AS)):=⟨Ll _⟩
   unfold GI.D GI.s GI.w;dsimp only;rw[ha];unfold wD wL;have hel:((((Ad n).map AS).length:Nat):Int)=((Ad n).length:Int):=by rw[Al]
   generalize(Ad n).map AS=l at*;generalize hL:(Ad n).length=L at*;have b1:((L:Int)==0)=false:=B8.2 (by omega);have b2:((L:Int)==1)=false:=B8.2 (by omega);cases neg with
   |true=>
    have hs:(if EP true n<0 then(-1:Int)else 1) = -1:=AH (by show -(n:Int)<0;omega);rw[hs];refine sR 0 ?_;refine AC.seq ?_;refine AC.block ?_;refine sZ 100 ?_;refine AW (Ae hel b1) ?_;refine AK ?_;refine sZ 300 ?_;refine AW (Ae hel b2) ?_;refine AF (Ae hel b2) ?_;refine AF (Ae hel b2) ?_;refine AK ?_;refine sZ 500 ?_;refine AW (Ae hel b2) ?_;refine AF (Ae hel b2) ?_;refine AK ?_;refine sR 700 ?_;refine AK ?_;refine sR 800 ?_;refine AX ?_;exact AM rfl AA.out
   |false=>
    have hs:(if EP false n<0 then(-1:Int)else 1)=1:=AG (by show ¬(n:Int)<0;omega);rw[hs];refine sR 0 ?_;refine AC.seq ?_;refine AC.block ?_;refine sZ 100 ?_;refine AW (Ae hel b1) ?_;refine AK ?_;refine sZ 300 ?_;refine AW (Ae hel b2) ?_;refine AF (Ae hel b2) ?_;refine AF (Ae hel b2) ?_;refine AK ?_;refine sZ 500 ?_;refine AW (Ae hel b2) ?_;refine AF (Ae hel b2) ?_;refine AK ?_;refine sR 700 ?_;refine AK ?_;refine Ag ?_;refine sR 900 ?_;refine AX ?_;exact AM rfl AA.out
theorem OX (x:GI)(h:x.wf):AI C0 115 [x.D] (i64 (max (-1) (min 1 x.z))):=by
 refine Ac.walk w1 Wj rfl λF=>?_
 have e:max (-1) (min 1 x.s)=max (-1) (min 1 x.z):=by
  obtain⟨z,sm⟩:=x;cases sm with
  |true=>rfl
  |false=>
   have hb:=h.2 rfl;unfold GI.s;dsimp only at hb⊢;unfold Sm at hb;split<;>omega
 refine fR 0 ?_;refine fR 100 ?_;rw[e];refine AX ?_;exact AM rfl AA.out
theorem sI (z:Int):EP (!decide (z<0)) z.natAbs = -z:=by
 by_cases h:z<0
 ·rw[Ax h];show((z.natAbs:Nat):Int) = -z;omega
 ·rw[Az h];show -((z.natAbs:Nat):Int) = -z;omega
def GI.few (x:GI):Prop:=(Ad x.z.natAbs).length<1000000
theorem Oi (x:GI)(h:x.wf)(hf:x.few):AI C0 160 [x.D] (AY (-x.z)).D:=by
 by_cases hs:x.sm=true/\x.z ≠ -9223372036854775808
 ·obtain⟨z,sm⟩:=x
  obtain⟨rfl,hz⟩:=hs;have h1:=h.1 rfl;dsimp only at h1 hz⊢;have hsm:Sm z:=⟨by omega,h1.2⟩
  have:=QT z hsm
  rw[Km ⟨by have:=hsm.2;omega,by have:=hsm.1;omega⟩];exact this
 ·refine Ac.walk w1 Wq rfl λF=>?_
  have cp:=Ki x h;have cm:=M7 (!decide (x.z<0)) x.z.natAbs (Gs hf (by decide));rw[sI]at cm;have hpr:AA (AY (-x.z)).w:=AJ;dsimp only[GI.D]at cp cm⊢;generalize(AY (-x.z)).s=rs at*;generalize(AY (-x.z)).w=rw at*;obtain⟨z,sm⟩:=x;unfold GI.s GI.w at*;cases sm with
  |true=>
   have hz:z = -9223372036854775808:=DA λh0=>hs ⟨rfl,h0⟩
   subst hz;dsimp only at cp cm⊢;refine fR 0 ?_;refine AC.seq ?_;refine sZ 100 ?_
   repeat'(first|(refine A7 (by exact Bu) ?_;refine BA ?_)|((refine Bn (λhb=>?_) (λhb=>?_))<;>(try simp only[BZ,Bl]at hb)<;>(try simp only[hb])<;>(refine BA ?_)))
   refine AK ?_;refine Ag ?_;refine fR 300 ?_;refine dI cp ?_;refine fR 400 ?_;refine dI cm ?_;refine AX ?_;exact AM rfl AA.out
  |false=>
   have hne:=Ia (n:=z.natAbs) (by
    intro h0
    have:=h.2 rfl
    apply this;exact⟨by dsimp only;omega,by dsimp only;omega⟩)
   dsimp only at cp cm⊢;unfold wD wL at*;have hp:AA (.sl false 1 ((Ad z.natAbs).map AS)):=⟨Ll _⟩
   generalize(Ad z.natAbs).map AS=l at*;generalize(if z<0 then(-1:Int)else 1)=sg at*;generalize decide (z<0)=nb at*;refine fR 0 ?_;refine AC.seq ?_;refine AC.seq ?_;refine An 100 ?_;refine AW (BG (@ne_eq (List D)) hne E5) ?_;refine AF kT ?_;refine AF kT ?_;refine AK ?_;refine Ag ?_;refine fR 300 ?_;refine dI cp ?_;refine fR 400 ?_;refine dI cm ?_;refine AX ?_;exact AM rfl AA.out
theorem e1G (a b:Nat)(ha:(Ad a).length<1000000)(hb:(Ad b).length<1000000):AI C0 190 [wD a,wD b] (wD (a+b)):=by
 have:=tS (Ad a) (Ad b) (F3 a) (F3 b) (Gs ha (by decide)) (Gs hb (by decide))
 rwa [Fi,Fi]at this
theorem lj (a b:Nat)(h:b<=a)(ha:(Ad a).length<1000000):AI C0 192 [wD a,wD b] (wD (a-b)):=by
 have:=uR (Ad a) (Ad b) (F3 a) (F3 b) (Gs ha (by decide)) (IY b a h) (by rw[Fi,Fi];exact h)
 rwa [Fi,Fi]at this
theorem e2g (a b:Nat)(ha:(Ad a).length<1000000)(hb:(Ad b).length<1000000):AI C0 189 [wD a,wD b] (wD (a*b)):=by
 have:=th (Ad a) (Ad b) (F3 a) (F3 b) ha hb
 rwa [Fi,Fi]at this
theorem Hx {n k:Nat}(h:n<BB^k):(Ad n).length<=k:=by
 induction k generalizing n with
 |zero=>
  have:n=0:=by simpa using h
  subst this;rw[Gg];exact Am _
 |succ k ih=>
  by_cases h0:n=0
  ·subst h0;rw[Gg];exact Bg _
  ·rw[G1 h0,By]
   exact Nat.succ_le_succ (ih (Fs (by rw[Bd,<-CT];exact h)))
theorem Kg (n:Nat):n<BB^(Ad n).length:=by
 have:=Id (F3 n)
 rwa [Fi]at this
theorem Z0 (a b:Nat):(Ad (a+b)).length<=max (Ad a).length (Ad b).length+1:=by
 refine Hx ?_;have h1:=Kg a;have h2:=Kg b;have m1:BB^(Ad a).length<=BB^max (Ad a).length (Ad b).length:=Fc (by decide) (Nat.le_max_left _ _);have m2:BB^(Ad b).length<=BB^max (Ad a).length (Ad b).length:=Fc (by decide) (Nat.le_max_right _ _);rw[CT];generalize BB^max (Ad a).length (Ad b).length=q at*;unfold BB;omega
theorem Z1 (a b:Nat):(Ad (a-b)).length<=(Ad a).length:=IY _ _ (Nat.sub_le _ _)
def Ei (x y:GI):GI:=if x.sm=true/\y.sm=true/\x.z+y.z = -9223372036854775808 then⟨x.z+y.z,true⟩else AY (x.z+y.z)
theorem OT (x y:GI):(Ei x y).z=x.z+y.z:=by unfold Ei;split<;>rfl
theorem OL (x y:GI):(Ei x y).wf:=by
 unfold Ei;split
 ·rename_i h
  refine⟨λ_=>?_,λh=>by cases h⟩;dsimp only;rw[h.2.2];decide
 ·exact Ch _
theorem ov (x y:GI)(hx:x.sm=true)(hy:y.sm=true)(h1 : -9223372036854775808<=x.z+y.z)(h2:x.z+y.z<9223372036854775808):AI C0 135 [x.D,y.D] (Ei x y).D:=by
 obtain⟨a,sa⟩:=x;obtain⟨b,sb⟩:=y;dsimp only at hx hy h1 h2;subst hx;subst hy;have e:(Ei ⟨a,true⟩ ⟨b,true⟩).D=CG (a+b):=by
  unfold Ei;dsimp only;split
  ·rfl
  ·rename_i h
   have h3:¬a+b = -9223372036854775808:=λh0=>h ⟨rfl,rfl,h0⟩
   rw[Km ⟨by omega,h2⟩];rfl
 rw[e];show AI C0 _ [CG a,CG b] _;refine Ac.walk w1 S1 rfl λF=>?_
 refine fR 0 ?_;refine AC.seq ?_;refine sZ 100 ?_
 repeat'(first|(refine A7 (by exact Bu) ?_;refine BA ?_)|((refine Bn (λhb=>?_) (λhb=>?_))<;>(try simp only[BZ,Bl]at hb)<;>(try simp only[hb])<;>(refine BA ?_)))
 refine AK ?_;have e1:IntKind.i64.wrap (a+b)=a+b:=wI;have e2:(decide (a+b>a)==decide (b>0))=true:=by
  rw[EW,ED];omega
 refine sZ 200 ?_;refine HS e1 ?_;refine fR 300 ?_;rw[e2];refine AK ?_;refine fR 400 ?_;refine AX ?_;exact AM rfl AA.out
theorem tR (x y:GI)(hx:x.wf)(hy:y.wf)(fx:x.few)(fy:y.few)(hn:¬(x.sm=true/\y.sm=true∧-9223372036854775808<=x.z+y.z/\x.z+y.z<9223372036854775808)):AI C0 135 [x.D,y.D] (AY (x.z+y.z)).D:=by
 refine Ac.walk w1 S1 rfl λF=>?_
 have cx:=Ki x hx;have cy:=Ki y hy;have hpr:AA (AY (x.z+y.z)).w:=AJ;have hpx:AA x.w:=AJ;have hpy:AA y.w:=AJ;have la:=Z0 x.z.natAbs y.z.natAbs;have ls:=Z1 x.z.natAbs y.z.natAbs;have ls':=Z1 y.z.natAbs x.z.natAbs;unfold GI.few at fx fy;dsimp only[GI.D]at*;refine fR 0 ?_;refine Fp ⟨[(2,.optr 0 0 2 0 0),(3,.optr 1 1 2 0 0),(4,.optr 2 2 2 0 0)],[⟨2,2,109,2,[CG 0]⟩,⟨1,1,109,2,[.agg [i64 y.s,y.w]]⟩,⟨0,0,109,2,[.agg [i64 x.s,x.w]]⟩],60⟩ ?_ ?_
 ·obtain⟨a,sa⟩:=x
  obtain⟨b,sb⟩:=y;clear cx cy la ls ls' hpr;have nx:sa=false->(Ad a.natAbs).map AS≠[]:=λh=>Ia (by
   intro h0;subst h;exact hx.2 rfl ⟨by dsimp only;omega,by dsimp only;omega⟩)
  have ny:sb=false->(Ad b.natAbs).map AS≠[]:=λh=>Ia (by
   intro h0;subst h;exact hy.2 rfl ⟨by dsimp only;omega,by dsimp only;omega⟩)
  unfold GI.s GI.w wD wL at*;dsimp only at*;generalize(Ad a.natAbs).map AS=ka at*;generalize(Ad b.natAbs).map AS=kb at*;cases sa with
  |false=>
   have nx:=nx rfl;dsimp only at*;generalize(if a<0 then(-1:Int)else 1)=sg at*;generalize(match sb with|true=>b|false=>if b<0 then(-1:Int)else 1)=sh at*;generalize(match sb with|true=>CS|false=>D.sl false 1 kb)=wy at*;refine AC.seq ?_;refine An 100 ?_;refine AW (BG (@ne_eq (List D)) nx E5) ?_;refine AF kT ?_;refine AF kT ?_;refine AK ?_;refine Ag ?_;exact A7 (by trivial) (AN)
  |true=>
   dsimp only at*;cases sb with
   |false=>
    have ny:=ny rfl;dsimp only at*;generalize(if b<0 then(-1:Int)else 1)=sh at*;refine AC.seq ?_;refine An 100 ?_;refine AW (BG (@ne_eq (List D)) ny E5) ?_;refine AF (Bo kT (@ne_eq (List D)) ny E5) ?_;refine AF (Bo kT (@ne_eq (List D)) ny E5) ?_;refine AK ?_;refine Ag ?_;exact A7 (by trivial) (AN)
   |true=>
    have ra:=hx.1 rfl;have rb:=hy.1 rfl;dsimp only at*;have e2:(decide (IntKind.i64.wrap (a+b)>a)==decide (b>0))=false:=by
     have hov:¬(-9223372036854775808<=a+b/\a+b<9223372036854775808):=λh=>hn ⟨rfl,rfl,h.1,h.2⟩
     have ew:IntKind.i64.wrap (a+b)=a+b-18446744073709551616/\9223372036854775808<=a+b\/IntKind.i64.wrap (a+b)=a+b+18446744073709551616/\a+b < -9223372036854775808:=by
      have e1:(2:Int)^IntKind.i64.bits=18446744073709551616:=rfl;have e2:(2:Int)^(IntKind.i64.bits-1)=9223372036854775808:=rfl;have e3:IntKind.i64.signed=true:=rfl;unfold IntKind.wrap;simp only[e1,e2,e3,Hs,HL];split<;>omega
     rw[B8,ne_eq,ED];omega
    refine sZ 100 ?_
    repeat'(first|(refine A7 (by exact Bu) ?_;refine BA ?_)|((refine Bn (λhb=>?_) (λhb=>?_))<;>(try simp only[BZ,Bl]at hb)<;>(try simp only[hb])<;>(refine BA ?_)))
    refine AK ?_;refine fR 200 ?_;refine fR 300 ?_;rw[e2];refine AK ?_;refine Ag ?_;exact A7 (by trivial) (AN)
 ·refine fR 500 ?_
  refine dI cx ?_;refine fR 600 ?_;refine dI cy ?_;refine AC.seq ?_;refine AC.block ?_;refine fR 700 ?_
  by_cases hs:(decide (x.z<0))=(decide (y.z<0))
  ·have e1:(decide (x.z<0)==decide (y.z<0))=true:=EW.2 hs
   rw[e1];have ca:=e1G x.z.natAbs y.z.natAbs fx fy;have cm:=M7 (decide (x.z<0)) (x.z.natAbs+y.z.natAbs) (by omega);have ez:EP (decide (x.z<0)) (x.z.natAbs+y.z.natAbs)=x.z+y.z:=by
    rw[ED]at hs
    by_cases h:x.z<0
    ·rw[Ax h];have:=hs.1 h;show -(((x.z.natAbs+y.z.natAbs:Nat)):Int)=_;omega
    ·rw[Az h];have:¬y.z<0:=λh0=>h (hs.2 h0);show(((x.z.natAbs+y.z.natAbs:Nat)):Int)=_;omega
   rw[ez]at cm;dsimp only[GI.D]at cm;refine AK ?_;refine fR 800 ?_;refine dI ca ?_;refine dI cm ?_;refine AX ?_;exact AM rfl AA.out
  ·have e1:(decide (x.z<0)==decide (y.z<0))=false:=B8.2 hs
   rw[e1];have cc:=Sa x.z.natAbs y.z.natAbs (by omega) (by omega);refine AK ?_;refine fR 900 ?_;refine dI cc ?_
   by_cases hc:y.z.natAbs<=x.z.natAbs
   ·have e2:decide (D6 (x.z.natAbs:Nat) (y.z.natAbs:Nat)>=0)=true:=Ax (by unfold D6;split<;>(try split)<;>omega)
    rw[e2];have ca:=lj x.z.natAbs y.z.natAbs hc fx;have cm:=M7 (decide (x.z<0)) (x.z.natAbs-y.z.natAbs) (by omega);have ez:EP (decide (x.z<0)) (x.z.natAbs-y.z.natAbs)=x.z+y.z:=by
     rw[ED]at hs
     by_cases h:x.z<0
     ·rw[Ax h];have:¬y.z<0:=λh0=>hs ⟨λ_=>h0,λ_=>h⟩;show -(((x.z.natAbs-y.z.natAbs:Nat)):Int)=_;omega
     ·rw[Az h];have:y.z<0:=DA λh0=>hs ⟨λh1=>Ah h1 h,λh1=>Ah h1 h0⟩;show(((x.z.natAbs-y.z.natAbs:Nat)):Int)=_;omega
    rw[ez]at cm;dsimp only[GI.D]at cm;refine AK ?_;refine fR 1000 ?_;refine dI ca ?_;refine dI cm ?_;refine AX ?_;exact AM rfl AA.out
   ·have e2:decide (D6 (x.z.natAbs:Nat) (y.z.natAbs:Nat)>=0)=false:=Az (by unfold D6;split<;>(try split)<;>omega)
    rw[e2];have ca:=lj y.z.natAbs x.z.natAbs (by omega) fy;have cm:=M7 (decide (y.z<0)) (y.z.natAbs-x.z.natAbs) (by omega);have ez:EP (decide (y.z<0)) (y.z.natAbs-x.z.natAbs)=x.z+y.z:=by
     rw[ED]at hs
     by_cases h:y.z<0
     ·rw[Ax h];have:¬x.z<0:=λh0=>hs ⟨λ_=>h,λ_=>h0⟩;show -(((y.z.natAbs-x.z.natAbs:Nat)):Int)=_;omega
     ·rw[Az h];have:x.z<0:=DA λh0=>hs ⟨λh1=>Ah h1 h0,λh1=>Ah h1 h⟩;show(((y.z.natAbs-x.z.natAbs:Nat)):Int)=_;omega
    rw[ez]at cm;dsimp only[GI.D]at cm;refine AK ?_;refine Ag ?_;refine fR 1100 ?_;refine dI ca ?_;refine dI cm ?_;refine AX ?_;exact AM rfl AA.out
theorem Qb (x y:GI)(hx:x.wf)(hy:y.wf)(fx:x.few)(fy:y.few):AI C0 135 [x.D,y.D] (Ei x y).D:=by
 by_cases h:x.sm=true/\y.sm=true∧-9223372036854775808<=x.z+y.z/\x.z+y.z<9223372036854775808
 ·exact ov x y h.1 h.2.1 h.2.2.1 h.2.2.2
 ·have:=tR x y hx hy fx fy h
  have e:Ei x y=AY (x.z+y.z):=by
   unfold Ei;rw[AG];rintro⟨h1,h2,h3⟩;exact h ⟨h1,h2,by omega,by omega⟩
  rw[e];exact this
theorem dW {z:Int}(h:(Ad z.natAbs).length<1000000):(AY (-z)).few:=by
 show(Ad (-z).natAbs).length<1000000;rw[LG];exact h
def JP (x y:GI):GI:=Ei x (AY (-y.z))
theorem jM (x y:GI):(JP x y).z=x.z-y.z:=by unfold JP;rw[OT];show x.z + -y.z=_;omega
theorem fg (x y:GI):(JP x y).wf:=OL _ _
theorem kq (x y:GI)(hx:x.wf)(hy:y.wf)(fx:x.few)(fy:y.few):AI C0 265 [x.D,y.D] (JP x y).D:=by
 refine Ac.walk w1 iq rfl λF=>?_
 have c1:=Oi y hy fy;have c2:=Qb x (AY (-y.z)) hx (Ch _) fx (dW fy);unfold JP;refine fR 0 ?_;refine AC.seq ?_;refine B0 100 [0,1,2] [3,4] ?_;refine A9 ?_;refine BN.same _ (c1) AJ ?_;refine A9 ?_;refine dI c2 ?_;refine AX ?_;exact AM rfl AA.out
theorem d8z (x y:GI)(hx:x.wf)(hy:y.wf)(fx:x.few)(fy:y.few):AI C0 236 [x.D,y.D] (i64 (D6 x.z y.z)):=by
 by_cases h:x.sm=true/\y.sm=true
 ·obtain⟨a,sa⟩:=x
  obtain⟨b,sb⟩:=y;obtain⟨h1,h2⟩:=h;dsimp only at h1 h2;subst h1;subst h2;exact eG a b
 ·have cs:=kq x y hx hy fx fy
  have cg:=OX (JP x y) (fg x y);rw[jM]at cg;have e:max (-1) (min 1 (x.z-y.z))=D6 x.z y.z:=by unfold D6;split<;>(try split)<;>omega
  rw[e]at cg;have hpr:AA (JP x y).w:=AJ;have hpx:AA x.w:=AJ;have hpy:AA y.w:=AJ;dsimp only[GI.D]at*;generalize(JP x y).s=rs at*;generalize(JP x y).w=rw at*;generalize D6 x.z y.z=r at*;refine Ac.walk w1 Wx rfl λF=>?_
  obtain⟨a,sa⟩:=x;obtain⟨b,sb⟩:=y;have nx:sa=false->(Ad a.natAbs).map AS≠[]:=λh=>Ia (by
   intro h0;subst h;exact hx.2 rfl ⟨by dsimp only;omega,by dsimp only;omega⟩)
  have ny:sb=false->(Ad b.natAbs).map AS≠[]:=λh=>Ia (by
   intro h0;subst h;exact hy.2 rfl ⟨by dsimp only;omega,by dsimp only;omega⟩)
  unfold GI.s GI.w wD wL at*;dsimp only at*;generalize(Ad a.natAbs).map AS=ka at*;generalize(Ad b.natAbs).map AS=kb at*;cases sa with
  |false=>
   have nx:=nx rfl;dsimp only at*;generalize(if a<0 then(-1:Int)else 1)=sg at*;generalize(match sb with|true=>b|false=>if b<0 then(-1:Int)else 1)=sh at*;generalize(match sb with|true=>CS|false=>D.sl false 1 kb)=wy at*;refine fR 0 ?_;refine AC.seq ?_;refine AC.seq ?_;refine An 100 ?_;refine AW (BG (@ne_eq (List D)) nx E5) ?_;refine AF kT ?_;refine AF kT ?_;refine AK ?_;refine Ag ?_;refine fR 700 ?_;refine dI cs ?_;refine dI cg ?_;refine AX ?_;exact AM rfl AA.out
  |true=>
   dsimp only at*;cases sb with
   |false=>
    have ny:=ny rfl;dsimp only at*;generalize(if b<0 then(-1:Int)else 1)=sh at*;refine fR 0 ?_;refine AC.seq ?_;refine AC.seq ?_;refine An 100 ?_;refine AW (BG (@ne_eq (List D)) ny E5) ?_;refine AF (Bo kT (@ne_eq (List D)) ny E5) ?_;refine AF (Bo kT (@ne_eq (List D)) ny E5) ?_;refine AK ?_;refine Ag ?_;refine fR 700 ?_;refine dI cs ?_;refine dI cg ?_;refine AX ?_;exact AM rfl AA.out
   |true=>exact Ah ⟨rfl,rfl⟩ h
theorem Mn (a b:Nat):(Ad (a*b)).length<=(Ad a).length+(Ad b).length:=by
 refine Hx ?_;rw[Gt];exact Nat.mul_lt_mul'' (Kg a) (Kg b)
theorem sH (a b:Int):EP (decide (a<0) != decide (b<0)) (a.natAbs*b.natAbs)=a*b:=by
 rw[<-KJ]
 by_cases h1:a<0<;>by_cases h2:b<0
 ·rw[Ax h1,Ax h2]
  have:0<=a*b:=YT (by omega) (by omega)
  show(((a*b).natAbs:Nat):Int)=a*b;omega
 ·rw[Ax h1,Az h2]
  have:a*b<=0:=YV (by omega) (by omega)
  show -(((a*b).natAbs:Nat):Int)=a*b;omega
 ·rw[Az h1,Ax h2]
  have:a*b<=0:=YU (by omega) (by omega)
  show -(((a*b).natAbs:Nat):Int)=a*b;omega
 ·rw[Az h1,Az h2]
  have:0<=a*b:=Int.mul_nonneg (by omega) (by omega)
  show(((a*b).natAbs:Nat):Int)=a*b;omega
theorem tg (x y:GI)(hx:x.wf)(hy:y.wf)(fx:(Ad x.z.natAbs).length<400000)(fy:(Ad y.z.natAbs).length<400000)(hn:¬(x.sm=true/\y.sm=true/\(x.z*y.z).natAbs<=9223372036854775807)):AI C0 133 [x.D,y.D] (AY (x.z*y.z)).D:=by
 refine Ac.walk w1 S0 rfl λF=>?_
 have cx:=Ki x hx;have cy:=Ki y hy;have hpr:AA (AY (x.z*y.z)).w:=AJ;have hpx:AA x.w:=AJ;have hpy:AA y.w:=AJ;have lm:=Mn x.z.natAbs y.z.natAbs;have ca:=e2g x.z.natAbs y.z.natAbs (by omega) (by omega);have cm:=M7 (decide (x.z<0) != decide (y.z<0)) (x.z.natAbs*y.z.natAbs) (by omega);rw[sH]at cm;dsimp only[GI.D]at*;refine fR 0 ?_;refine Fp ⟨[(2,.optr 0 0 2 0 0),(3,.optr 1 1 2 0 0),(4,.optr 2 2 2 0 0)],[⟨2,2,109,2,[CG 0]⟩,⟨1,1,109,2,[.agg [i64 y.s,y.w]]⟩,⟨0,0,109,2,[.agg [i64 x.s,x.w]]⟩],90⟩ ?_ ?_
 ·obtain⟨a,sa⟩:=x
  obtain⟨b,sb⟩:=y;clear cx cy lm ca cm hpr;have nx:sa=false->(Ad a.natAbs).map AS≠[]:=λh=>Ia (by
   intro h0;subst h;exact hx.2 rfl ⟨by dsimp only;omega,by dsimp only;omega⟩)
  have ny:sb=false->(Ad b.natAbs).map AS≠[]:=λh=>Ia (by
   intro h0;subst h;exact hy.2 rfl ⟨by dsimp only;omega,by dsimp only;omega⟩)
  unfold GI.s GI.w wD wL at*;dsimp only at*;generalize(Ad a.natAbs).map AS=ka at*;generalize(Ad b.natAbs).map AS=kb at*;cases sa with
  |false=>
   have nx:=nx rfl;dsimp only at*;generalize(if a<0 then(-1:Int)else 1)=sg at*;generalize(match sb with|true=>b|false=>if b<0 then(-1:Int)else 1)=sh at*;generalize(match sb with|true=>CS|false=>D.sl false 1 kb)=wy at*;refine AC.seq ?_;refine An 100 ?_;refine AW (BG (@ne_eq (List D)) nx E5) ?_;refine AF kT ?_;refine AF kT ?_;refine AK ?_;refine Ag ?_;exact A7 (by trivial) (AN)
  |true=>
   dsimp only at*;cases sb with
   |false=>
    have ny:=ny rfl;dsimp only at*;generalize(if b<0 then(-1:Int)else 1)=sh at*;refine AC.seq ?_;refine An 100 ?_;refine AW (BG (@ne_eq (List D)) ny E5) ?_;refine AF (Bo kT (@ne_eq (List D)) ny E5) ?_;refine AF (Bo kT (@ne_eq (List D)) ny E5) ?_;refine AK ?_;refine Ag ?_;exact A7 (by trivial) (AN)
   |true=>
    have ra:=hx.1 rfl;have rb:=hy.1 rfl;dsimp only at*;have sa:=QU ra.1 ra.2;have sb:=QU rb.1 rb.2;have la:a.natAbs<BB:=by unfold BB;omega
    have lb:b.natAbs<BB:=by unfold BB;omega
    have c0:=OE a.natAbs b.natAbs la lb;have hab:a.natAbs*b.natAbs=(a*b).natAbs:=(KJ a b).symm;have hbig:9223372036854775807<(a*b).natAbs:=DA λh=>hn ⟨rfl,rfl,by omega⟩
    rw[hab]at c0;generalize(a*b).natAbs=p at*;refine sZ 100 ?_
    repeat'(first|(refine A7 (by exact Bu) ?_;refine BA ?_)|((refine Bn (λhb=>?_) (λhb=>?_))<;>(try simp only[BZ,Bl]at hb)<;>(try simp only[hb])<;>(refine BA ?_)))
    refine AK ?_;refine AC.seq ?_;refine B0 200 [0,1,2,3,4,5,6,7,8,9,10] [11] ?_;refine A9 ?_;refine BN.same _ (sa) AJ ?_;refine A9 ?_;refine BN.same _ (sb) AJ ?_;refine A9 ?_;refine BN.same _ (c0) AJ ?_;refine A9 ?_;refine AC.seq ?_
    by_cases h0:p/18446744073709551616=0
    ·rw[h0]
     have h1:p%18446744073709551616=p:=by omega
     rw[h1];have e3:decide ((p:Int)<=9223372036854775807)=false:=BY;refine An 300 ?_
     repeat'(first|(refine A7 (by exact Bu) ?_;refine BA ?_)|((refine Bn (λhb=>?_) (λhb=>?_))<;>(try simp only[BZ,Bl]at hb)<;>(try simp only[hb])<;>(refine BA ?_)))
     rw[e3];refine AK ?_;refine Ag ?_;exact A7 (by trivial) (AN)
    ·have e3:(((p/18446744073709551616:Nat):Int)==0)=false:=B8.2 (by omega)
     refine An 300 ?_;refine AW e3 ?_;refine AF e3 ?_;refine AF e3 ?_;refine AK ?_;refine Ag ?_;exact A7 (by trivial) (AN)
 ·refine fR 700 ?_
  refine dI cx ?_;refine fR 800 ?_;refine dI cy ?_;refine fR 900 ?_;refine dI ca ?_;refine dI cm ?_;refine AX ?_;exact AM rfl AA.out
theorem pd (a b:Int)(hc:Sm (a*b))(ha : -9223372036854775808<=a/\a<9223372036854775808)(hb : -9223372036854775808<=b/\b<9223372036854775808):AI C0 133 [CG a,CG b] (CG (a*b)):=by
 refine Ac.walk w1 S0 rfl λF=>?_
 have hab:a.natAbs*b.natAbs=(a*b).natAbs:=(KJ a b).symm;have h1:a.natAbs*b.natAbs/18446744073709551616=0:=by rw[hab];have:=hc.1;have:=hc.2;omega
 have h2:a.natAbs*b.natAbs%18446744073709551616=(a*b).natAbs:=by rw[hab];have:=hc.1;have:=hc.2;omega
 have c0:=OE a.natAbs b.natAbs (by omega) (by omega);rw[h1,h2]at c0;refine fR 0 ?_;refine AC.seq ?_;refine sZ 100 ?_
 repeat'(first|(refine A7 (by exact Bu) ?_;refine BA ?_)|((refine Bn (λhb=>?_) (λhb=>?_))<;>(try simp only[BZ,Bl]at hb)<;>(try simp only[hb])<;>(refine BA ?_)))
 refine AK ?_;refine AC.seq ?_;refine B0 200 [0,1,2,3,4,5,6,7,8,9,10] [11] ?_;refine A9 ?_;refine BN.same _ (QU ha.1 ha.2) AJ ?_;refine A9 ?_;refine BN.same _ (QU hb.1 hb.2) AJ ?_;refine A9 ?_;refine BN.same _ (c0) AJ ?_;refine A9 ?_;refine sZ 300 ?_
 repeat'(first|(refine A7 (by exact Bu) ?_;refine BA ?_)|((refine Bn (λhb=>?_) (λhb=>?_))<;>(try simp only[BZ,Bl]at hb)<;>(try simp only[hb])<;>(refine BA ?_)))
 have e3:decide ((((a*b).natAbs:Nat):Int)<=9223372036854775807)=true:=Ax (by have:=hc.1;have:=hc.2;omega);rw[e3];refine AK ?_;refine AC.seq ?_;refine fR 400 ?_;refine AK ?_;have e4:IntKind.i64.wrap (((a*b).natAbs:Nat):Int)=((a*b).natAbs:Nat):=wN (by have:=hc.1;have:=hc.2;omega)
 (refine Bn (λh41=>?_) (λh41=>?_))<;>(try simp only[BZ,Bl]at h41)<;>(try simp only[h41])
 ·have e5:IntKind.i64.wrap (0-(((a*b).natAbs:Nat):Int)) = -((a*b).natAbs:Nat):=by
   rw[wI (by have:=hc.1;have:=hc.2;omega) (by have:=hc.1;have:=hc.2;omega)];omega
  have e6 : -(((a*b).natAbs:Nat):Int)=a*b:=by
   have hs:(a<0)≠(b<0):=by simpa using h41
   have:a*b<=0:=by
    by_cases h1:a<0
    ·have h2:¬b<0:=λh2=>hs (by simp[h1,h2])
     exact YV (by omega) (by omega)
    ·have h2:b<0:=DA λh2=>hs (by simp[h1,h2])
     exact YU (by omega) (by omega)
   omega
  refine sZ 500 ?_;refine HS (BG e4 e5 e6) ?_;refine AX ?_;exact AM rfl AA.out
 ·have e6:(((a*b).natAbs:Nat):Int)=a*b:=by
   have hs:¬((a<0)≠(b<0)):=by simpa using h41
   have:0<=a*b:=by
    by_cases h1:a<0
    ·have h2:b<0:=DA λh2=>hs (by simp[h1,h2])
     exact YT (by omega) (by omega)
    ·have h2:¬b<0:=λh2=>hs (by simp[h1,h2])
     exact Int.mul_nonneg (by omega) (by omega)
   omega
  rw[e6]at e4;refine Ag ?_;refine sZ 600 ?_;refine HS (Ae e6 e4) ?_;refine AX ?_;exact AM rfl AA.out
theorem kW (x y:GI)(hx:x.wf)(hy:y.wf)(fx:(Ad x.z.natAbs).length<400000)(fy:(Ad y.z.natAbs).length<400000):AI C0 133 [x.D,y.D] (AY (x.z*y.z)).D:=by
 by_cases h:x.sm=true/\y.sm=true/\(x.z*y.z).natAbs<=9223372036854775807
 ·obtain⟨a,sa⟩:=x
  obtain⟨b,sb⟩:=y;obtain⟨h1,h2,h3⟩:=h;dsimp only at h1 h2 h3;subst h1;subst h2;have hs:Sm (a*b):=⟨by omega,by omega⟩
  dsimp only;rw[Km hs];exact pd a b hs (hx.1 rfl) (hy.1 rfl)
 ·exact tg x y hx hy fx fy h
def Nc (x:GI):GI:=if x.z<0 then AY (-x.z)else x
theorem vf (x:GI):(Nc x).z=(x.z.natAbs:Nat):=by
 unfold Nc;split
 ·show -x.z=_;omega
 ·omega
theorem tP (x:GI)(h:x.wf):(Nc x).wf:=by
 unfold Nc;split
 ·exact Ch _
 ·exact h
theorem jW (x:GI)(h:x.wf)(hf:x.few):AI C0 219 [x.D] (Nc x).D:=by
 refine Ac.walk w1 Ww rfl λF=>?_
 have hs:=jL x h;have cn:=Oi x h hf;have hpx:AA x.w:=AJ;have hpr:AA (AY (-x.z)).w:=AJ;unfold Nc
 by_cases hz:x.z<0
 ·have e:decide (x.s<0)=true:=Ax (by rw[hs];exact hz)
  rw[AH hz];dsimp only[GI.D]at*;refine fR 0 ?_;refine AC.seq ?_;refine fR 100 ?_;rw[e];refine AK ?_;refine fR 200 ?_;refine dI cn ?_;refine AX ?_;exact AM rfl AA.out
 ·have e:decide (x.s<0)=false:=Az (by rw[hs];exact hz)
  rw[AG hz];dsimp only[GI.D]at*;refine fR 0 ?_;refine AC.seq ?_;refine fR 100 ?_;rw[e];refine AK ?_;refine Ag ?_;refine fR 300 ?_;refine AX ?_;exact AM rfl AA.out
structure My (B Y u1 u0:Nat)(q r:Nat):Prop where
 eq:q*(Y/B)+r=u1
 up:u1*B+u0<(q+1)*Y
 q2:q<=B+1
theorem ZA {B Y u1 u0:Nat}(hB:0<B)(hY:B*B<=2*Y)(hY2:Y<B*B)(hev:B%2=0)(hu:u1<Y)(h0:u0<B):
  My B Y u1 u0 (u1/(Y/B)) (u1-u1/(Y/B)*(Y/B))/\u1-u1/(Y/B)*(Y/B)<B:=by
 have e:=Fq Y B;have m:=CJ Y hB;generalize hg:Y/B=y1 at*;generalize Y%B=y0 at*;have hy1:y1<B:=by
  rcases BL y1 B with h|h
  ·exact h
  ·have:=Cj B h
   omega
 have hy2:B<=2*y1:=by
  rcases BL (2*y1) B with h|h
  ·exfalso
   have h1:2*y1+2<=B:=by omega
   have h2:=Cj B h1;have h3:B*(2*y1+2)=2*(B*y1)+2*B:=by
    rw[BQ,JX,Bd B 2]
   omega
  ·exact h
 have e1:=Fq u1 y1;have m1:=CJ u1 (show 0<y1 by omega);have c1:y1*(u1/y1)=u1/y1*y1:=Bd _ _;refine⟨⟨by rw[hg];omega,?_,?_⟩,by omega⟩
 ·generalize hq:u1/y1=q at*
  have h1:u1+1<=(q+1)*y1:=by rw[B1];omega
  have h2:=CQ B h1;have h3:(q+1)*Y=(q+1)*y1*B+(q+1)*y0:=by
   rw[<-e,BQ,Bd B y1,CE]
  rw[B1]at h2;omega
 ·rcases BL (B+1) (u1/y1)with h|h
  ·exfalso
   have h1:=Cj y1 (show B+2<=u1/y1 by omega);have h2:y1*(B+2)=B*y1+2*y1:=by rw[BQ,Bd y1 B,Bd y1 2]
   omega
  ·exact h
theorem ZP {B Y u1 u0 q r:Nat}(hB:0<B)(hu:u1<Y)(h0:u0<B)(I:My B Y u1 u0 q r)
  (c:B<=q\/B*r+u0<q*(Y%B)):0<q/\My B Y u1 u0 (q-1) (r+Y/B):=by
 have e:=Fq Y B;obtain⟨i1,i2,i3⟩:=I;generalize hg:Y/B=y1 at*;generalize Y%B=y0 at*;have hq:0<q:=by
  rcases c with c|c
  ·omega
  ·rcases EC q with h|h
   ·subst h;omega
   ·exact h
 obtain⟨p,rfl⟩:∃p,q=p+1:=⟨q-1,by omega⟩
 refine⟨hq,⟨?_,?_,?_⟩⟩
 ·rw[JW,hg,Bd p];rw[B1,Bd p]at i1;omega
 ·rw[JW]
  rcases c with c|c
  ·have h1:=CQ Y c
   have h2:(u1+1)*B<=Y*B:=CQ B hu;rw[B1]at h2;rw[Bd Y B]at h2;omega
  ·have h3:(p+1)*Y=(p+1)*y1*B+(p+1)*y0:=by
    rw[<-e,BQ,Bd B y1,CE]
   have h4:u1*B=(p+1)*y1*B+r*B:=by rw[<-i1,B1]
   rw[Bd r B]at h4;omega
 ·omega
theorem VL {B Y u1 u0 q r:Nat}(I:My B Y u1 u0 q r)
  (c:q*(Y%B)<=B*r+u0):q=(u1*B+u0)/Y:=by
 have e:=Fq Y B;obtain⟨i1,i2,i3⟩:=I;have h3:q*Y=q*(Y/B)*B+q*(Y%B):=by
  conv=>lhs;rw[<-e]
  rw[BQ,Bd B (Y/B),CE]
 have h4:u1*B=q*(Y/B)*B+r*B:=by rw[<-i1,B1]
 rw[Bd r B]at h4;have h5:0<Y:=by
  rcases EC Y with h|h
  ·subst h;omega
  ·exact h
 symm
 apply Nat.div_eq_of_lt_le
 ·omega
 ·exact i2
theorem Y9 {B Y u1 u0 q r:Nat}(hB:0<B)(I:My B Y u1 u0 q r)(hq:q<=B)(hr:B<=r):
  q=(u1*B+u0)/Y:=by
 refine VL I ?_;have m:=CJ Y hB;have h1:q*(Y%B)<=B*B:=GK hq (by omega);have h2:=Cj B hr;omega
theorem oF {B N S y u32 u1 u0 v:Nat}(hS:0<S)(hy:0<y)(hN:N*S=u32*(B*B)+(u1*B+u0))(hv:v=(u32*B+u1)%(y*S)):
  (u32*B+u1)/(y*S)*B+(v*B+u0)/(y*S)=N/y/\(v*B+u0)%(y*S)/S=N%y:=by
 have hY0:0<y*S:=HQ hy hS;have e1:=Fq (u32*B+u1) (y*S);have e2:=Fq (v*B+u0) (y*S);have m2:=CJ (v*B+u0) hY0;rw[<-hv]at e1;have dY:N*S/(y*S)=N/y:=RN _ _ hS;have mY:N*S%(y*S)=N%y*S:=RO _ _ _;generalize(u32*B+u1)/(y*S)=q1 at*;generalize(v*B+u0)/(y*S)=q0 at*;generalize(v*B+u0)%(y*S)=r at*;generalize y*S=Y at*;have hT:N*S=r+Y*(q1*B+q0):=by
  have c1:u32*(B*B)+u1*B=Y*q1*B+v*B:=by
   rw[<-CE,<-B1,<-e1,B1]
  rw[hN,BQ,<-CE Y q1 B];omega
 refine⟨?_,?_⟩
 ·rw[<-dY,hT,UE _ _ hY0,Iw m2,BX]
 ·rw[hT,UJ,GG m2]at mY
  rw[mY,Nat.mul_div_cancel _ hS]
theorem s7 {hi lo y s:Nat}(hs:s<=63)(h1:hi<y)(hlo:lo<18446744073709551616):
  lo/2^(64-s)<2^s/\hi*2^s+lo/2^(64-s)<y*2^s /\
   (hi*18446744073709551616+lo)*2^s=(hi*2^s+lo/2^(64-s))*18446744073709551616+lo*2^s%18446744073709551616:=by
 have hp:0<2^s:=Ht s;have hpp:2^(64-s)*2^s=18446744073709551616:=by
  rw[<-Gt,show 64-s+s=64 by omega]
 have hl:lo*2^s/18446744073709551616=lo/2^(64-s):=by
  rw[<-hpp,RN _ _ hp]
 have hl2:lo/2^(64-s)<2^s:=Fs (by rw[hpp];exact hlo);refine⟨hl2,?_,?_⟩
 ·have:(hi+1)*2^s<=y*2^s:=CQ _ h1
  rw[B1]at this;omega
 ·have e:=Fq (lo*2^s) 18446744073709551616
  rw[hl]at e;rw[B1,B1,Nat.mul_right_comm];omega
theorem XJ {a b s:Nat}(h:b<2^s):(a*2^s) ||| b=a*2^s+b:=by
 rw[Bd,Nat.two_pow_add_eq_or_of_lt h]
theorem kU (x:Nat)(hx:x<BB):AI C0 239 [AS x] (i64 (64-(Lib.bitLen x:Int))):=by
 refine⟨⟨_,_,Tryz.func239,rfl,by kernel_rfl⟩,λY w vs hG hnG hX hvs hr=>?_⟩
 have:=SA hvs hr
 subst this;refine(Tryz.bits_LeadingZeros64 x w (by omega) (by unfold BB at hx;omega)).mono ?_;rintro e w' ⟨rfl,rfl⟩;exact⟨_,_,rfl,.refl _ _,rfl,.prim _⟩
theorem ZK {x:Nat}(h0:x≠0)(hx:x<BB):∃s,s<=63/\(64-(Lib.bitLen x:Int))=(s:Nat)/\9223372036854775808<=x*2^s/\x*2^s<18446744073709551616:=by
 obtain⟨h1,h2,h3⟩:=Lib.bitLenAux_bounds 64 x hx h0;have h4:=Lib.bitLen_le x 64 (Am _) hx;have h5:Lib.bitLenAux 64 x=Lib.bitLen x:=rfl;rw[h5]at h1 h2 h3;refine⟨64-Lib.bitLen x,by omega,by omega,?_,?_⟩
 ·have:=CQ (2^(64-Lib.bitLen x)) h2
  rw[<-Gt,show Lib.bitLen x-1+(64-Lib.bitLen x)=63 by omega]at this;exact this
 ·have:=(Nat.mul_lt_mul_right (Ht (64-Lib.bitLen x))).2 h3
  rw[<-Gt,show Lib.bitLen x+(64-Lib.bitLen x)=64 by omega]at this;exact this
theorem Jm (n:Nat):IntKind.u64.wrap (n:Int)=((n%18446744073709551616:Nat):Int):=by
 have e1:(2:Int)^IntKind.u64.bits=18446744073709551616:=rfl;unfold IntKind.wrap;simp only[e1];have e3:IntKind.u64.signed=false:=rfl;rw[e3];simp only[JV,Iu,if_false];omega
theorem Qo (x s:Nat)(hs:s<=63):MO .u64 (x:Int) (s:Int)=((x*2^s%18446744073709551616:Nat):Int):=by
 have hm:min ((s:Int)).toNat (IntKind.bits .u64)=s:=by
  have:IntKind.bits .u64=64:=rfl
  rw[this];omega
 unfold MO;rw[hm]
 have:(x:Int)*2^s=((x*2^s:Nat):Int):=by simp
 rw[this];exact Jm _
theorem Oo (x s:Nat)(hs:s<=64):Nh .u64 (x:Int) (s:Int)=((x/2^s:Nat):Int):=by
 have hm:min ((s:Int)).toNat (IntKind.bits .u64)=s:=by
  have:IntKind.bits .u64=64:=rfl
  rw[this];omega
 unfold Nh;rw[hm]
 have:(2:Int)^s=((2^s:Nat):Int):=by simp
 rw[this,Int.fdiv_eq_ediv_of_nonneg _ (Int.natCast_nonneg _)];exact(Int.natCast_ediv _ _).symm
theorem Tt (a:Nat)(ha:a<18446744073709551616):(BitVec.ofInt (IntKind.bits .u64) (a:Int)).toNat=a:=by
 rw[show IntKind.bits .u64=64 from rfl,BitVec.ofInt_natCast,BitVec.toNat_ofNat];exact GG ha
theorem YD (a b:Nat)(ha:a<18446744073709551616)(hb:b<18446744073709551616):H7 .or .u64 (a:Int) (b:Int)=((a ||| b:Nat):Int):=by
 have h:a ||| b<2^64:=Nat.or_lt_two_pow ha hb;show IntKind.u64.wrap ((BitVec.ofInt (IntKind.bits .u64) (a:Int) ||| BitVec.ofInt (IntKind.bits .u64) (b:Int)).toNat:Int)=_;rw[BitVec.toNat_or,Tt a ha,Tt b hb,Jm];exact congrArg Nat.cast (GG h)
theorem jZ (a:Nat)(ha:a<18446744073709551616):H7 .and .u64 (a:Int) 4294967295=((a%4294967296:Nat):Int):=by
 show IntKind.u64.wrap ((BitVec.ofInt (IntKind.bits .u64) (a:Int) &&& BitVec.ofInt (IntKind.bits .u64) ((4294967295:Nat):Int)).toNat:Int)=_;rw[BitVec.toNat_and,Tt a ha,Tt _ (by decide),Jm,show(4294967295:Nat)=2^32-1 from rfl,Nat.and_two_pow_sub_one_eq_mod];exact congrArg Nat.cast (Jh)
theorem Xa (a b:Nat):IntKind.u64.wrap ((a:Int).tdiv (b:Int))=((a/b%18446744073709551616:Nat):Int):=by
 rw[<-Int.ofNat_tdiv];exact Jm _
theorem jN {a b:Nat}(h:b<=a)(ha:a<18446744073709551616):IntKind.u64.wrap ((a:Int)-(b:Int))=((a-b:Nat):Int):=by
 rw[<-Int.natCast_sub h,Jm];exact congrArg Nat.cast (Jh)
section
variable {C:BH} {B F:AZ} {s:St} {rd:Option Nat} {Q:Exit->AZ->St->Prop}
theorem UC {a b:Code}(S:Nat->St)(h1:AC C B rd F a s (λe F1 s1=>J8 (F1=F/\∃n,Wk s1 (S n)) (λe=>Q e F1 s1) e))(h2:∀n,AC C B rd F b (S n) Q):AC C B rd F (.seq a b) s Q:=
 AC.seq (h1.mono λe F1 s1 h=>by
  cases e with
  |normal=>
   obtain⟨h0,n,h3⟩:=(show F1=F/\∃n,Wk s1 (S n)from h)
   rw[h0];exact AC.weak (S n) h3 (h2 n)
  |ret=>exact h
  |exit j=>exact h
  |goto l=>exact h
  |panic c=>exact h
  |outgrown=>exact h)
end
theorem OK (z:Int):IntKind.u64.wrap z=z%18446744073709551616:=by
 have e1:(2:Int)^IntKind.u64.bits=18446744073709551616:=rfl;unfold IntKind.wrap;simp only[e1];have e3:IntKind.u64.signed=false:=rfl;rw[e3];simp only[JV,Iu,if_false]
theorem n8 (a b:Nat)(ha:a<4294967296)(hb:b<4294967296):IntKind.u64.wrap (IntKind.u64.wrap ((a:Int)*4294967296)+(b:Int))=((a*4294967296+b:Nat):Int):=by
 rw[OK,OK];omega
theorem Zz (a c q Y:Nat)(hY:0<Y)(hY2:Y<18446744073709551616)(hq:q=(a*4294967296+c)/Y):
  IntKind.u64.wrap (IntKind.u64.wrap (IntKind.u64.wrap ((a:Int)*4294967296)+(c:Int))-IntKind.u64.wrap ((q:Int)*(Y:Int)))=(((a*4294967296+c)%Y:Nat):Int):=by
 have e:=Fq (a*4294967296+c) Y;have m:=CJ (a*4294967296+c) hY;rw[<-hq,Bd Y q]at e;generalize(a*4294967296+c)%Y=v at*;rw[<-FF q Y];generalize q*Y=Q at*;rw[OK,OK,OK,OK];omega
structure v6 (hi lo y s Y u u10:Nat):Prop where
 s63:s<=63
 eY:Y=y*2^s
 big:9223372036854775808<=Y
 Yl:Y<18446744073709551616
 uY:u<Y
 u10l:u10<18446744073709551616
 N:(hi*BB+lo)*2^s=u*18446744073709551616+u10
 e8:MO .u64 (y:Int) (s:Int)=(Y:Int)
 e9:Nh .u64 (Y:Int) 32=((Y/4294967296:Nat):Int)
 e10:H7 .and .u64 (Y:Int) 4294967295=((Y%4294967296:Nat):Int)
 ew:IntKind.u64.wrap (64-(s:Int))=((64-s:Nat):Int)
 e11:H7 .or .u64 (MO .u64 (hi:Int) (s:Int)) (Nh .u64 (lo:Int) ((64-s:Nat):Int))=(u:Int)
 e12:MO .u64 (lo:Int) (s:Int)=(u10:Int)
 e13:Nh .u64 (u10:Int) 32=((u10/4294967296:Nat):Int)
 e14:H7 .and .u64 (u10:Int) 4294967295=((u10%4294967296:Nat):Int)
theorem sT {hi lo y s:Nat}(h1:hi<y)(hlo:lo<BB)(hs:s<=63)(t1:9223372036854775808<=y*2^s)(t2:y*2^s<18446744073709551616):
  ∃Y u u10,v6 hi lo y s Y u u10:=by
 obtain⟨m1,m2,m3⟩:=s7 hs h1 hlo;have hpos:0<2^s:=Ht s;have hh:hi*2^s<18446744073709551616:=DD (Nat.le_add_right _ _) (Gs m2 t2);have hl:lo/2^(64-s)<18446744073709551616:=DD (GH _ _) hlo;refine⟨_,_,_,hs,rfl,t1,t2,m2,CJ _ (by decide),m3,?_,Oo _ 32 (by decide),jZ _ t2,?_,?_,Qo lo s hs,Oo _ 32 (by decide),jZ _ (CJ _ (by decide))⟩
 ·rw[Qo y s hs,GG t2]
 ·rw[wU];omega
 ·rw[Qo hi s hs,GG hh,Oo lo (64-s) (by omega),YD _ _ hh hl,XJ m1]
theorem bI (hi lo y:Nat)(h1:hi<y)(hlo:lo<BB)(hy:y<BB):AI C0 238 [AS hi,AS lo,AS y] (.tup [AS ((hi*BB+lo)/y),AS ((hi*BB+lo)%y)]):=by
 refine Ac.walk w1 ij rfl λF=>?_
 have y0:¬(y:Int)=0:=by omega
 have c1:((y:Int)==0)=false:=by simp;omega
 have c2:decide ((y:Int)<=(hi:Int))=false:=BY;refine sR 0 ?_;refine AC.seq ?_;refine sZ 100 ?_;refine AW c1 ?_;refine AK ?_;refine Ag ?_;refine AC.seq ?_;refine sZ 300 ?_;refine AW c2 ?_;refine AK ?_;refine Ag ?_;refine AC.seq ?_;refine sR 500 ?_;refine AK ?_
 (refine Bn (λh27=>?_) (λh27=>?_))<;>(try simp only[BZ,Bl]at h27)<;>(try simp only[h27])
 ·have hi0:hi=0:=by simpa using h27
  subst hi0;refine AC.seq ?_;refine B0 600 [0,1,2,3,4,5,6] [7] ?_;refine Bb ?_;refine AX ?_;refine AM ?_ AA.out;have l1:lo/y<18446744073709551616:=DD (GH _ _) hlo;rw[Xa,GG l1,HP,BX];rfl
 ·obtain⟨s,hs,es,t1,t2⟩:=ZK (x:=y) (by omega) hy
  have cl:=kU y hy;rw[es]at cl;have ws:IntKind.u64.wrap (s:Int)=(s:Int):=wU;obtain⟨Y,u,u10,L⟩:=sT h1 hlo hs t1 t2;have ew0:(0:Int)<=IntKind.u64.wrap (64-(s:Int)):=by rw[L.ew];omega
  refine Ag ?_;refine sR 700 ?_;refine cI cl ?_;rw[ws];refine sZ 800 ?_;refine AW L.e8 ?_;refine sZ 900 ?_;refine AW L.e9 ?_;refine sZ 1000 ?_;refine AW L.e10 ?_;refine sZ 1100 ?_;refine AF (Ae L.ew L.e11) ?_;refine sZ 1200 ?_;refine AW L.e12 ?_;refine sZ 1300 ?_;refine AW L.e13 ?_;refine sZ 1400 ?_;refine AW L.e14 ?_;have hB:2147483648<=Y/4294967296:=by have:=L.big;omega
  have hB2:Y/4294967296<4294967296:=by have:=L.Yl;omega
  have n0:¬((Y/4294967296:Nat):Int)=0:=by omega
  obtain⟨I0,r0⟩:=ZA (B:=4294967296) (u0:=u10/4294967296) (by decide) (by have:=L.big;omega) L.Yl (by decide) L.uY (by have:=L.u10l;omega);have q0l:=I0.q2;have hu64:u<18446744073709551616:=Gs L.uY L.Yl;have hqy:=Nat.div_mul_le_self u (Y/4294967296);have e15:IntKind.u64.wrap ((u:Int).tdiv ((Y/4294967296:Nat):Int))=((u/(Y/4294967296):Nat):Int):=by
   rw[Xa,Jh]
  have e16:IntKind.u64.wrap ((u:Int)-IntKind.u64.wrap (((u/(Y/4294967296):Nat):Int)*((Y/4294967296:Nat):Int)))=((u-u/(Y/4294967296)*(Y/4294967296):Nat):Int):=by
   rw[<-FF,Jm,Jh,jN hqy hu64]
  refine sZ 1500 ?_;refine AW e15 ?_;refine sZ 1600 ?_;refine AW e16 ?_;have hu1:u10/4294967296<4294967296:=by have:=L.u10l;omega
  have hy0:Y%4294967296<4294967296:=CJ _ (by decide);generalize hu1e:u10/4294967296=u1 at*;generalize hu0e:u10%4294967296=u0 at*;refine UC (λn=>⟨[(2,AS Y),(6,u64 0),(7,u64 0),(8,AS s),(9,AS (Y/4294967296)),(10,AS (Y%4294967296)),(11,AS u),(13,AS u1),(14,AS u0),(15,AS ((u*4294967296+u1)/Y))],[],n⟩) ?_ λn=>?_
  ·refine AC.block ?_
   refine HJ (α:=Nat×Nat×Nat) (λp=>⟨[(2,AS Y),(6,u64 0),(7,u64 0),(8,AS s),(9,AS (Y/4294967296)),(10,AS (Y%4294967296)),(11,AS u),(13,AS u1),(14,AS u0),(15,AS p.1),(16,AS p.2.1)],[],p.2.2⟩) (λp=>p.1)
    (λp F'=>F'=F/\My 4294967296 Y u u1 p.1 p.2.1/\p.2.1<4294967296) (_,_,_)
    ⟨rfl,I0,r0⟩ AN ?_
   rintro⟨q,r,m⟩ F' ⟨rfl,I,hr⟩;dsimp only at I hr⊢;have hq2:=I.q2;refine AC.seq ?_;obtain⟨b,hbt⟩:∃b:Bool,b=decide (4294967296<=q\/4294967296*r+u1<q*(Y%4294967296)):=⟨_,rfl⟩
   refine Fp ⟨[(2,AS Y),(6,u64 0),(7,u64 0),(8,AS s),(9,AS (Y/4294967296)),(10,AS (Y%4294967296)),(11,AS u),(13,AS u1),(14,AS u0),(15,AS q),(16,AS r),(78,Av b)],[],m+30⟩ ?_ ?_
   ·rcases BL q 4294967296 with hq|hq
    ·have e1:decide ((q:Int)>=4294967296)=false:=BY
     have hqy:q*(Y%4294967296)<=4294967295*4294967295:=GK (by omega) (by omega);have k1:IntKind.u64.wrap ((q:Int)*((Y%4294967296:Nat):Int))=((q*(Y%4294967296):Nat):Int):=by
      rw[<-FF,Jm,Jh]
     have k2:IntKind.u64.wrap (4294967296*(r:Int))=((4294967296*r:Nat):Int):=by rw[wU];omega
     have k3:IntKind.u64.wrap (((4294967296*r:Nat):Int)+(u1:Int))=((4294967296*r+u1:Nat):Int):=by rw[wU];omega
     have k4:decide (((q*(Y%4294967296):Nat):Int)>((4294967296*r+u1:Nat):Int))=b:=by
      rw[hbt];exact ED.2 ⟨λh=>Or.inr (by omega),λh=>by rcases h with h|h<;>omega⟩
     refine An 1700 ?_;refine AF e1 ?_;refine AF (Cw kF k1 k2 k3 k4) ?_;exact A7 (by trivial) (AN)
    ·have e1:decide ((q:Int)>=4294967296)=true:=BV
     have hb:b=true:=by rw[hbt];exact Ax (Or.inl hq)
     subst hb;refine An 1700 ?_;refine AF e1 ?_;refine AF kT ?_;exact A7 (by trivial) (AN)
   ·cases b
    ·have hc:=Da hbt.symm
     have hq:=VL I (by omega);subst hq;refine AK ?_;refine CM ?_;exact⟨rfl,_,AN⟩
    ·have hc:=DQ hbt.symm
     obtain⟨hq0,I2⟩:=ZP (by decide) L.uY hu1 I hc;have hq3:=I2.q2;have k1:IntKind.u64.wrap ((q:Int)-1)=((q-1:Nat):Int):=by rw[wU];omega
     have k2:IntKind.u64.wrap ((r:Int)+((Y/4294967296:Nat):Int))=((r+Y/4294967296:Nat):Int):=by rw[wU];omega
     refine AK ?_;refine Ag ?_;refine AC.block ?_;refine sZ 1800 ?_;refine AW k1 ?_;refine sZ 1900 ?_;refine AW k2 ?_;refine sR 2000 ?_;refine AK ?_
     (refine Bn (λh85=>?_) (λh85=>?_))<;>(try simp only[BZ,Bl]at h85)<;>(try simp only[h85])
     ·have hq:=Y9 (by decide) I2 (by omega) (by have:=DQ h85;omega)
      rw[hq];refine CM ?_;exact⟨rfl,_,AN⟩
     ·refine Ag ?_
      refine⟨(q-1,r+Y/4294967296,_),⟨rfl,I2,by have:=Da h85;dsimp only;omega⟩,by dsimp only;omega,AN⟩
  ·have hY0:0<Y:=by have:=L.big;omega
   have e21:=Zz u u1 _ Y hY0 L.Yl rfl;have q1l:(u*4294967296+u1)/Y<4294967296:=by
    refine Fs ?_
    have:(u+1)*4294967296<=Y*4294967296:=CQ _ L.uY
    rw[B1]at this;omega
   have hvY:(u*4294967296+u1)%Y<Y:=CJ _ hY0;have tr:=oF (B:=4294967296) (N:=hi*BB+lo) (S:=2^s) (y:=y) (u32:=u) (u1:=u1) (u0:=u0) (v:=(u*4294967296+u1)%Y) (Ht s) (by omega) (by rw[L.N];omega) (by rw[L.eY]);rw[<-L.eY]at tr;clear e15 e16 I0 r0 q0l hqy;obtain⟨q1,hq1e⟩:∃x,x=(u*4294967296+u1)/Y:=⟨_,rfl⟩
   rw[<-hq1e]at e21 q1l tr⊢;obtain⟨v,hve⟩:∃x,x=(u*4294967296+u1)%Y:=⟨_,rfl⟩
   rw[<-hve]at e21 hvY tr;have hu0:u0<4294967296:=by rw[<-hu0e];exact CJ _ (by decide)
   obtain⟨J0,s0⟩:=ZA (B:=4294967296) (u0:=u0) (by decide) (by have:=L.big;omega) L.Yl (by decide) hvY hu0;have q0l:=J0.q2;have hv64:v<18446744073709551616:=Gs hvY L.Yl;have hqy:=Nat.div_mul_le_self v (Y/4294967296);have e22:IntKind.u64.wrap ((v:Int).tdiv ((Y/4294967296:Nat):Int))=((v/(Y/4294967296):Nat):Int):=by
    rw[Xa,Jh]
   have e23:IntKind.u64.wrap ((v:Int)-IntKind.u64.wrap (((v/(Y/4294967296):Nat):Int)*((Y/4294967296:Nat):Int)))=((v-v/(Y/4294967296)*(Y/4294967296):Nat):Int):=by
    rw[<-FF,Jm,Jh,jN hqy hv64]
   refine sZ 2100 ?_;refine AW e21 ?_;refine sZ 2200 ?_;refine AW e22 ?_;refine sZ 2300 ?_;refine AW e23 ?_;refine UC (λn=>⟨[(2,AS Y),(6,u64 0),(7,u64 0),(8,AS s),(9,AS (Y/4294967296)),(10,AS (Y%4294967296)),(11,AS u),(13,AS u1),(14,AS u0),(15,AS q1),(17,AS v),(18,AS ((v*4294967296+u0)/Y))],[],n⟩) ?_ λn=>?_
   ·refine AC.block ?_
    refine HJ (α:=Nat×Nat×Nat) (λp=>⟨[(2,AS Y),(6,u64 0),(7,u64 0),(8,AS s),(9,AS (Y/4294967296)),(10,AS (Y%4294967296)),(11,AS u),(13,AS u1),(14,AS u0),(15,AS q1),(17,AS v),(18,AS p.1),(16,AS p.2.1)],[],p.2.2⟩) (λp=>p.1)
     (λp F'=>F'=F/\My 4294967296 Y v u0 p.1 p.2.1/\p.2.1<4294967296) (_,_,_)
     ⟨rfl,J0,s0⟩ AN ?_
    rintro⟨q,r,m⟩ F' ⟨rfl,I,hr⟩;dsimp only at I hr⊢;have hq2:=I.q2;refine AC.seq ?_;obtain⟨b,hbt⟩:∃b:Bool,b=decide (4294967296<=q\/4294967296*r+u0<q*(Y%4294967296)):=⟨_,rfl⟩
    refine Fp ⟨[(2,AS Y),(6,u64 0),(7,u64 0),(8,AS s),(9,AS (Y/4294967296)),(10,AS (Y%4294967296)),(11,AS u),(13,AS u1),(14,AS u0),(15,AS q1),(17,AS v),(18,AS q),(16,AS r),(113,Av b)],[],m+30⟩ ?_ ?_
    ·rcases BL q 4294967296 with hq|hq
     ·have e1:decide ((q:Int)>=4294967296)=false:=BY
      have hqy:q*(Y%4294967296)<=4294967295*4294967295:=GK (by omega) (by omega);have k1:IntKind.u64.wrap ((q:Int)*((Y%4294967296:Nat):Int))=((q*(Y%4294967296):Nat):Int):=by
       rw[<-FF,Jm,Jh]
      have k2:IntKind.u64.wrap (4294967296*(r:Int))=((4294967296*r:Nat):Int):=by rw[wU];omega
      have k3:IntKind.u64.wrap (((4294967296*r:Nat):Int)+(u0:Int))=((4294967296*r+u0:Nat):Int):=by rw[wU];omega
      have k4:decide (((q*(Y%4294967296):Nat):Int)>((4294967296*r+u0:Nat):Int))=b:=by
       rw[hbt];exact ED.2 ⟨λh=>Or.inr (by omega),λh=>by rcases h with h|h<;>omega⟩
      refine An 2400 ?_;refine AF e1 ?_;refine AF (Cw kF k1 k2 k3 k4) ?_;exact A7 (by trivial) (AN)
     ·have e1:decide ((q:Int)>=4294967296)=true:=BV
      have hb:b=true:=by rw[hbt];exact Ax (Or.inl hq)
      subst hb;refine An 2400 ?_;refine AF e1 ?_;refine AF kT ?_;exact A7 (by trivial) (AN)
    ·cases b
     ·have hc:=Da hbt.symm
      have hq:=VL I (by omega);subst hq;refine AK ?_;refine CM ?_;exact⟨rfl,_,AN⟩
     ·have hc:=DQ hbt.symm
      obtain⟨hq0,I2⟩:=ZP (by decide) hvY hu0 I hc;have hq3:=I2.q2;have k1:IntKind.u64.wrap ((q:Int)-1)=((q-1:Nat):Int):=by rw[wU];omega
      have k2:IntKind.u64.wrap ((r:Int)+((Y/4294967296:Nat):Int))=((r+Y/4294967296:Nat):Int):=by rw[wU];omega
      refine AK ?_;refine Ag ?_;refine AC.block ?_;refine sZ 2500 ?_;refine AW k1 ?_;refine sZ 2600 ?_;refine AW k2 ?_;refine sR 2700 ?_;refine AK ?_
      (refine Bn (λh120=>?_) (λh120=>?_))<;>(try simp only[BZ,Bl]at h120)<;>(try simp only[h120])
      ·have hq:=Y9 (by decide) I2 (by omega) (by have:=DQ h120;omega)
       rw[hq];refine CM ?_;exact⟨rfl,_,AN⟩
      ·refine Ag ?_
       refine⟨(q-1,r+Y/4294967296,_),⟨rfl,I2,by have:=Da h120;dsimp only;omega⟩,by dsimp only;omega,AN⟩
   ·have e28:=Zz v u0 _ Y hY0 L.Yl rfl
    have hm28:(v*4294967296+u0)%Y<Y:=CJ _ hY0;have q2l:(v*4294967296+u0)/Y<4294967296:=by
     refine Fs ?_
     have:(v+1)*4294967296<=Y*4294967296:=CQ _ hvY
     rw[B1]at this;omega
    have k1:=n8 q1 ((v*4294967296+u0)/Y) q1l q2l;have k2:=Oo ((v*4294967296+u0)%Y) s (by omega);rw[tr.1]at k1;rw[tr.2]at k2;refine sZ 2800 ?_;refine AF (BG k1 e28 k2) ?_;refine AX ?_;exact AM rfl AA.out
theorem ZG {n2 v1 P U V q:Nat}(hU:U<(n2+1)*P)(hV:v1*P<=V)(hq:n2+1<=(q+1)*v1):U<(q+1)*V:=by
 have h1:=CQ P hq;have h2:=Cj (q+1) hV;rw[CE]at h1;omega
theorem Ze {n3 D P U V q:Nat}(hU:U<(n3+1)*P)(hV:D*P<=V)(hq:n3<q*D):U<q*V:=by
 have h1:=CQ P (show n3+1<=q*D from hq);have h2:=Cj q hV;rw[CE]at h1;omega
theorem Zt {n3 D P U V q B v:Nat}(hU:n3*P<=U)(hV:V=D*P+v)(hv:v<P)(hq:q*D<=n3)(hqB:q<=B)(hD:B<=D):q*V<=U+V:=by
 have h1:=CQ P hq;rw[CE]at h1;have h2:q*v<=B*P:=GK hqB (by omega);have h3:=CQ P hD;have h4:q*V=q*(D*P)+q*v:=by rw[hV,BQ]
 omega
theorem ZO {c x s:Nat}(hs:s<=63)(hc:c<2^s)(hx:x<18446744073709551616):
  c |||(x*2^s%18446744073709551616)=c+x*2^s%18446744073709551616/\c+x*2^s%18446744073709551616<18446744073709551616 /\
   c+x*2^s%18446744073709551616+18446744073709551616*(x/2^(64-s))=c+x*2^s/\x/2^(64-s)<2^s:=by
 have hp:0<2^s:=Ht s;have hpp:2^(64-s)*2^s=18446744073709551616:=by
  rw[<-Gt,show 64-s+s=64 by omega]
 have hl:x*2^s/18446744073709551616=x/2^(64-s):=by
  rw[<-hpp,RN _ _ hp]
 have hm:x*2^s%18446744073709551616=x%2^(64-s)*2^s:=by
  rw[<-hpp,RO]
 have hl2:x/2^(64-s)<2^s:=Fs (by rw[hpp];exact hx);have e:=Fq (x*2^s) 18446744073709551616;rw[hl]at e;have ho:c |||(x*2^s%18446744073709551616)=c+x*2^s%18446744073709551616:=by
  rw[hm,Nat.or_comm,XJ hc,MY]
 have hlt:c+x*2^s%18446744073709551616<18446744073709551616:=by
  rw[hm]
  have:(x%2^(64-s)+1)*2^s<=2^(64-s)*2^s:=CQ _ (CJ _ (Ht _))
  rw[hpp,B1]at this;omega
 exact⟨ho,hlt,by omega,hl2⟩
structure TZ (w out:List Nat)(s i c:Nat):Prop where
 le:i<=w.length
 len:out.length=w.length+1
 wd:Wd out
 val:AT out=AT (w.take i)*2^s
 at_:out[i]?=some c
 cl:c<2^s
 zero:∀k,i<k->∀d,out[k]?=some d->d=0
theorem ub {w out:List Nat}{s i c x:Nat}(hs:s<=63)(hw:Wd w)(hi:i<w.length)(hx:w[i]?=some x)(I:TZ w out s i c):
  TZ w ((out.set i (c+x*2^s%18446744073709551616)).set (i+1) (x/2^(64-s))) s (i+1) (x/2^(64-s)):=by
 have hxl:x<BB:=hw x (A8 hx);obtain⟨_,d2,d3,d4⟩:=ZO hs I.cl hxl;obtain⟨z,hz⟩:∃z,out[i+1]?=some z:=⟨out[i+1]'(by have:=I.len;omega),B4 _⟩
 have hz0:=I.zero _ (IU i) z hz;subst hz0;have s1:=Ka (d:=c+x*2^s%18446744073709551616) I.at_;have hz1:(out.set i (c+x*2^s%18446744073709551616))[i+1]?=some 0:=by rw[JR (by omega)];exact hz
 have s2:=Ka (d:=x/2^(64-s)) hz1;have hbx:AT (w.take (i+1))=AT (w.take i)+BB^i*x:=by rw[F6 hx,HW (i:=i) (by rw[Be];omega)]
 have hhi:x/2^(64-s)<BB:=DD (GH _ _) hxl;refine⟨by omega,by rw[Dt,Dt];exact I.len,(I.wd.set d2).set hhi,?_,?_,d4,λk hk d hd=>?_⟩
 ·have e1:BB^(i+1)*(x/2^(64-s))=BB^i*(18446744073709551616*(x/2^(64-s))):=by rw[CT,CE]
  have e2:BB^i*(c+x*2^s%18446744073709551616+18446744073709551616*(x/2^(64-s)))=BB^i*(c+x*2^s):=by rw[d3]
  rw[BQ,BQ _ c (x*2^s)]at e2;rw[hbx,B1,<-I.val,CE];omega
 ·rw[YQ (by rw[Dt];have:=I.len;omega)]
 ·rw[JR (by omega),JR (by omega)]at hd
  exact I.zero k (by omega) d hd
def Up (w:List Nat)(s:Nat)(H:Hp)(n:Nat)(d:D)(H':Hp)(n':Nat):Prop:=
 ∃(out:List Nat) (g:Nat),out.length=w.length+1/\Wd out/\AT out=AT w*2^s/\d=.osl 103 g 1 0 (w.length+1)/\H'=⟨103,g,271,1,out.map AS⟩::H/\n<=n'
theorem ZR (w:List Nat)(s:Nat)(hs:s<=63)(hw:Wd w)(hl:w.length<4000000)(H:Hp)(n:Nat):C4 C0 240 [wL w,i64 s] H n (Up w s H n):=by
 refine C4.walk w1 ik rfl λF=>?_
 unfold wL;have ew:(((w.map AS).length:Nat):Int)=(w.length:Int):=by rw[Al]
 have wl:IntKind.i64.wrap ((w.length:Int)+1)=((w.length+1:Nat):Int):=by rw[wI];omega
 have r3:List.replicate (w.length+1) (ofV (.int .u64 0))=(List.replicate (w.length+1) 0).map AS:=by rw[LD];rfl
 refine sR 0 ?_;refine sZ 100 ?_;refine AW (BG ew wl kN) ?_;refine AC.seq ?_;refine sZ 200 ?_;refine AW ew ?_;obtain⟨g,hg⟩:∃g,g=n+1+1+1+1:=⟨_,rfl⟩
 rw[<-hg];have I0:TZ w (List.replicate (w.length+1) 0) s 0 0:=⟨Bg _,by simp,OF _,by simp[AT,Rp],by simp,Ht s,λk _ d hd=>RF (A8 hd)⟩
 refine AC.weak ⟨[(0,.sl false 1 (w.map AS)),(1,i64 s),(4,CS),(5,.osl 103 g 1 0 (w.length+1)),(12,.sl false 1 (w.map AS)),(13,i64 w.length),(14,i64 0)],⟨103,g,271,1,(List.replicate (w.length+1) 0).map AS⟩::H,n+30⟩ (by rw[<-r3];exact AN) ?_;refine AC.block ?_;refine AC.loop (α:=Nat×Nat×List Nat×Nat) (λp=>⟨[(0,.sl false 1 (w.map AS)),(1,i64 s),(4,CS),(5,.osl 103 g 1 0 (w.length+1)),(12,.sl false 1 (w.map AS)),(13,i64 w.length),(14,i64 p.1)],⟨103,g,271,1,p.2.2.1.map AS⟩::H,p.2.2.2⟩) (λp=>w.length-p.1)
  (λp=>TZ w p.2.2.1 s p.1 p.2.1/\n<=p.2.2.2) (0,0,List.replicate (w.length+1) 0,n+30)
  ⟨I0,Nat.le_add_right _ _⟩ AN ?_
 rintro⟨i,c,o,m⟩ F ⟨I,hm⟩;dsimp only at I hm⊢;refine sR 300 ?_;refine AC.seq ?_;refine AK ?_
 (refine Bn (λh15=>?_) (λh15=>?_))<;>(try simp only[BZ,Bl]at h15)<;>(try simp only[h15])
 ·have hi:i<w.length:=by simpa using h15
  obtain⟨x,hx⟩:∃x,w[i]?=some x:=⟨w[i],B4 hi⟩
  have hx':=Dj hx;have hc':=Dj I.at_;have hxl:x<BB:=hw x (A8 hx);obtain⟨d1,d2,d3,d4⟩:=ZO hs I.cl hxl;have J:=ub hs hw hi hx I;have e5:H7 .or .u64 (c:Int) (MO .u64 (x:Int) (s:Int))=((c+x*2^s%18446744073709551616:Nat):Int):=by
   rw[Qo x s hs,YD _ _ (by omega) (CJ _ (by decide)),d1]
  refine Ag ?_;refine AC.seq ?_;refine AC.block ?_;refine sR 400 ?_;refine CN kT hx' ?_;refine Bb ?_;refine AC.seq ?_;refine B0 500 [0,1,2,3,4,5,6] [7,8,9] ?_;refine AF (Bo e5 kN BX hc') ?_;refine Ea rfl rfl ?_;refine Oc rfl rfl rfl hc' ?_;refine AF @map_set ?_;refine AC.seq ?_;obtain⟨z,hz⟩:∃z,o[i+1]?=some z:=⟨o[i+1]'(by have:=I.len;omega),B4 _⟩
  have hz0:=I.zero _ (IU i) z hz;subst hz0;have hz1:(o.set i (c+x*2^s%18446744073709551616))[i+1]?=some 0:=by rw[JR (by omega)];exact hz
  have hz':=Dj hz1;have wi:IntKind.i64.wrap ((i:Int)+1)=((i+1:Nat):Int):=wI;rcases EC s with hs0|hs0
  ·have e1:decide ((s:Int)>0)=false:=BY
   have hx0:x/2^(64-s)=0:=by rw[hs0];exact Iw hxl
   have hset:(o.set i (c+x*2^s%18446744073709551616)).set (i+1) 0=o.set i (c+x*2^s%18446744073709551616):=by
    refine RH λk=>?_
    rcases Nat.decEq (i+1) k with hk|hk
    ·rw[JR hk]
    ·subst hk
     rw[YQ (by have:=(BR.1 hz1).1;exact this),hz1]
   rw[hx0,hset]at J;refine An 600 ?_;refine AW e1 ?_;refine AK ?_;refine Ag ?_;refine An 800 ?_;refine AW wi ?_;refine⟨(i+1,0,o.set i (c+x*2^s%18446744073709551616),m+200),⟨J,by dsimp only;omega⟩,by dsimp only;omega,AN⟩
  ·have e1:decide ((s:Int)>0)=true:=BV
   have w64:IntKind.i64.wrap (64-(s:Int))=((64-s:Nat):Int):=by rw[wI];omega
   have w640:(0:Int)<=IntKind.i64.wrap (64-(s:Int)):=by rw[w64];omega
   have e36:=Oo x (64-s) (by omega);refine An 600 ?_;refine AW e1 ?_;refine AK ?_;refine An 700 ?_;refine AF (Fd wi w64 e36 kN BX hz') ?_
   try rw[map_set]
   refine An 800 ?_;refine AW wi ?_;refine⟨(i+1,x/2^(64-s),(o.set i (c+x*2^s%18446744073709551616)).set (i+1) (x/2^(64-s)),m+200),⟨J,by dsimp only;omega⟩,by dsimp only;omega,AN⟩
 ·have hi:i=w.length:=by
   have:¬i<w.length:=by simpa using h15
   have:=I.le
   omega
  subst hi;have hv:=I.val;rw[Ci (Am _)]at hv;refine CM ?_;refine sR 900 ?_;refine AX ?_;exact⟨o,g,I.len,I.wd,hv,rfl,rfl,by omega⟩
section
variable {C:BH} {B F:AZ} {s:St} {rd:Option Nat} {Q:Exit->AZ->St->Prop}
theorem C9 {a b:Code}{α:Type}(S:α->St)(J:α->Prop)(h1:AC C B rd F a s (λe F1 s1=>J8 (F1=F/\∃x,J x/\Wk s1 (S x)) (λe=>Q e F1 s1) e))(h2:∀x,J x->AC C B rd F b (S x) Q):AC C B rd F (.seq a b) s Q:=
 AC.seq (h1.mono λe F1 s1 h=>by
  cases e with
  |normal=>
   obtain⟨h0,x,hx,h3⟩:=(show F1=F/\∃x,J x/\Wk s1 (S x)from h)
   rw[h0];exact AC.weak (S x) h3 (h2 x hx)
  |ret=>exact h
  |exit j=>exact h
  |goto l=>exact h
  |panic c=>exact h
  |outgrown=>exact h)
end
theorem nj {q v c:Nat}(hq:q<BB)(hv:v<BB)(hc:c<BB):
  (q*v%BB+c)%BB+BB*(q*v/BB+(q*v%BB+c)/BB)=q*v+c/\q*v/BB+(q*v%BB+c)/BB<BB:=by
 have hqv:q*v<=(18446744073709551616-1)*(18446744073709551616-1):=GK (by unfold BB at hq;omega) (by unfold BB at hv;omega);have hk:(18446744073709551616-1)*(18446744073709551616-1)=340282366920938463426481119284349108225:=by decide
 rw[hk]at hqv;generalize q*v=p at*;have e1:=FX p BB;have e2:=FX (p%BB+c) BB;have l1:=CJ p (show BB>0 by decide);have l2:=CJ (p%BB+c) (show BB>0 by decide);unfold BB at*;generalize p/18446744073709551616=A at*;generalize p%18446744073709551616=D at*;generalize(D+c)/18446744073709551616=E at*;generalize(D+c)%18446744073709551616=G at*;omega
theorem Ca {l:List Nat}{i:Nat}(h:i<l.length):∃a,l[i]?=some a:=⟨l[i],B4 h⟩
theorem YB {l:List Nat}{k a:Nat}(hl:l.length=k+1)(ha:l[k]?=some a):AT l=AT (l.take k)+BB^k*a:=by
 rw[Ln ha,IR (by omega)];simp[AT]
theorem e2A {l:List Nat}{k a b:Nat}(hl:l.length=k+2)(ha:l[k]?=some a)(hb:l[k+1]?=some b):AT l=AT (l.take k)+BB^k*(a+BB*b):=by
 rw[Ln ha]
 have:l.drop (k+1)=[b]:=by
  rw[E3 (by omega),IR (by omega)]
  congr 1
  exact(BR.1 hb).2
 rw[this];simp[AT]
theorem e2B {l:List Nat}{k a b c:Nat}(hl:l.length=k+3)(ha:l[k]?=some a)(hb:l[k+1]?=some b)(hc:l[k+2]?=some c):AT l=AT (l.take k)+BB^k*(a+BB*(b+BB*c)):=by
 rw[Ln ha];have h1:=YB (l:=l.drop (k+1)) (k:=1) (a:=c) (by rw[D4];omega) (by rw[Gb,FG];exact hc);have h2:(l.drop (k+1)).take 1=[b]:=by
  rw[E3 (by omega)];simp only[List.take_succ_cons,LJ]
  congr 1
  exact(BR.1 hb).2
 rw[h1,h2];simp[AT]
structure OQ (P v:List Nat)(m p0 p1 p2 v2 v1:Nat):Prop where
 lP:P.length=m+3
 lv:v.length=m+2
 wP:Wd P
 wv:Wd v
 h0:P[m]?=some p0
 h1:P[m+1]?=some p1
 h2:P[m+2]?=some p2
 g2:v[m]?=some v2
 g1:v[m+1]?=some v1
 top:0<v1
 less:AT P<AT v*BB
namespace OQ
variable {P v:List Nat} {m p0 p1 p2 v2 v1:Nat} (S:OQ P v m p0 p1 p2 v2 v1)
include S
theorem valP:AT P=AT (P.take m)+BB^m*(p0+BB*(p1+BB*p2)):=e2B S.lP S.h0 S.h1 S.h2
theorem valv:AT v=AT (v.take m)+BB^m*(v2+BB*v1):=e2A S.lv S.g2 S.g1
theorem lowP:AT (P.take m)<BB^m:=by
 have:=Id (S.wP.take m)
 rwa [Be,FW (by have:=S.lP;omega)]at this
theorem lowv:AT (v.take m)<BB^m:=by
 have:=Id (S.wv.take m)
 rwa [Be,FW (by have:=S.lv;omega)]at this
theorem p0l:p0<BB:=S.wP _ (A8 S.h0)
theorem p1l:p1<BB:=S.wP _ (A8 S.h1)
theorem p2l:p2<BB:=S.wP _ (A8 S.h2)
theorem v1l:v1<BB:=S.wv _ (A8 S.g1)
theorem v2l:v2<BB:=S.wv _ (A8 S.g2)
theorem below3:AT P<(p0+BB*(p1+BB*p2)+1)*BB^m:=by
 rw[S.valP,B1,IT,Bd (BB^m)]
 have:=S.lowP
 omega
theorem below2:AT P<(p1+BB*p2+1)*BB^(m+1):=by
 have h:=S.below3;have h1:=S.p0l;generalize p1+BB*p2=t at*;have h2:(p0+BB*t+1)*BB^m<=(BB*(t+1))*BB^m:=CQ _ (by rw[BQ BB t 1];omega);have h3:(t+1)*BB^(m+1)=(BB*(t+1))*BB^m:=by rw[CT,Bd (BB^m) BB,<-CE,Bd (t+1) BB]
 omega
theorem abovev:v1*BB^(m+1)<=AT v:=by
 rw[S.valv,CT,BQ]
 have:v1*(BB^m*BB)=BB^m*(BB*v1):=by rw[Bd v1,CE]
 omega
theorem abovev2:(v2+BB*v1)*BB^m<=AT v:=by
 rw[S.valv,Bd];omega
theorem pos:0<AT v:=Cb (HQ S.top (Nat.pow_pos (by decide))) S.abovev
theorem p2v1:p2<=v1:=by
 rcases BL v1 p2 with h|h
 ·exfalso
  have e1:BB^(m+2)*p2<=AT P:=by
   rw[S.valP,BQ,BQ,BQ]
   have:BB^(m+2)*p2=BB^m*(BB*(BB*p2)):=by rw[CT,CT,CE,CE]
   omega
  have e2:AT v<BB^(m+1)*(v1+1):=by
   have h1:=S.lowv;have h2:=S.v2l;have e3:BB^(m+1)*(v1+1)=BB^m*(BB*v1+BB):=by rw[CT,CE,BQ,EQ]
   have e4:BB^m*(v2+BB*v1+1)<=BB^m*(BB*v1+BB):=Cj _ (by omega);rw[BQ _ _ 1,EQ]at e4;rw[S.valv,e3];omega
  have e5:BB^(m+1)*(v1+1)*BB=BB^(m+2)*(v1+1):=by rw[Nat.mul_right_comm,<-CT]
  have e6:BB^(m+2)*(v1+1)<=BB^(m+2)*p2:=Cj _ h;have e7:(AT v)*BB<=BB^(m+1)*(v1+1)*BB:=CQ _ (KO e2)
  have:=S.less
  omega
 ·exact h
end OQ
theorem pj {B q v2 r c p0:Nat}(hq:q<B)(hv:v2<B)(h:0<c\/q*v2<=r*B+p0):q*v2<=(r+B*c)*B+p0:=by
 rcases h with h|h
 ·have h2:q*v2<=B*B:=GK (by omega) (by omega)
  have h4:B*1<=B*c:=Cj _ h;have h3:B*B<=(r+B*c)*B:=CQ _ (by omega);omega
 ·have h3:r*B<=(r+B*c)*B:=CQ _ (by omega)
  omega
structure NN (U V n2 v1 q r c:Nat):Prop where
 eq:q*v1+(r+BB*c)=n2
 up:U<(q+1)*V
 qB:q<BB
 rB:r<BB
 c1:c<=1
section
variable {P v:List Nat} {m p0 p1 p2 v2 v1:Nat} (S:OQ P v m p0 p1 p2 v2 v1)
include S
theorem pk (h:v1<=p2):NN (AT P) (AT v) (p1+BB*p2) v1 18446744073709551615 ((p1+v1+0)%BB) ((p1+v1+0)/BB):=by
 have h1:p2=v1:=Nat.le_antisymm S.p2v1 h;have h2:=S.less;have h3:=S.p1l;have h4:=S.v1l;have e:=FX (p1+v1+0) BB;refine⟨?_,?_,by decide,CJ _ (by decide),?_⟩
 ·rw[e,h1]
  show 18446744073709551615*v1+(p1+v1+0)=p1+18446744073709551616*v1;omega
 ·rw[Bd];exact h2
 ·have:p1+v1+0<2*BB:=by omega
  exact PL (Fs (by rw[Bd];exact this))
theorem nW (h:p2<v1):NN (AT P) (AT v) (p1+BB*p2) v1 ((p2*BB+p1)/v1) ((p2*BB+p1)%v1) 0:=by
 have c0:p2*BB+p1=p1+BB*p2:=by rw[Bd,MY]
 rw[c0];have e:=Fq (p1+BB*p2) v1;have l:=CJ (p1+BB*p2) S.top;have h3:=S.p1l;have h4:=S.v1l;have c1:=Bd v1 ((p1+BB*p2)/v1);refine⟨by omega,ZG S.below2 S.abovev ?_,?_,by omega,by decide⟩
 ·rw[B1];omega
 ·refine Fs ?_
  have:BB*(p2+1)<=BB*v1:=Cj _ h
  rw[BQ]at this;rw[Bd v1];omega
theorem oP {q r:Nat}(G:NN (AT P) (AT v) (p1+BB*p2) v1 q r 0)(h:r*BB+p0<q*v2):
  0<q/\NN (AT P) (AT v) (p1+BB*p2) v1 (q-1) ((r+v1+0)%BB) ((r+v1+0)/BB):=by
 obtain⟨e,u,b,rb,_⟩:=G;rcases EC q with h0|h0
 ·subst h0;omega
 obtain⟨k,rfl⟩:∃k,q=k+1:=⟨q-1,by omega⟩
 have e1:=FX (r+v1+0) BB;have h4:=S.v1l;have e2:(k+1)*(v2+BB*v1)=(k+1)*v2+BB*((k+1)*v1):=by rw[BQ,JX]
 have hn3:p0+BB*(p1+BB*p2)<(k+1)*(v2+BB*v1):=by
  rw[e2,<-e,BQ BB,FJ,Dm r,Bd BB r];omega
 refine⟨by omega,⟨?_,?_,by omega,CJ _ (by decide),?_⟩⟩
 ·rw[JW,e1,<-e,B1];omega
 ·rw[JW];exact Ze S.below3 S.abovev2 hn3
 ·have:r+v1+0<2*BB:=by omega
  exact PL (Fs (by rw[Bd];exact this))
theorem Zd {q r c:Nat}(G:NN (AT P) (AT v) (p1+BB*p2) v1 q r c)(h:0<c\/q*v2<=r*BB+p0):q*AT v<=AT P+AT v:=by
 obtain⟨e,u,b,rb,c1⟩:=G;have h5:=S.v2l;have hq:q*v2<=(r+BB*c)*BB+p0:=pj b h5 h;have e2:q*(v2+BB*v1)=q*v2+BB*(q*v1):=by rw[BQ,JX]
 refine Zt (n3:=p0+BB*(p1+BB*p2)) (D:=v2+BB*v1) (P:=BB^m) (B:=BB) (v:=AT (v.take m)) ?_ ?_ S.lowv ?_ (by omega) ?_
 ·rw[S.valP,Bd];omega
 ·rw[S.valv,Bd];omega
 ·rw[e2,<-e,BQ BB]
  have:BB*(r+BB*c)=(r+BB*c)*BB:=Bd _ _
  omega
 ·have:=S.top
  have h1:=Cj BB (show 1<=v1 from this);omega
end
theorem oQ {x r p0:Nat}(hp:p0<BB):(x/BB<r\/x/BB=r/\x%BB<=p0)↔x<=r*BB+p0:=by
 have e:=Fq x BB;have l:=CJ x (show 0<BB by decide);generalize x/BB=h at*;generalize x%BB=d at*;unfold BB at*;omega
theorem VU {U V q N:Nat}(h:N+q*V=U+0)(hu:U<(q+1)*V):U/V=q/\U%V=N:=by
 have h1:U=N+V*q:=by rw[Bd];omega
 have h2:N<V:=by rw[B1]at hu;omega
 subst h1;exact⟨by rw[UE _ _ (by omega),Iw h2,BX],by rw[UJ,GG h2]⟩
theorem aW {U V q N N3 T c:Nat}(h:N+q*V=U+T)(hN:N<T)(hu:q*V<=U+V)(h3:N3+T*c=N+V)(hc:c<=1)(h3l:N3<T):0<q/\U/V=q-1/\U%V=N3:=by
 rcases EC q with h0|h0
 ·subst h0;omega
 obtain⟨k,rfl⟩:∃k,q=k+1:=⟨q-1,by omega⟩
 rw[B1,IT]at h hu;have hc1:c=1:=by
  rcases EC c with h4|h4
  ·subst h4;omega
  ·omega
 subst hc1;have h5:N3+k*V=U+0:=by omega
 have h6:U<(k+1)*V:=by rw[B1];omega
 obtain⟨a,b⟩:=VU h5 h6;exact⟨by omega,by rw[a];omega,b⟩
theorem mi {A P v:List Nat}{q i z x d b c b' c' lo:Nat}(hz:A[i]?=some z)(hx:v[i]?=some x)(hI:AT A+q*AT (v.take i)=AT P+BB^i*(c+b))
  (h1:lo+BB*c'=q*x+c) (h2:d+lo+b=z+BB*b'):AT (A.set i d)+q*AT (v.take (i+1))=AT P+BB^(i+1)*(c'+b'):=by
 have hs:=Ka (d:=d) hz;have hi:i<v.length:=(BR.1 hx).1;rw[F6 hx,HW (i:=i) (by rw[Be];omega),BQ,JX q,CT,CE];have e:BB^i*(d+q*x+(c+b))=BB^i*(z+BB*(c'+b')):=by congr 1;rw[BQ BB];omega
 rw[BQ,BQ,BQ (BB^i) z]at e;omega
theorem mj {A P:List Nat}{i z d X b c b':Nat}(hz:A[i]?=some z)(hI:AT A+X=AT P+BB^i*(c+b))(h2:d+c+b=z+BB*b'):AT (A.set i d)+X=AT P+BB^(i+1)*b':=by
 have hs:=Ka (d:=d) hz;rw[CT,CE];have e:BB^i*(d+(c+b))=BB^i*(z+BB*b'):=by congr 1;omega
 rw[BQ,BQ (BB^i) z]at e;omega
theorem me {A P v:List Nat}{i z x c:Nat}(hz:A[i]?=some z)(hx:v[i]?=some x)(hI:AT A+BB^i*c=AT P+AT (v.take i)):
  AT (A.set i ((z+x+c)%BB))+BB^(i+1)*((z+x+c)/BB)=AT P+AT (v.take (i+1)):=by
 have hs:=Ka (d:=(z+x+c)%BB) hz;have hi:i<v.length:=(BR.1 hx).1;rw[F6 hx,HW (i:=i) (by rw[Be];omega),CT,CE];have e:BB^i*((z+x+c)%BB+BB*((z+x+c)/BB))=BB^i*(z+x+c):=by rw[FX]
 rw[BQ,BQ,BQ (BB^i) z]at e;omega
theorem mg {A:List Nat}{i z c X:Nat}(hz:A[i]?=some z)(hI:AT A+BB^i*c=X):
  AT (A.set i ((z+c)%BB))+BB^(i+1)*((z+c)/BB)=X:=by
 have hs:=Ka (d:=(z+c)%BB) hz;rw[CT,CE];have e:BB^i*((z+c)%BB+BB*((z+c)/BB))=BB^i*(z+c):=by rw[FX]
 rw[BQ,BQ (BB^i) z]at e;omega
theorem NE {A P Z:List Nat}{i z:Nat}(h:P[i]?=some z):((A++(P++Z)).map AS)[A.length+i]?=some (AS z):=by
 have hi:i<P.length:=(BR.1 h).1;refine Dj ?_;rw[Ek (by omega),MX,FZ hi];exact h
theorem Sg {A P Z:List Nat}{i d:Nat}(hi:i<P.length):((A++(P++Z)).map AS).set (A.length+i) (AS d)=(A++(P.set i d++Z)).map AS:=by
 rw[map_set,PG _ _ (by omega),MX,List.set_append_left _ _ hi]
set_option maxHeartbeats 2000000
def tO (A P Z v:List Nat)(gq Tq gu:Nat)(qs:List D)(d:D)(H':Hp)(_:Nat):Prop:=
 ∃P':List Nat,P'.length=P.length/\Wd P'/\AT P'=AT P%AT v/\d=AS (AT P/AT v)/\H'=[⟨1505,gq,Tq,1,qs⟩,⟨103,gu,271,1,(A++(P'++Z)).map AS⟩]
theorem uQ (A P Z v:List Nat)(m p0 p1 p2 v2 v1:Nat)(S:OQ P v m p0 p1 p2 v2 v1)(hm:A.length+m<4000000)(gq Tq gu:Nat)(qs:List D)(n:Nat):
  C4 C0 241 [.osl 103 gu 1 A.length (m+3),wL v] [⟨1505,gq,Tq,1,qs⟩,⟨103,gu,271,1,(A++(P++Z)).map AS⟩] n (tO A P Z v gq Tq gu qs):=by
 refine C4.walk w1 il rfl λF=>?_
 unfold wL;have hPl:=S.lP;have hvl:=S.lv;have ev:(((v.map AS).length:Nat):Int)=((m+2:Nat):Int):=by rw[Al,hvl]
 have k1:IntKind.i64.wrap (((m+2:Nat):Int)-1)=((m+1:Nat):Int):=by rw[wI];omega
 have k2:IntKind.i64.wrap (((m+2:Nat):Int)-2)=(m:Int):=by rw[wI];omega
 have hp0:=NE (A:=A) (Z:=Z) S.h0;have hp1:=NE (A:=A) (Z:=Z) S.h1;have hp2:=NE (A:=A) (Z:=Z) S.h2;have hv1:=Dj S.g1;have hv2:=Dj S.g2;have l0:=S.p0l;have l1:=S.p1l;have l2:=S.p2l;have lv1:=S.v1l;have lv2:=S.v2l;refine sR 0 ?_;refine sZ 100 ?_;refine AW ev ?_;refine sR 200 ?_;refine sR 300 ?_;refine C9 (α:=Nat×Nat×Nat×Nat) (λp=>⟨[(0,.osl 103 gu 1 A.length (m+3)),(1,.sl false 1 (v.map AS)),(5,i64 ((m+2:Nat):Int)),(6,AS p.1),(7,AS p.2.1),(8,AS p.2.2.1)],[⟨1505,gq,Tq,1,qs⟩,⟨103,gu,271,1,(A++(P++Z)).map AS⟩],p.2.2.2⟩)
  (λp=>NN (AT P) (AT v) (p1+BB*p2) v1 p.1 p.2.1 p.2.2.1) ?_ ?_
 ·refine AC.seq ?_
  refine B0 400 [0,1,2,3,4,5,6,7,8] [9] ?_;refine AF (BG kN k1 hp2) ?_;refine CN kT hv1 ?_;refine AF (BG kN k1 hp2) ?_;rcases BL p2 v1 with h|h
  ·have e1:decide ((p2:Int)>=(v1:Int))=false:=BY
   have G:=nW S h;rw[e1];refine AK ?_;refine B0 700 [0,1,2,3,4,5,6,7,8,9,10,11,12,13,14,15,16,17,18] [19] ?_;refine AF (Bo kN k1 hp2 hp1) ?_;refine CN kT hv1 ?_;refine AF (Bo kN k1 hp2 hp1) ?_;refine BN.same _ (bI p2 p1 v1 h l1 lv1) AJ ?_;refine Bb ?_;exact⟨trivial,⟨(p2*BB+p1)/v1,(p2*BB+p1)%v1,0,_⟩,G,AN⟩
  ·have e1:decide ((p2:Int)>=(v1:Int))=true:=BV
   have G:=pk S h;rw[e1];refine AK ?_;refine sR 500 ?_;refine B0 600 [0,1,2,3,4,5,6,7,8,9,10,11,12,13,14] [15] ?_;refine AF (Bo kN k1 hp2 hp1) ?_;refine CN kT hv1 ?_;refine AF (Bo kN k1 hp2 hp1) ?_;exact⟨trivial,⟨18446744073709551615,(p1+v1+0)%BB,(p1+v1+0)/BB,_⟩,G,AN⟩
 rintro⟨q0,r0,c0,n0⟩ G0;dsimp only at G0⊢;refine C9 (α:=Nat×Nat) (λp=>⟨[(0,.osl 103 gu 1 A.length (m+3)),(1,.sl false 1 (v.map AS)),(5,i64 ((m+2:Nat):Int)),(6,AS p.1)],[⟨1505,gq,Tq,1,qs⟩,⟨103,gu,271,1,(A++(P++Z)).map AS⟩],p.2⟩)
  (λp=>p.1<BB/\AT P<(p.1+1)*AT v/\p.1*AT v<=AT P+AT v) ?_ ?_
 ·refine AC.block ?_
  refine HJ (α:=Nat×Nat×Nat×Nat) (λp=>⟨[(0,.osl 103 gu 1 A.length (m+3)),(1,.sl false 1 (v.map AS)),(5,i64 ((m+2:Nat):Int)),(6,AS p.1),(7,AS p.2.1),(8,AS p.2.2.1)],[⟨1505,gq,Tq,1,qs⟩,⟨103,gu,271,1,(A++(P++Z)).map AS⟩],p.2.2.2⟩)
   (λp=>p.1) (λp F'=>F'=F/\NN (AT P) (AT v) (p1+BB*p2) v1 p.1 p.2.1 p.2.2.1) (q0,r0,c0,n0) ⟨rfl,G0⟩ AN ?_
  rintro⟨q,r,c,n1⟩ F' ⟨rfl,G⟩;dsimp only at G⊢;refine AC.seq ?_;refine AC.seq ?_;rcases EC c with hc|hc
  ·subst hc
   have e8:(((0:Nat):Int)==0)=true:=rfl;refine An 800 ?_;refine AW e8 ?_;refine AK ?_;refine Ag ?_;refine AC.block ?_;have lq:=G.qB;have cm:=OE q v2 lq lv2;refine sZ 900 ?_;refine AF (Ae kN k2) ?_;refine CN kT hv2 ?_;refine AF (Ae kN k2) ?_;refine BI.same _ cm AJ ?_;refine Bb ?_;have ht:=oQ (x:=q*v2) (r:=r) l0;obtain⟨b,hb⟩:∃b:Bool,b=decide (q*v2<=r*BB+p0):=⟨_,rfl⟩
   refine AC.seq ?_;refine Fp ⟨[(0,.osl 103 gu 1 A.length (m+3)),(1,.sl false 1 (v.map AS)),(5,i64 ((m+2:Nat):Int)),(6,AS q),(7,AS r),(91,Av b)],[⟨1505,gq,Tq,1,qs⟩,⟨103,gu,271,1,(A++(P++Z)).map AS⟩],n1+100⟩ ?_ ?_
   ·change(q*v2/18446744073709551616<r\/q*v2/18446744073709551616=r/\q*v2%18446744073709551616<=p0)↔_ at ht
    generalize q*v2/18446744073709551616=hi at*;generalize q*v2%18446744073709551616=lo at*;rcases BL hi r with h|h
    ·have e1:decide ((hi:Int)<(r:Int))=true:=BV
     have hb1:b=true:=by rw[hb];exact Ax (ht.1 (.inl h))
     subst hb1;refine An 1000 ?_;refine AF e1 ?_;refine AF kT ?_;exact A7 (by trivial) (AN)
    ·have e1:decide ((hi:Int)<(r:Int))=false:=BY
     rcases Nat.eq_or_lt_of_le h with h2|h2
     ·have e2:((hi:Int)==(r:Int))=true:=EW.2 (by omega)
      have e3:decide ((lo:Int)<=(p0:Int))=b:=by
       rw[hb];exact ED.2 ⟨λh3=>ht.1 (.inr ⟨h2.symm,by omega⟩),λh3=>by rcases ht.2 h3 with h4|h4<;>omega⟩
      refine An 1000 ?_;refine AF e1 ?_;refine AF (Ae kF e2) ?_;refine AF (Fd kF e2 kN k2 hp0 e3) ?_;exact A7 (by trivial) (AN)
     ·have e2:((hi:Int)==(r:Int))=false:=B8.2 (by omega)
      have hb1:b=false:=by rw[hb];exact Az λh3=>by rcases ht.2 h3 with h4|h4<;>omega
      subst hb1;refine An 1000 ?_;refine AF e1 ?_;refine AF kF ?_;simp only[e2];refine AF (Ae kF Iu) ?_;exact A7 (by trivial) (AN)
   ·cases b
    ·have hn:=Da hb.symm
     obtain⟨hq0,G2⟩:=oP S G (by omega);have j1:IntKind.u64.wrap ((q:Int)-1)=((q-1:Nat):Int):=by rw[wU (by omega) (by have:=G.qB;unfold BB at this;omega)];omega
     refine AK ?_;refine Ag ?_;refine sZ 1100 ?_;refine AW j1 ?_;refine An 1200 ?_;refine AF (Ae kN k1) ?_;refine CN kT hv1 ?_;refine AF (Ae kN k1) ?_;exact⟨(q-1,(r+v1+0)%BB,(r+v1+0)/BB,_),⟨trivial,G2⟩,by dsimp only;omega,AN⟩
    ·have hn:=DQ hb.symm
     refine AK ?_;refine CM ?_;exact⟨rfl,⟨q,_⟩,⟨G.qB,G.up,Zd S G (.inr hn)⟩,AN⟩
  ·have e8:((c:Int)==0)=false:=B8.2 (by omega)
   refine An 800 ?_;refine AW e8 ?_;refine AK ?_;refine CM ?_;exact⟨rfl,⟨q,_⟩,⟨G.qB,G.up,Zd S G (.inl hc)⟩,AN⟩
 rintro⟨q,n1⟩ ⟨hq,hup,hdn⟩;dsimp only at hq hup hdn⊢;clear hp0 hp1 hp2;refine sR 1300 ?_;refine AC.seq ?_;refine sR 1400 ?_;refine AC.block ?_;refine AC.loop (α:=Nat×Nat×Nat×List Nat×Nat) (λp=>⟨[(0,.osl 103 gu 1 A.length (m+3)),(1,.sl false 1 (v.map AS)),(5,i64 ((m+2:Nat):Int)),(6,AS q),(11,AS p.2.1),(12,AS p.2.2.1),(104,i64 ((m+2:Nat):Int)),(105,i64 p.1)],[⟨1505,gq,Tq,1,qs⟩,⟨103,gu,271,1,(A++(p.2.2.2.1++Z)).map AS⟩],p.2.2.2.2⟩) (λp=>m+2-p.1)
  (λp=>p.1<=m+2/\p.2.1<=1/\p.2.2.1<BB/\p.2.2.2.1.length=m+3/\Wd p.2.2.2.1/\AT p.2.2.2.1+q*AT (v.take p.1)=AT P+BB^p.1*(p.2.2.1+p.2.1)) (0,0,0,P,_) ⟨Bg _,Bg _,(show 0<BB by decide),hPl,S.wP,by simp[AT]⟩ AN ?_
 rintro⟨i,b,c,p,n2⟩ F ⟨hi,hb,hc,hpl,hpw,hI⟩;dsimp only at hi hb hc hpl hpw hI⊢;have hv1':=hv1;clear hv1 hv2;refine sR 1500 ?_;refine AC.seq ?_;refine AK ?_
 (refine Bn (λhlt=>?_) (λhlt=>?_))<;>(try simp only[BZ,Bl]at hlt)<;>(try simp only[hlt])
 ·have hi2:i<m+2:=by
   have:=DQ hlt
   omega
  obtain⟨x,hx⟩:=Ca (l:=v) (i:=i) (by omega);have hx':=Dj hx;have hxl:x<BB:=S.wv x (A8 hx);obtain⟨z,hz⟩:=Ca (l:=p) (i:=i) (by omega);have hz':=NE (A:=A) (Z:=Z) hz;have hzl:z<BB:=hpw z (A8 hz);have cm:=OE q x hq hxl;have md:=nj hq hxl hc;obtain⟨h,l,lo,k,c',eh,el,elo,ek,ec,hlo,hc',hmd⟩:∃h l lo k c',q*x/18446744073709551616=h/\q*x%18446744073709551616=l/\(l+c+0)%18446744073709551616=lo/\(l+c+0)/18446744073709551616=k/\h+k=c'/\lo<BB/\c'<BB/\lo+BB*c'=q*x+c:=
   ⟨_,_,_,_,_,rfl,rfl,rfl,rfl,rfl,CJ _ (by decide),md.2,md.1⟩
  rw[eh,el]at cm;have j1:IntKind.u64.wrap ((h:Int)+(k:Int))=(c':Int):=by rw[<-Int.natCast_add,ec];exact Yn hc'
  have hsub:=Vl (a:=z) (b:=lo) hb;have hdig:=VY hzl hlo hb;have hb':(if z<lo+b then 1 else 0)<=1:=by split<;>decide
  have hd:(z+BB-lo-b)%BB<BB:=CJ _ (by decide);generalize(if z<lo+b then 1 else 0)=b' at*;generalize(z+BB-lo-b)%BB=d at*;have wi:IntKind.i64.wrap ((i:Int)+1)=((i+1:Nat):Int):=wI;refine Ag ?_;refine AC.seq ?_;refine AC.block ?_;refine sR 1600 ?_;refine sZ 1700 ?_;refine AF kN ?_;refine CN kT hx' ?_;refine AF kN ?_;refine BI.same _ cm AJ ?_;refine Bb ?_;refine sR 1800 ?_;refine sZ 1900 ?_;refine AW (Ae elo ek) ?_;refine sZ 2000 ?_;refine AW j1 ?_;refine An 2100 ?_;refine AF (Ae kN hz') ?_
  first|(refine Ea rfl rfl ?_;refine So rfl rfl (hsub) ?_)|(refine FN rfl rfl ?_;refine QK rfl rfl (hsub) ?_)
  refine AF (Ae kN hz') ?_;rw[Sg (by omega)];refine An 2200 ?_;refine AW wi ?_;exact⟨(i+1,b',c',p.set i d,_),⟨hi2,hb',hc',by dsimp only;rw[Dt];exact hpl,hpw.set hd,mi hz hx hI hmd hdig⟩,by dsimp only;omega,AN⟩
 ·have hi2:i=m+2:=by
   have:=Da hlt
   omega
  subst hi2;rw[Gx]at hI;obtain⟨z,hz⟩:=Ca (l:=p) (i:=m+2) (by omega);have hz':=NE (A:=A) (Z:=Z) hz;have hzl:z<BB:=hpw z (A8 hz);have hsub:=Vl (a:=z) (b:=c) hb;have hdig:=VY hzl hc hb;have hb':(if z<c+b then 1 else 0)<=1:=by split<;>decide
  have hd:(z+BB-c-b)%BB<BB:=CJ _ (by decide);generalize(if z<c+b then 1 else 0)=b' at*;generalize(z+BB-c-b)%BB=d at*;have hT:=mj hz hI hdig;have hml:m+2<p.length:=by omega
  refine CM ?_;refine sZ 2300 ?_;refine AF (Ae kN hz') ?_
  first|(refine Ea rfl rfl ?_;refine So rfl rfl (hsub) ?_)|(refine FN rfl rfl ?_;refine QK rfl rfl (hsub) ?_)
  refine AF (Ae kN hz') ?_;rw[Sg hml];have hpl2:(p.set (m+2) d).length=m+3:=by rw[Dt];exact hpl
  have hpw2:=hpw.set (i:=m+2) hd;clear hz' hz hdig hsub hI;generalize p.set (m+2) d=p2 at*;refine AC.seq ?_;refine AC.seq ?_;rcases EC b' with hb0|hb0
  ·subst hb0
   have e24:(((0:Nat):Int)==0)=true:=rfl;obtain⟨ed,em⟩:=VU hT hup;refine An 2400 ?_;refine AW e24 ?_;refine AK ?_;refine sR 2500 ?_;refine AX ?_;exact⟨p2,by omega,hpw2,em.symm,by rw[ed],rfl⟩
  ·have hb1:b'=1:=by omega
   subst hb1;have e24:(((1:Nat):Int)==0)=false:=rfl;have hpL:=Id hpw2;rw[hpl2]at hpL;refine An 2400 ?_;refine AW e24 ?_;refine AK ?_;refine Ag ?_;refine sR 2600 ?_;refine AC.seq ?_;refine sR 2700 ?_;refine AC.block ?_;refine AC.loop (α:=Nat×Nat×List Nat×Nat) (λp=>⟨[(0,.osl 103 gu 1 A.length (m+3)),(1,.sl false 1 (v.map AS)),(5,i64 ((m+2:Nat):Int)),(6,AS q),(17,AS p.2.1),(156,i64 ((m+2:Nat):Int)),(157,i64 p.1)],[⟨1505,gq,Tq,1,qs⟩,⟨103,gu,271,1,(A++(p.2.2.1++Z)).map AS⟩],p.2.2.2⟩) (λp=>m+2-p.1)
    (λp=>p.1<=m+2/\p.2.1<=1/\p.2.2.1.length=m+3/\Wd p.2.2.1/\AT p.2.2.1+BB^p.1*p.2.1=AT p2+AT (v.take p.1)) (0,0,p2,_) ⟨Bg _,Bg _,hpl2,hpw2,by simp[AT]⟩ AN ?_
   rintro⟨i,c3,p3,n3⟩ F ⟨hi,hc3,hpl3,hpw3,hI⟩;dsimp only at hi hc3 hpl3 hpw3 hI⊢;refine sR 2800 ?_;refine AC.seq ?_;refine AK ?_
   (refine Bn (λhlt=>?_) (λhlt=>?_))<;>(try simp only[BZ,Bl]at hlt)<;>(try simp only[hlt])
   ·have hi2:i<m+2:=by
     have:=DQ hlt
     omega
    obtain⟨x,hx⟩:=Ca (l:=v) (i:=i) (by omega);have hx':=Dj hx;have hxl:x<BB:=S.wv x (A8 hx);obtain⟨z,hz⟩:=Ca (l:=p3) (i:=i) (by omega);have hz':=NE (A:=A) (Z:=Z) hz;have hzl:z<BB:=hpw3 z (A8 hz);have hadd:=av (a:=z) (b:=x) hc3;have J:=me hz hx hI;have hs:(z+x+c3)%BB<BB:=CJ _ (by decide);have hc':(z+x+c3)/BB<=1:=by
     have:z+x+c3<2*BB:=by omega
     exact PL (Fs (by rw[Bd];exact this))
    generalize(z+x+c3)%BB=d at*;generalize(z+x+c3)/BB=c' at*;have wi:IntKind.i64.wrap ((i:Int)+1)=((i+1:Nat):Int):=wI;refine Ag ?_;refine AC.seq ?_;refine AC.block ?_;refine sR 2900 ?_;refine PE w1 3000 [0,1,2,3,4,5,6,7,8,9,10,11,12,13,14,15,16] [17] 16 [12,10,9,8,7,6,5,4,3,2,1,0,11,13,15] (103) (by kernel_rfl) (by kernel_rfl) ?_;refine BA ?_;refine Nv (Ae kN hz') ?_;refine Jn rfl rfl rfl rfl ?_;refine Ob (λ_ _=>rfl) (by exact Bu) ⟨rfl,by omega⟩ hx' ?_
    try dsimp only[D.cells,spot]
    refine Nv (Ae kN hz') ?_;refine Jn rfl rfl rfl rfl ?_;refine QK rfl rfl hadd ?_;refine Nv (Ae kN hz') ?_;refine A7 (by first|exact Or.inl AB|exact Or.inl rfl) ?_;refine AF kN ?_;rw[Sg (by omega)];refine An 3100 ?_;refine AW wi ?_;exact⟨(i+1,c',p3.set i d,_),⟨hi2,hc',by dsimp only;rw[Dt];exact hpl3,hpw3.set hs,J⟩,by dsimp only;omega,AN⟩
   ·have hi2:i=m+2:=by
     have:=Da hlt
     omega
    subst hi2;rw[Ci (l:=v) (by omega)]at hI;obtain⟨z,hz⟩:=Ca (l:=p3) (i:=m+2) (by omega);have hz':=NE (A:=A) (Z:=Z) hz;have hzl:z<BB:=hpw3 z (A8 hz);have J:=mg hz hI;have hs:(z+c3)%BB<BB:=CJ _ (by decide);have hc':(z+c3)/BB<=1:=by
     have:z+c3<2*BB:=by omega
     exact PL (Fs (by rw[Bd];exact this))
    have j1:IntKind.u64.wrap ((z:Int)+(c3:Int))=(((z+c3)%BB:Nat):Int):=by rw[<-Int.natCast_add];exact Jm _
    generalize(z+c3)%BB=d at*;generalize(z+c3)/BB=c' at*;have hml:m+2<p3.length:=by omega
    have hpl4:(p3.set (m+2) d).length=m+3:=by rw[Dt];exact hpl3
    have hpw4:=hpw3.set (i:=m+2) hs;have hpL4:=Id hpw4;rw[hpl4]at hpL4;obtain⟨q0p,ed,em⟩:=aW (by rw[EQ]at hT;exact hT) hpL hdn J hc' hpL4;have j2:IntKind.u64.wrap ((q:Int)-1)=((q-1:Nat):Int):=by rw[wU (by omega) (by unfold BB at hq;omega)];omega
    refine CM ?_;refine sZ 3200 ?_;refine AF (BG kN hz' j1) ?_;rw[Sg hml];refine sZ 3300 ?_;refine AW j2 ?_;refine AX ?_;exact⟨p3.set (m+2) d,by omega,hpw4,em.symm,by rw[ed],rfl⟩
theorem C4.toP {C:BH}{f:Nat}{args:List D}{Φ:D->Hp->Nat->Prop}{Ψ:D->Prop}(h:C4 C f args [] 0 Φ)(k:∀d H n,Φ d H n->∃d',Fz H [] d d'/\CI d'/\Ψ d'):Ac C f args Ψ:=by
 refine⟨h.1,λY w vs hG hnG hX' hvs hr=>?_⟩
 let F0:AZ:=⟨w,Y,λ_=>False,0,nol,[]⟩
 have m0:Aj C F0 nol [] w:=⟨⟨by simp,.nil,by simp⟩,rfl,rfl,rfl,Am _,λ_ _ _=>rfl,hX',hG,hnG,by simp[F0],λ_ _ _ h=>h,λ_ cs _ _ h=>⟨cs,_,h,rfl⟩⟩
 have hoe:AL F0.X nol []=Y:=funext λb=>propext (by simp[AL,F0])
 refine(h.2 F0 nol w vs m0 (λ_ _ _=>rfl) (by simp) hvs (λi d hd=>by rw[hoe];exact hr i d hd)).mono ?_;rintro e w' ⟨v,d,H',n',ρ',rfl,hΦ,m,x,fr,g,r⟩;obtain⟨d',h3,h4,h5⟩:=k d H' n' hΦ;have hH:C2 H' [] H' []:=by
  generalize H'=H0
  have:∀H1:Hp,C2 H0 [] H1 []:=λH1=>by
   induction H1 with
   |nil=>exact .nil
   |cons e r ih=>exact .drop ih
  exact this H0
 obtain⟨m2,hO,hN⟩:=hH.mem m;have r3:=h3.rep m hO hN r;have r4:=h4 _ nol _ _ _ r3;exact⟨v,d',rfl,⟨m.os,m.tape,m.output,m.size,λb hb=>m.blk b hb (by simp[F0])⟩,h5,r4.anti λb hb=>.inl hb⟩
theorem jG {H Hf:Hp}{a a' b b':D}(h1:Fz H Hf a a')(h2:Fz H Hf b b'):Fz H Hf (.tup [a,b]) (.tup [a',b']):=
 .tup rfl λi d d' hd hd'=>by
  match i with
  | 0=>simp at hd hd';subst hd;subst hd';exact h1
  | 1=>simp at hd hd';subst hd;subst hd';exact h2
  |i+2=>simp at hd
theorem bt {a b:D}(h1:CI a)(h2:CI b):CI (.tup [a,b]):=CI.tup λd hd=>by
 simp only[Aw,Ds,or_false]at hd;rcases hd with rfl|rfl
 ·exact h1
 ·exact h2
theorem nV (K g T:Nat)(l l':List Nat)(h:l.take l'.length=l'):Fz [⟨K,g,T,1,l.map AS⟩] [] (.osl K g 1 0 l'.length) (wL l'):=by
 have hll:l'.length<=l.length:=by
  have:=congrArg List.length h
  rw[Be]at this;omega
 have key:∀(j:Nat) (d d':D),(l.map AS)[0+j]?=some d->(l'.map AS)[j]?=some d'->d=d':=λj d d' h1 h2=>by
  rw[<-h,BT,FH]at h2;rw[BX,BT]at h1;split at h2
  ·rw[h1]at h2;exact GJ h2
  ·simp at h2
 refine .osl (e:=⟨K,g,T,1,l.map AS⟩) (by simp[Hp.get]) rfl rfl rfl (by simp;exact hll) (by simp) (λj d d' h1 h2=>by rw[key j d d' h1 h2]) λj d d' q c c' h1 h2 h3 h4=>?_
 rw[key j d d' h1 h2]at h3;rw[h3]at h4;cases h4;exact Fz.refl _
theorem uc:wD 0=.sl false 1 []:=by unfold wD;rw[Gg];rfl
theorem qg (w:List Nat)(s:Nat)(hs:s<=63)(hw:Wd w)(hl:w.length<4000000):Ac C0 240 [wL w,i64 s] (λd=>∃out:List Nat,out.length=w.length+1/\Wd out/\AT out=AT w*2^s/\d=wL out):=
 (ZR w s hs hw hl [] 0).toP λd H n ⟨out,g,h1,h2,h3,h4,h5,_⟩=>by
  subst h4;subst h5;refine⟨wL out,?_,Ll _,out,h1,h2,h3,rfl⟩
  have:=nV 103 g 271 out out (by simp)
  rw[h1]at this;exact this
theorem pV {n k:Nat}(h1:BB^k<=n)(h2:n<BB^(k+1)):(Ad n).length=k+1:=by
 have h3:=Hx h2;have h4:=DD h1 (Kg n);have h5:=(Nat.pow_lt_pow_iff_right (show 1<BB by decide)).1 h4;omega
theorem VB:∀(n:Nat) {k a:Nat},(Ad n).length=k+1->(Ad n)[k]?=some a->a≠0:=λn=>by
 induction n using Nat.strongRecOn with
 |ind n ih=>
  intro k a h1 h2
  by_cases h0:n=0
  ·subst h0;rw[Gg]at h1;cases h1
  ·rw[G1 h0]at h1 h2
   rw[By]at h1;have h3:=Nat.succ.inj h1;cases k with
   |zero=>
    have h4:Ad (n/BB)=[]:=FU h3;have h5:n/BB=0:=by rw[<-Fi (n/BB),h4];rfl
    have h6:=FX n BB;rw[h5]at h6;simp at h2;intro h7;subst h7;rw[h2]at h6;omega
   |succ k=>
    rw[Iq]at h2;exact ih _ (It (ER h0) (by decide)) h3 h2
theorem aj {n k:Nat}(h:(Ad n).length=k+1):BB^k<=n:=by
 obtain⟨a,ha⟩:=Ca (l:=Ad n) (i:=k) (by omega);have h1:=VB n h ha;have h2:=YB h ha;rw[Fi]at h2;have h3:=Cj (BB^k) (show 1<=a by omega);omega
theorem d7L {b m y s:Nat}(hs:s<=63)(hl:(Ad b).length=m+1)(hy:(Ad b)[m]?=some y)(h:y*2^s<BB):(Ad (b*2^s)).length=m+1:=by
 have hp:0<2^s:=Ht s;have hpp:2^(64-s)*2^s=BB:=by rw[<-Gt,show 64-s+s=64 by omega]
 have h1:y<2^(64-s):=by
  rw[<-hpp]at h;exact Nat.lt_of_mul_lt_mul_right h
 refine pV ?_ ?_
 ·have:=aj hl
  exact BP this (Nat.le_mul_of_pos_right _ hp)
 ·have h2:=YB hl hy
  have h3:=Id ((F3 b).take m);rw[Be,hl,FW (by omega)]at h3;rw[Fi]at h2;have h4:b<BB^m*(y+1):=by rw[BQ,EQ];omega
  have h5:BB^m*(y+1)<=BB^m*2^(64-s):=Cj _ h1;have h6:b*2^s<BB^m*2^(64-s)*2^s:=UG (Cb h4 h5) hp;rw[CE,hpp]at h6;exact h6
theorem bO {l:List Nat}{j a:Nat}(h:l[j]?=some a):AT (l.drop j)=a+BB*AT (l.drop (j+1)):=by
 have hj:j<l.length:=(BR.1 h).1;rw[E3 hj,(BR.1 h).2];rfl
theorem SB {l:List Nat}{j a:Nat}(h:j<l.length):(l.set j a).drop j=a::l.drop (j+1):=by
 rw[E3 (by rw[Dt];exact h)]
 congr 1
 ·exact List.getElem_set_self _
 ·rw[List.drop_set_of_lt (by omega)]
theorem oK {a q:List Nat}{j x b rest:Nat}(hb:0<b)(hx:a[j]?=some x)(hj:j<q.length)(hI:AT (q.drop (j+1))*b+rest=AT (a.drop (j+1))):
  AT ((q.set j ((rest*BB+x)/b)).drop j)*b+(rest*BB+x)%b=AT (a.drop j)/\(rest*BB+x)%b<b:=by
 refine⟨?_,CJ _ hb⟩;rw[SB hj,bO hx,<-hI,AT];have e:=Fq (rest*BB+x) b;rw[B1,BQ BB,CE BB,Bd BB rest,Bd _ b];omega
theorem Ry {q b r a:Nat}(h:q*b+r=a)(hr:r<b):q=a/b/\r=a%b:=by
 subst h;rw[Bd];exact⟨by rw[Nat.mul_add_div (by omega),Iw hr,Dm],by rw[Nat.mul_add_mod,GG hr]⟩
structure NB (X:Nat)(v U q:List Nat)(lu lq k:Nat):Prop where
 lU:U.length=lu
 lQ:q.length=lq
 wU:Wd U
 wq:Wd q
 val:BB^k*AT (q.drop k)*AT v+AT U=X
 less:AT (U.drop k)<AT v
theorem lC {U:List Nat}(j n:Nat):U=U.take j++((U.drop j).take n++U.drop (j+n)):=by
 rw[<-List.drop_drop,GL,GL]
theorem rq {X:Nat}{v U q:List Nat}{lu lq j m:Nat}(I:NB X v U q lu lq (j+1))(hv:v.length=m+2)(wv:Wd v)(v1 v2:Nat)(h2:v[m]?=some v2)(h1:v[m+1]?=some v1)(ht:0<v1)(hj:j+(m+3)<=lu):
  ∃p0 p1 p2,OQ ((U.drop j).take (m+3)) v m p0 p1 p2 v2 v1/\AT (U.drop (j+(m+3)))=0/\AT ((U.drop j).take (m+3))=AT (U.drop j):=by
 obtain⟨lU,lQ,wU,wq,val,less⟩:=I;obtain⟨x,hx⟩:=Ca (l:=U) (i:=j) (by omega);have hxl:=wU x (A8 hx);have e1:=bO hx;have hlt:AT (U.drop j)<AT v*BB:=by
  have:BB*(AT (U.drop (j+1))+1)<=BB*AT v:=Cj _ less
  rw[BQ,Bd BB (AT v)]at this;omega
 have hPl:((U.drop j).take (m+3)).length=m+3:=by rw[Be,D4];omega
 have e2:AT (U.drop j)=AT ((U.drop j).take (m+3))+BB^(m+3)*AT (U.drop (j+(m+3))):=by
  conv=>lhs;rw[<-GL (m+3) (U.drop j)]
  rw[LU,hPl,List.drop_drop]
 have hvl:=Id wv;rw[hv]at hvl;have hz:AT (U.drop (j+(m+3)))=0:=by
  rcases EC (AT (U.drop (j+(m+3))))with h|h
  ·exact h
  ·exfalso
   have e3:BB^(m+3)*1<=BB^(m+3)*AT (U.drop (j+(m+3))):=Cj _ h;have e4:AT v*BB<=BB^(m+2)*BB:=CQ _ (KO hvl);have e5:BB^(m+2)*BB=BB^(m+3):=(CT BB (m+2)).symm;rw[e5]at e4;omega
 rw[hz,FJ,Dm]at e2;obtain⟨p0,h0⟩:=Ca (l:=(U.drop j).take (m+3)) (i:=m) (by omega);obtain⟨p1,h3⟩:=Ca (l:=(U.drop j).take (m+3)) (i:=m+1) (by omega);obtain⟨p2,h4⟩:=Ca (l:=(U.drop j).take (m+3)) (i:=m+2) (by omega);exact⟨p0,p1,p2,⟨hPl,hv,λa ha=>wU a (MV (HK ha)),wv,h0,h3,h4,h2,h1,ht,by rw[<-e2];exact hlt⟩,hz,e2.symm⟩
theorem rp {X:Nat}{v U q P':List Nat}{lu lq j m:Nat}(I:NB X v U q lu lq (j+1))(hv:0<AT v)(hj:j+(m+3)<=lu)(hjq:j<lq)(hz:AT (U.drop (j+(m+3)))=0)(hP:AT ((U.drop j).take (m+3))=AT (U.drop j))
  (h1:P'.length=m+3) (h2:Wd P') (h3:AT P'=AT ((U.drop j).take (m+3))%AT v) (hd:AT ((U.drop j).take (m+3))/AT v<BB):
  NB X v (U.take j++(P'++U.drop (j+(m+3)))) (q.set j (AT ((U.drop j).take (m+3))/AT v)) lu lq j:=by
 obtain⟨lU,lQ,wU,wq,val,less⟩:=I;have hA:(U.take j).length=j:=by rw[Be];omega
 have e0:AT U=AT (U.take j)+BB^j*AT (U.drop j):=by
  conv=>lhs;rw[<-GL j U]
  rw[LU,hA]
 have e1:AT (P'++U.drop (j+(m+3)))=AT P':=by rw[LU,hz,FJ,Dm]
 refine⟨?_,by rw[Dt];exact lQ,?_,wq.set hd,?_,?_⟩
 ·rw[Bz,Bz,hA,h1,D4];omega
 ·exact Wd.append (wU.take j) (Wd.append h2 λa ha=>wU a (MV ha))
 ·rw[SB (by omega),AT,LU,hA,e1,h3,hP]
  rw[e0]at val;have e2:=Fq (AT (U.drop j)) (AT v);have e3:BB^(j+1)*AT (q.drop (j+1))*AT v=BB^j*(BB*AT (q.drop (j+1))*AT v):=by
   rw[CT,CE,CE,CE]
  rw[e3]at val;have e4:BB^j*AT (U.drop j)=BB^j*(AT v*(AT (U.drop j)/AT v))+BB^j*(AT (U.drop j)%AT v):=by
   rw[<-BQ,e2]
  rw[CE,B1,BQ,Bd (AT (U.drop j)/AT v)];omega
 ·rw[List.drop_left' hA,e1,h3]
  exact CJ _ hv
theorem ox {a b s:Nat}{U v:List Nat}{k lu lq:Nat}(hU:AT U=a*2^s)(hv:AT v=b*2^s)(wU:Wd U)(lU:U.length=lu){q:List Nat}(hq:q=List.replicate lq 0)(hk:lq<=k)
  (hab:a<BB^k*b):NB (a*2^s) v U q lu lq k:=by
 subst hq;refine⟨lU,Is,wU,OF _,?_,?_⟩
 ·rw[IR (by rw[Is];exact hk)]
  rw[show AT []=0 from rfl,FJ,HP,BX,hU]
 ·rcases BL (AT (U.drop k)) (AT v)with h|h
  ·exact h
  ·exfalso
   have e0:AT U=AT (U.take k)+BB^(U.take k).length*AT (U.drop k):=by
    conv=>lhs;rw[<-GL k U]
    rw[LU]
   have hp:0<2^s:=Ht s;have h3:a*2^s<BB^k*b*2^s:=UG hab hp;rw[CE,<-hv]at h3;rcases BL U.length k with hl|hl
   ·rw[IR (by omega)]at h
    rw[show AT []=0 from rfl]at h;rw[Nat.le_zero.1 h,FJ]at h3;omega
   ·rw[Be,FW hl]at e0
    have:=Cj (BB^k) h
    omega
theorem ro {a b s:Nat}{v U q:List Nat}{lu lq:Nat}(I:NB (a*2^s) v U q lu lq 0)(hv:AT v=b*2^s):AT q=a/b/\AT U=a%b*2^s:=by
 obtain⟨lU,lQ,wU,wq,val,less⟩:=I;simp only[Nq,IT,Fr]at val less;obtain⟨h1,h2⟩:=Ry val less;rw[hv,RN _ _ (Ht s)]at h1;rw[hv,RO]at h2;exact⟨h1,h2⟩
structure P0 (U u:List Nat)(s i:Nat):Prop where
 len:u.length=U.length
 wd:Wd u
 rest:∀k,i<=k->u[k]?=U[k]?
 val:∀c,U[i]?=some c->AT (U.take i)+BB^i*(c%2^s)=2^s*AT (u.take i)
theorem oM {U:List Nat}{s r:Nat}(wU:Wd U)(h:AT U=r*2^s)(hs:s<=63):P0 U U s 0:=by
 refine⟨rfl,wU,λ_ _=>rfl,λc hc=>?_⟩;have e:=Ln hc;simp only[LJ,Nq,IT,AT,BX,FJ]at e⊢;have hpp:2^(64-s)*2^s=BB:=by rw[<-Gt,show 64-s+s=64 by omega]
 have e1:(AT U)%2^s=0:=by rw[h];exact Nat.mul_mod_left _ _
 rw[e,<-hpp,Nat.mul_right_comm,Nat.add_mul_mod_self_right]at e1;exact e1
theorem ZX {c d s:Nat}(hs:s<=63)(hc:c<BB):c/2^s ||| d*2^(64-s)%BB=c/2^s+d%2^s*2^(64-s)/\c/2^s+d%2^s*2^(64-s)<BB /\
  c%2^s+2^s*(c/2^s+d%2^s*2^(64-s))=c+BB*(d%2^s):=by
 have hpp:2^s*2^(64-s)=BB:=by rw[<-Gt,show s+(64-s)=64 by omega]
 have h1:d*2^(64-s)%BB=d%2^s*2^(64-s):=by rw[<-hpp,RO]
 have h2:c/2^s<2^(64-s):=Fs (by rw[hpp];exact hc);have h3:d%2^s<2^s:=CJ _ (Ht s);have h4:(d%2^s+1)*2^(64-s)<=2^s*2^(64-s):=CQ _ h3;rw[hpp,B1,IT]at h4;have e:=FX c (2^s);refine⟨?_,by omega,?_⟩
 ·rw[h1,Nat.or_comm,XJ h2,MY]
 ·rw[BQ,JX,hpp,Bd (d%2^s)]
  omega
theorem pE {U u:List Nat}{s i c d:Nat}(hs:s<=63)(wU:Wd U)(I:P0 U u s i)(hc:U[i]?=some c)(hd:U[i+1]?=some d):
  P0 U (u.set i (c/2^s+d%2^s*2^(64-s))) s (i+1):=by
 obtain⟨len,wd,rest,val⟩:=I;have hcl:=wU c (A8 hc);obtain⟨_,e2,e3⟩:=ZX (d:=d) hs hcl;have hi:i<U.length:=(BR.1 hc).1;refine⟨by rw[Dt];exact len,wd.set e2,λk hk=>?_,λc' hc'=>?_⟩
 ·rw[JR (by omega)];exact rest k (by omega)
 ·rw[hd]at hc'
  cases hc';have v0:=val c hc;rw[SC (by omega),HW (i:=i) (by rw[Be];omega),F6 hc,HW (i:=i) (by rw[Be];omega),BQ,<-v0,CT,CE,JX (2^s)];have e4:BB^i*(c%2^s+2^s*(c/2^s+d%2^s*2^(64-s)))=BB^i*(c+BB*(d%2^s)):=by rw[e3]
  rw[BQ,BQ (BB^i) c]at e4;omega
theorem pD {U u:List Nat}{s n r:Nat}(I:P0 U u s n)(hn:n<U.length)(hU:AT U=r*2^s)(hl:AT U<BB^n):AT (u.take n)=r:=by
 obtain⟨c,hc⟩:=Ca hn;have e:=Ln hc;have hz:c+BB*AT (U.drop (n+1))=0:=by
  rcases EC (c+BB*AT (U.drop (n+1)))with h|h
  ·exact h
  ·have:=Cj (BB^n) h
   omega
 have hc0:c=0:=by omega
 subst hc0;have v0:=I.val 0 hc;rw[hz,FJ,Dm]at e;rw[Nat.zero_mod,FJ,Dm,<-e,hU,Bd]at v0;exact(Nat.eq_of_mul_eq_mul_left (Ht s) v0).symm
theorem cq {a b:Nat}(h:a<b):decide (D6 (a:Int) (b:Int)<0)=true:=Ax (by unfold D6;split<;>(try split)<;>omega)
theorem SZ {a b:Nat}(h:b<=a):decide (D6 (a:Int) (b:Int)<0)=false:=Az (by unfold D6;split<;>(try split)<;>omega)
theorem ue {env:As}{t K g n N t2:Nat}{z:List Nat}{T:Nat}{d2:D}(hl:z.length=N)(he:env.get t=.osl K g 1 0 N:=by exact rfl)(h2:env.get t2=d2:=by exact rfl):Wk ⟨env,[⟨K,g,T,1,z.map AS⟩],n⟩ ⟨[(t,.sl false 1 (z.map AS)),(t2,d2)],[],n⟩:=by
 subst hl;refine⟨.drop .nil,⟨?_,?_,trivial⟩,Am _⟩
 ·dsimp only
  rw[he]
  have:=S7 K g T 1 (z.map AS)
  rwa [Al]at this
 ·dsimp only
  rw[h2];exact .refl _
theorem oz (a b:Nat)(hab:a<b)(ha:(Ad a).length<1000000)(hb:(Ad b).length<1000000):AI C0 202 [wD a,wD b] (.tup [wD (a/b),wD (a%b)]):=by
 rw[Iw hab,GG hab,uc];refine Ac.walk w1 S2 rfl λF=>?_
 have cc:=Sa a b (by omega) (by omega);have e1:=cq hab;refine sR 0 ?_;refine AC.seq ?_;refine sR 100 ?_;refine cI cc ?_;rw[e1];refine AK ?_;refine sR 200 ?_;refine AX ?_;exact⟨_,jG (.nil 1) (.refl _),bt (.sl λe he=>by cases he) (Ll _),rfl⟩
theorem rr (a b:Nat)(hab:b<=a)(ha:(Ad a).length<1000000)(hb:(Ad b).length=1)(hb0:b≠0):AI C0 202 [wD a,wD b] (.tup [wD (a/b),wD (a%b)]):=by
 have cc:=Sa a b (by omega) (by omega);have e1:=SZ hab;have hbl:b<BB:=by
  have:=Kg b
  rw[hb,Nat.pow_one]at this;exact this
 have hlb:(Ad b)[0]?=some b:=by rw[OA hb0 hbl];rfl
 have va:=Fi a;have wa:=F3 a;refine Ac.walk w1 S2 rfl λF=>?_
 unfold wD wL at cc⊢;change AC C0 F none F _ _ (TY X1.tt _ (· = .tup [wD (a/b),wD (a%b)]));generalize Ad a=la at*;generalize Ad b=lb at*;have hb':=Dj hlb;have e3:((((lb.map AS).length:Nat):Int)==1)=true:=by rw[Al,hb];rfl
 have ea:(((la.map AS).length:Nat):Int)=(la.length:Int):=by rw[Al]
 have wl:IntKind.i64.wrap ((la.length:Int)-1)=(la.length:Int)-1:=wI;have r3:List.replicate la.length (ofV (.int .u64 0))=(List.replicate la.length 0).map AS:=by rw[LD];rfl
 refine sR 0 ?_;refine AC.seq ?_;refine sR 100 ?_;refine cI cc ?_;rw[e1];refine AK ?_;refine Ag ?_;refine AC.seq ?_;refine sZ 300 ?_;refine AW e3 ?_;refine AK ?_;refine sZ 400 ?_;refine AW (Ae ea kN) ?_;refine sR 500 ?_;refine AC.seq ?_;refine sZ 600 ?_;refine AW (Ae ea wl) ?_;refine AC.block ?_;refine AC.loop (α:=Nat×Nat×List Nat×Nat) (λp=>⟨[(0,.sl false 1 (la.map AS)),(1,.sl false 1 (lb.map AS)),(6,.osl 402 11 1 0 la.length),(7,AS p.2.1),(8,i64 ((p.1:Int)-1))],[⟨402,11,271,1,p.2.2.1.map AS⟩],p.2.2.2⟩) (λp=>p.1)
  (λp=>p.1<=la.length/\p.2.1<b/\p.2.2.1.length=la.length/\Wd p.2.2.1/\AT (p.2.2.1.drop p.1)*b+p.2.1=AT (la.drop p.1)) (la.length,0,List.replicate la.length 0,_)
  ⟨Am _,ER hb0,by simp,OF _,by simp[AT]⟩ (by rw[<-r3];exact AN) ?_
 rintro⟨k,r,q,m⟩ F ⟨h1,h2,h3,h4,h5⟩;dsimp only at h1 h2 h3 h4 h5⊢;clear cc e1 e3 ea wl r3;refine AC.seq ?_;refine sR 700 ?_;refine AK ?_
 (refine Bn (λh20=>?_) (λh20=>?_))<;>(try simp only[BZ,Bl]at h20)<;>(try simp only[h20])
 ·obtain⟨j,rfl⟩:∃j,k=j+1:=⟨k-1,by
   have:(k:Int)-1>=0:=by simpa using h20
   omega⟩
  have wj:((j+1:Nat):Int)-1=(j:Int):=by omega
  obtain⟨x,hx⟩:=Ca (l:=la) (i:=j) (by omega);obtain⟨z,hz⟩:=Ca (l:=q) (i:=j) (by omega);have hx':=Dj hx;have hz':=Dj hz;have hxl:=wa x (A8 hx);have cd:=bI r x b h2 hxl hbl;obtain⟨J1,J2⟩:=oK (ER hb0) hx (by omega) h5;have hql:(r*BB+x)/b<BB:=by
   refine Fs ?_
   have:(r+1)*BB<=b*BB:=CQ _ h2
   rw[B1]at this;omega
  have wi:IntKind.i64.wrap ((j:Int)-1)=(j:Int)-1:=wI;generalize(r*BB+x)/b=d at*;generalize(r*BB+x)%b=r' at*;rw[wj];refine Ag ?_;refine AC.seq ?_;refine AC.block ?_;refine PE w1 900 [0,1,2,3,4,5,6,7,8,9,10,11,12,13,14,15] [16] 15 [11,9,8,7,6,5,4,3,2,1,0,10,12,14] (402) (by kernel_rfl) (by kernel_rfl) ?_;refine BA ?_;refine Nv kN ?_;refine Jn rfl rfl rfl rfl ?_;refine Ob (λ_ _=>rfl) (by exact Bu) ⟨rfl,by omega⟩ hx' ?_
  try dsimp only[D.cells,spot]
  refine Nv kN ?_;refine Jn rfl rfl rfl rfl ?_;refine Ob (λ_ _=>rfl) (by exact Bu) ⟨rfl,by omega⟩ hb' ?_
  try dsimp only[D.cells,spot]
  refine Nv kN ?_;refine Jn rfl rfl rfl rfl ?_;refine Mx (λ_ _=>rfl) (by exact Bu) ?_;refine BA ?_;refine BN.same _ cd AJ ?_;refine Nv (BG kN BX hz') ?_;refine A7 (by first|exact Or.inl AB|exact Or.inl rfl) ?_;refine AF (Ae kN BX) ?_;rw[map_set];refine An 800 ?_;refine AW wi ?_;exact⟨(j,r',q.set j d,_),⟨by dsimp only;omega,J2,by dsimp only;rw[Dt];exact h3,h4.set hql,J1⟩,by dsimp only;omega,AN⟩
 ·have hk:k=0:=by
   have:¬((k:Int)-1>=0):=by simpa using h20
   omega
  subst hk;rw[Fr,Fr,va]at h5;obtain⟨q1,q2⟩:=Ry h5 h2;refine CM ?_;refine AC.weak ⟨[(6,.sl false 1 (q.map AS)),(7,AS r)],[],_⟩ (ue h3) ?_;refine sR 1000 ?_;refine BI.same _ (trim_ok q h4 (by omega)) AJ ?_;refine Bb ?_;have hrl:Wd [r]:=λa ha=>by
   simp only[Aw,Ds,or_false]at ha;subst ha;exact Gs h2 hbl
  refine BI.pure [wL [r]] _ ⟨.nn true 1 _,trivial⟩ (trim_ok [r] hrl (by simp)) AJ ?_;refine Bb ?_;refine AX ?_;exact AM (by rw[q1,q2];simp[AT]) AA.out
set_option maxHeartbeats 4000000
theorem eA {H:Hp}{K g T:Nat}{l:List Nat}{N:Nat}(hl:l.length=N)(he:Hp.get H K=some ⟨K,g,T,1,l.map AS⟩:=by exact rfl):Fz H [] (.osl K g 1 0 N) (.sl false 1 (l.map AS)):=by
 subst hl;have key:∀(j:Nat) (d d':D),(l.map AS)[0+j]?=some d->(l.map AS)[j]?=some d'->d=d':=λj d d' h1 h2=>by
  rw[BX]at h1;rw[h1]at h2;exact GJ h2
 refine .osl (e:=⟨K,g,T,1,l.map AS⟩) he rfl rfl rfl (by simp) (by simp) (λj d d' h1 h2=>by rw[key j d d' h1 h2]) λj d d' q c c' h1 h2 h3 h4=>?_
 rw[key j d d' h1 h2]at h3;rw[h3]at h4;cases h4;exact Fz.refl _
theorem pC (a b m:Nat)(hab:b<=a)(ha:(Ad a).length<1000000)(hb:(Ad b).length=m+2):AI C0 202 [wD a,wD b] (.tup [wD (a/b),wD (a%b)]):=by
 have hlen:=IY b a hab;have cc:=Sa a b (by omega) (by omega);have e1:=SZ hab;obtain⟨y,hy⟩:=Ca (l:=Ad b) (i:=m+1) (by omega);have y0:=VB b hb hy;have yl:y<BB:=F3 b y (A8 hy);obtain⟨s,hs,es,t1,t2⟩:=ZK y0 yl;have cl:=kU y yl;rw[es]at cl;have hvl:=d7L hs hb hy t2;obtain⟨v,hv⟩:∃v,v=Ad (b*2^s):=⟨_,rfl⟩
 have wv:Wd v:=by rw[hv];exact F3 _
 have vv:AT v=b*2^s:=by rw[hv];exact Fi _
 rw[<-hv]at hvl;obtain⟨v1,h1⟩:=Ca (l:=v) (i:=m+1) (by omega);obtain⟨v2,h2⟩:=Ca (l:=v) (i:=m) (by omega);have v10:v1≠0:=VB (b*2^s) (by rw[<-hv];exact hvl) (by rw[<-hv];exact h1);have vpos:0<AT v:=by
  rw[vv];refine HQ ?_ (Ht s);refine ER λh=>?_
  subst h;rw[Gg]at hb;cases hb
 have va:=Fi a;have vb:=Fi b;have wa:=F3 a;have wb:=F3 b;have hup:=Kg a;have hbge:=aj hb;refine Ac.walk w1 S2 rfl λF=>?_
 unfold wD wL at cc⊢;change AC C0 F none F _ _ (TY X1.tt _ (· = .tup [wD (a/b),wD (a%b)]));generalize Ad a=la at*;generalize Ad b=lb at*;obtain⟨lq,hlq⟩:∃lq,la.length=lq+(m+2):=⟨la.length-(m+2),by omega⟩
 have hy':=Dj hy;have e3:((((lb.map AS).length:Nat):Int)==1)=false:=by rw[Al,hb];exact B8.2 (by omega)
 have elb:(((lb.map AS).length:Nat):Int)=((m+2:Nat):Int):=by rw[Al,hb]
 have wlb0:IntKind.i64.wrap (((m+2:Nat):Int)-1)=((m+1:Nat):Int):=by rw[wI];omega
 have wlb:IntKind.i64.wrap ((((lb.map AS).length:Nat):Int)-1)=((m+1:Nat):Int):=by rw[elb];exact wlb0
 have ea:(((la.map AS).length:Nat):Int)=(la.length:Int):=by rw[Al]
 have ev:(((v.map AS).length:Nat):Int)=((m+2:Nat):Int):=by rw[Al,hvl]
 have wq1:IntKind.i64.wrap ((la.length:Int)-((m+2:Nat):Int))=(lq:Int):=by rw[wI];omega
 have wq2:IntKind.i64.wrap ((lq:Int)+1)=((lq+1:Nat):Int):=by rw[wI];omega
 have wq1':IntKind.i64.wrap ((la.length:Int)-((m+2:Nat):Int))=((lq+1:Nat):Int)-1:=by rw[wI];omega
 have wraw:IntKind.i64.wrap (IntKind.i64.wrap ((((la.map AS).length:Nat):Int)-((m+2:Nat):Int))+1)=((lq+1:Nat):Int):=by rw[ea,wq1,wq2]
 have r3:List.replicate (lq+1) (ofV (.int .u64 0))=(List.replicate (lq+1) 0).map AS:=by rw[LD];rfl
 refine sR 0 ?_;refine AC.seq ?_;refine sR 100 ?_;refine cI cc ?_;rw[e1];refine AK ?_;refine Ag ?_;refine AC.seq ?_;refine sZ 300 ?_;refine AW e3 ?_;refine AK ?_;refine Ag ?_;refine sZ 1100 ?_;refine AF (Bo wlb elb wlb0 kN) ?_;refine CN kT hy' ?_;refine AF (Bo wlb elb wlb0 kN) ?_;refine cI cl ?_;refine C9 (α:=Nat) (λn=>⟨[(0,.sl false 1 (la.map AS)),(9,i64 s),(10,.sl false 1 (v.map AS))],[],n⟩) (λ_=>True) ?_ ?_
 ·refine rI 1200 ?_
  refine BI.prop [wL lb,i64 s] _ (Fw.refl _) (qg lb s hs wb (by omega)) AJ ?_;rintro d ⟨out,o1,o2,o3,rfl⟩;have hvo:wD (AT out)=.sl false 1 (v.map AS):=by rw[o3,vb,hv];rfl
  refine Bb ?_;refine BI.same _ (trim_ok out o2 (by omega)) AJ ?_;refine Bb ?_;simp only[hvo];exact⟨trivial,_,trivial,AN⟩
 rintro n0 -;clear cc e1 e3 elb wlb wlb0 hy' cl es t1 t2 yl y0 hy wb;refine sR 1300 ?_;refine BI.own _ (ZR la s hs wa (by omega) [] _) ?_;rintro d H' n1 ⟨U,gu,u1,u2,u3,rfl,rfl,-⟩;rw[va]at u3;refine Bb ?_;refine sZ 1400 ?_;refine AW ev ?_;refine C9 (α:=Nat×Nat) (λp=>⟨[(0,.sl false 1 (la.map AS)),(9,i64 s),(10,.sl false 1 (v.map AS)),(11,.osl 103 gu 1 0 (la.length+1)),(12,i64 ((m+2:Nat):Int)),(13,.osl 1505 p.1 1 0 (lq+1))],[⟨1505,p.1,271,1,(List.replicate (lq+1) 0).map AS⟩,⟨103,gu,271,1,U.map AS⟩],p.2⟩) (λ_=>True) ?_ ?_
 ·refine An 1500 ?_
  refine AW (Cw ea wq1 wq2 kN r3) ?_;exact⟨trivial,⟨n1+9,n1+20⟩,trivial,by rw[<-r3];exact AN⟩
 rintro⟨g,n2⟩ -;dsimp only;have I0:NB (a*2^s) v U (List.replicate (lq+1) 0) (la.length+1) (lq+1) (lq+1):=by
  refine ox u3 vv u2 u1 rfl (Am _) ?_
  have:BB^(lq+1)*BB^(m+1)<=BB^(lq+1)*b:=Cj _ hbge
  rw[<-Gt,show lq+1+(m+1)=la.length by omega]at this;omega
 refine AC.seq ?_;refine sZ 1600 ?_;refine AW (Ae ea wq1') ?_;refine AC.block ?_;refine AC.loop (α:=Nat×List Nat×List Nat×Nat) (λp=>⟨[(9,i64 s),(10,.sl false 1 (v.map AS)),(11,.osl 103 gu 1 0 (la.length+1)),(12,i64 ((m+2:Nat):Int)),(13,.osl 1505 g 1 0 (lq+1)),(14,i64 ((p.1:Int)-1))],[⟨1505,g,271,1,p.2.2.1.map AS⟩,⟨103,gu,271,1,p.2.1.map AS⟩],p.2.2.2⟩) (λp=>p.1)
  (λp=>p.1<=lq+1/\NB (a*2^s) v p.2.1 p.2.2.1 (la.length+1) (lq+1) p.1) (lq+1,U,List.replicate (lq+1) 0,_) ⟨Am _,I0⟩ AN ?_
 rintro⟨k,u,q,n3⟩ F ⟨hk,I⟩;dsimp only at hk I⊢;clear I0 wq1 wq2 wq1' wraw r3 ea;refine AC.seq ?_;refine sR 1700 ?_;refine AK ?_
 (refine Bn (λh20=>?_) (λh20=>?_))<;>(try simp only[BZ,Bl]at h20)<;>(try simp only[h20])
 ·obtain⟨j,rfl⟩:∃j,k=j+1:=⟨k-1,by
   have:(k:Int)-1>=0:=by simpa using h20
   omega⟩
  have wj:((j+1:Nat):Int)-1=(j:Int):=by omega
  obtain⟨p0,p1,p2,SI,hz,hP⟩:=rq I hvl wv v1 v2 h2 h1 (ER v10) (by omega);have hA:(u.take j).length=j:=by rw[Be,I.lU];omega
  have cs:=λn=>uQ (u.take j) ((u.drop j).take (m+3)) (u.drop (j+(m+3))) v m p0 p1 p2 v2 v1 SI (by rw[hA];omega) g 271 gu (q.map AS) n
  rw[hA,<-lC j (m+3)]at cs;obtain⟨z,hzq⟩:=Ca (l:=q) (i:=j) (by rw[I.lQ];omega);have hz':=Dj hzq;have hdl:AT ((u.drop j).take (m+3))/AT v<BB:=Fs SI.less;have wi:IntKind.i64.wrap ((j:Int)-1)=(j:Int)-1:=wI;have wjn1:IntKind.i64.wrap ((j:Int)+((m+2:Nat):Int))=((j+(m+2):Nat):Int):=by rw[wI];omega
  have wjn2:IntKind.i64.wrap (((j+(m+2):Nat):Int)+1)=((j+(m+3):Nat):Int):=by rw[wI];omega
  have wraw:IntKind.i64.wrap (IntKind.i64.wrap ((j:Int)+((m+2:Nat):Int))+1)=((j+(m+3):Nat):Int):=by rw[wjn1,wjn2]
  have els:j+(m+3)-j=m+3:=MX _ _;have J:=λP' h1 h2 h3=>rp (P':=P') I vpos (by omega) (by omega) hz hP h1 h2 h3 hdl
  rw[wj];refine Ag ?_;refine AC.seq ?_;refine AC.block ?_;refine An 1900 ?_;refine AF (Fd wraw wjn1 wjn2 kN BX els) ?_;refine BI.own _ (cs _) ?_;rintro d H' n4 ⟨P',g1,g2,g3,rfl,rfl⟩;rw[SI.lP]at g1;refine AF (BG kN BX hz') ?_;rw[map_set];refine An 1800 ?_;refine AW wi ?_;exact⟨(j,u.take j++(P'++u.drop (j+(m+3))),q.set j (AT ((u.drop j).take (m+3))/AT v),_),⟨by dsimp only;omega,J P' g1 g2 g3⟩,by dsimp only;omega,AN⟩
 ·have hk:k=0:=by
   have:¬((k:Int)-1>=0):=by simpa using h20
   omega
  subst hk;obtain⟨q1,q2⟩:=ro I vv;have D0:=oM I.wU q2 hs;have wu:=I.wU;have wqq:=I.wq;have lu:=I.lU;have lqq:=I.lQ;have hlt:AT u<BB^(m+2):=by
   have:=I.less
   rw[Fr]at this;have h:=Id wv;rw[show v.length=m+2 from hvl]at h;omega
  clear I;refine CM ?_;refine AC.seq ?_;refine sR 2000 ?_;refine AC.block ?_;refine AC.loop (α:=Nat×List Nat×Nat) (λp=>⟨[(9,i64 s),(11,.osl 103 gu 1 0 (la.length+1)),(12,i64 ((m+2:Nat):Int)),(13,.osl 1505 g 1 0 (lq+1)),(96,i64 ((m+2:Nat):Int)),(97,i64 p.1)],[⟨1505,g,271,1,q.map AS⟩,⟨103,gu,271,1,p.2.1.map AS⟩],p.2.2⟩) (λp=>m+2-p.1)
   (λp=>p.1<=m+2/\P0 u p.2.1 s p.1) (0,u,_) ⟨Bg _,D0⟩ AN ?_
  rintro⟨i,x,n4⟩ F ⟨hi,I⟩;dsimp only at hi I⊢;have xl:=I.len;refine sR 2100 ?_;refine AC.seq ?_;refine AK ?_
  (refine Bn (λhlt2=>?_) (λhlt2=>?_))<;>(try simp only[BZ,Bl]at hlt2)<;>(try simp only[hlt2])
  ·have hi2:i<m+2:=by
    have:=DQ hlt2
    omega
   obtain⟨c,hc⟩:=Ca (l:=u) (i:=i) (by omega);obtain⟨d,hd⟩:=Ca (l:=u) (i:=i+1) (by omega);have hcx:x[i]?=some c:=by rw[I.rest i (Am _)];exact hc
   have hdx:x[i+1]?=some d:=by rw[I.rest (i+1) (by omega)];exact hd
   have hc':=Dj hcx;have hcl:=wu c (A8 hc);have hdl:=wu d (A8 hd);have I2:=pE hs wu I hc hd;obtain⟨g1,g2,_⟩:=ZX (d:=d) hs hcl;have esh:=Oo c s (by omega);have wi:IntKind.i64.wrap ((i:Int)+1)=((i+1:Nat):Int):=wI;refine Ag ?_;refine AC.seq ?_;refine AC.block ?_;refine sR 2200 ?_;refine sZ 2300 ?_;refine AF (Bo kN BX hc' esh) ?_;rw[map_set];have hxi:i<x.length:=by omega
   have h2c:((x.set i (c/2^s)).map AS)[i]?=some (AS (c/2^s)):=Dj (YQ hxi);have h2d:((x.set i (c/2^s)).map AS)[i+1]?=some (AS d):=Dj (by rw[JR (by omega)];exact hdx);refine AC.seq ?_;rcases EC s with h0|h0
   ·have e24:decide ((s:Int)>0)=false:=BY
    have es0:x.set i (c/2^s+d%2^s*2^(64-s))=x.set i (c/2^s):=by
     rw[h0,Nq,Nat.mod_one,HP,Dm]
    rw[es0]at I2;refine An 2400 ?_;refine AW e24 ?_;refine AF e24 ?_;refine AK ?_;refine Ag ?_;refine An 2600 ?_;refine AW wi ?_;exact⟨(i+1,x.set i (c/2^s),_),⟨hi2,I2⟩,by dsimp only;omega,AN⟩
   ·have e24:decide ((s:Int)>0)=true:=BV
    have e24':decide (((i+1:Nat):Int)<((la.length+1:Nat):Int))=true:=BV;have w64:IntKind.i64.wrap (64-(s:Int))=((64-s:Nat):Int):=by rw[wI];omega
    have w640:(0:Int)<=IntKind.i64.wrap (64-(s:Int)):=by rw[w64];omega
    have e27:=Qo d (64-s) (by omega);have e28:H7 .or .u64 ((c/2^s:Nat):Int) ((d*2^(64-s)%18446744073709551616:Nat):Int)=((c/2^s+d%2^s*2^(64-s):Nat):Int):=by
     rw[YD _ _ (DD (GH _ _) hcl) (CJ _ (by decide)),g1]
    have hset:((x.set i (c/2^s)).map AS).set i (AS (c/2^s+d%2^s*2^(64-s)))=(x.set i (c/2^s+d%2^s*2^(64-s))).map AS:=by
     rw[map_set,List.set_set]
    refine An 2400 ?_;refine AW e24 ?_;refine AF (BG e24 wi e24') ?_;refine AK ?_;refine B0 2500 [0,1,2,3,4,5,6,7,8,9,10,11] [12,13,14] ?_;refine AF (D7 wi w64 e27 e28 kN BX (Ae h2c h2d)) ?_;refine Ea rfl rfl ?_;refine Oc rfl rfl rfl h2c ?_;refine AF hset ?_;refine An 2600 ?_;refine AW wi ?_;exact⟨(i+1,x.set i (c/2^s+d%2^s*2^(64-s)),_),⟨hi2,I2⟩,by dsimp only;omega,AN⟩
  ·have hi2:i=m+2:=by
    have:=Da hlt2
    omega
   subst hi2;have hr:=pD I (by omega) q2 hlt;have wx:=I.wd;refine CM ?_;refine AC.weak ⟨[(11,.sl false 1 (x.map AS)),(12,i64 ((m+2:Nat):Int)),(13,.sl false 1 (q.map AS))],[],_⟩ ⟨.drop (.drop .nil),⟨eA (by omega),.refl _,eA lqq,trivial⟩,Am _⟩ ?_;have e4:List.take (m+2-0) (List.drop 0 (x.map AS))=(x.take (m+2)).map AS:=by
    rw[List.map_take];simp
   have e5:List.take (m+2) (x.map AS)=(x.take (m+2)).map AS:=by
    rw[List.map_take]
   have ex:(x.map AS).length=la.length+1:=by rw[Al];omega
   refine AC.seq ?_;refine B0 2700 [0,1,2,3,4] [5,6,7] ?_;refine Bb ?_;refine BN.same _ (trim_ok q wqq (by omega)) AJ ?_;refine AF (Bo kN Nat.sub_zero (@Fr D) e5) ?_;refine BI.same _ (trim_ok (x.take (m+2)) (wx.take _) (by rw[Be];omega)) AJ ?_;refine Bb ?_;refine AX ?_;exact AM (by rw[q1,hr]) AA.out
theorem lF (a b:Nat)(hb:b≠0)(ha:(Ad a).length<1000000)(hbl:(Ad b).length<1000000):AI C0 202 [wD a,wD b] (.tup [wD (a/b),wD (a%b)]):=by
 rcases BL a b with h|h
 ·exact oz a b h ha hbl
 ·rcases hl:(Ad b).length with _|m
  ·have:=Kg b
   rw[hl]at this;simp at this;exact Ah this hb
  ·rcases m with _|m
   ·exact rr a b h ha hl hb
   ·exact pC a b m h ha hl
set_option maxHeartbeats 2000000
theorem QX {x:GI}(h:x.wf)(h0:x.z ≠ -9223372036854775808):x=AY x.z:=by
 obtain⟨z,sm⟩:=x;unfold AY
 congr 1
 cases sm with
 |true=>
  have:=h.1 rfl
  dsimp only at this h0⊢;exact(Ax (show Sm z from⟨by omega,by omega⟩)).symm
 |false=>
  have:=h.2 rfl
  exact(Az this).symm
theorem D8 (z:Int):(AY z).z=z:=rfl
def EO (x y:GI):GI×GI:=
 if x.sm=true/\y.sm=true/\x.z ≠ -9223372036854775808 then(⟨x.z/y.z,true⟩,⟨x.z%y.z,true⟩)
 else if x.z.tmod y.z<0 then(JP (AY (x.z.tdiv y.z)) ⟨1,true⟩,Ei (AY (x.z.tmod y.z)) y)else(AY (x.z.tdiv y.z),AY (x.z.tmod y.z))
theorem oD (a b:Int)(hb:0<b):(a.tmod b<0->a.tdiv b-1=a/b/\a.tmod b+b=a%b)/\(¬a.tmod b<0->a.tdiv b=a/b/\a.tmod b=a%b):=by
 have e1:=Int.tdiv_eq_ediv (a:=a) (b:=b);have e2:=Int.tmod_add_mul_tdiv a b;have e3:=Int.emod_add_mul_ediv a b;have e4:=Int.emod_nonneg a (show b≠0 by omega);have e5:=Int.emod_lt_of_pos a hb;have hsg:b.sign=1:=Int.sign_eq_one_of_pos hb;rw[hsg]at e1;split at e1
 ·rw[Int.add_zero]at e1
  rw[e1]at e2;constructor
  ·intro h;omega
  ·intro _;exact⟨e1,by omega⟩
 ·rename_i hc
  have hd:¬b ∣ a:=λh=>hc (Or.inr h)
  have hr:a%b≠0:=λh=>hd (Int.dvd_of_emod_eq_zero h)
  have e6:b*(a/b+1)=b*(a/b)+b:=by rw[Int.mul_add,Int.mul_one]
  rw[e1,e6]at e2;constructor
  ·intro _;exact⟨by omega,by omega⟩
  ·intro h;omega
theorem gj {x y:GI}(hy:0<y.z):(EO x y).1.z=x.z/y.z/\(EO x y).2.z=x.z%y.z:=by
 obtain⟨f1,f2⟩:=oD x.z y.z hy;unfold EO;split
 ·exact⟨rfl,rfl⟩
 ·split
  ·rename_i h
   rw[jM,OT];exact f1 h
  ·rename_i h
   exact f2 h
theorem dA {x y:GI}(hx:x.wf)(hy:y.wf)(h0:0<y.z):(EO x y).1.wf/\(EO x y).2.wf:=by
 unfold EO;split
 ·rename_i h
  have hx1:=hx.1 h.1;have hy1:=hy.1 h.2.1;obtain⟨_,_,h3⟩:=h;have hm:=Int.emod_lt_of_pos x.z h0;have hm2:=Int.emod_nonneg x.z (show y.z≠0 by omega);refine⟨⟨λ_=>?_,λh=>by cases h⟩,⟨λ_=>⟨by dsimp only;omega,by dsimp only;omega⟩,λh=>by cases h⟩⟩;dsimp only;have e3:=Int.emod_add_mul_ediv x.z y.z;constructor
  ·rcases Int.lt_or_le (x.z/y.z) (-9223372036854775808)with h|h
   ·exfalso
    have h8:y.z*(x.z/y.z+1)<=1*(x.z/y.z+1):=Int.mul_le_mul_of_nonpos_right (by omega) (by omega);rw[Int.mul_add,Int.mul_one]at h8;omega
   ·exact h
  ·rcases Int.lt_or_le (x.z/y.z) 9223372036854775808 with h|h
   ·exact h
   ·exfalso
    have h5:(1:Int)*(x.z/y.z)<=y.z*(x.z/y.z):=Int.mul_le_mul_of_nonneg_right (by omega) (by omega);omega
 ·split
  ·exact⟨fg _ _,OL _ _⟩
  ·exact⟨Ch _,Ch _⟩
theorem qf (a b:Int)(hb:0<b):EP (decide (a<0)) (a.natAbs/b.natAbs)=a.tdiv b/\EP (decide (a<0)) (a.natAbs%b.natAbs)=a.tmod b:=by
 obtain⟨n,rfl⟩:∃n:Nat,b=n:=⟨b.natAbs,by omega⟩
 rw[Do]
 by_cases h:a<0
 ·obtain⟨m,rfl⟩:∃m:Nat,a = -(m:Int):=⟨a.natAbs,by omega⟩
  rw[Ax h,LG,Do,Int.neg_tdiv,Int.neg_tmod];exact⟨rfl,rfl⟩
 ·obtain⟨m,rfl⟩:∃m:Nat,a=(m:Int):=⟨a.natAbs,by omega⟩
  rw[Az h,Do];exact⟨rfl,rfl⟩
theorem oL (x y:GI)(hx:x.wf)(hy:y.wf)(h0:0<y.z)(fx:x.few)(fy:y.few)(hn:¬(x.sm=true/\y.sm=true/\x.z ≠ -9223372036854775808)):
  AI C0 220 [x.D,y.D] (.tup [(EO x y).1.D,(EO x y).2.D]):=by
 unfold EO;rw[AG hn];refine Ac.walk w1 S3 rfl λF=>?_
 have cx:=Ki x hx;have cy:=Ki y hy;have cd:=lF x.z.natAbs y.z.natAbs (by omega) fx fy;obtain⟨t1,t2⟩:=qf x.z y.z h0;have lq:(Ad (x.z.natAbs/y.z.natAbs)).length<1000000:=DD (IY _ _ (GH _ _)) fx;have lr:(Ad (x.z.natAbs%y.z.natAbs)).length<1000000:=DD (IY _ _ (Nat.mod_le _ _)) fx;have c1:=M7 (decide (x.z<0)) (x.z.natAbs/y.z.natAbs) (Gs lq (by decide));have c2:=M7 (decide (x.z<0)) (x.z.natAbs%y.z.natAbs) (Gs lr (by decide));rw[t1]at c1;rw[t2]at c2;have fq:(AY (x.z.tdiv y.z)).few:=by
  show(Ad (x.z.tdiv y.z).natAbs).length<1000000;rw[Int.natAbs_tdiv];exact lq
 have fr:(AY (x.z.tmod y.z)).few:=by
  show(Ad (x.z.tmod y.z).natAbs).length<1000000;rw[Int.natAbs_tmod];exact lr
 have f1:(⟨1,true⟩:GI).few:=by show(Ad 1).length<1000000;rw[OA (by decide) (by decide)];decide
 have cg:=OX (AY (x.z.tmod y.z)) (Ch _);have cs:=kq (AY (x.z.tdiv y.z)) ⟨1,true⟩ (Ch _) ⟨λ_=>⟨by decide,by decide⟩,λh=>by cases h⟩ fq f1;have ca:=Qb (AY (x.z.tmod y.z)) y (Ch _) hy fr fy;rw[D8]at cg;have co:AI C0 114 [i64 1] (⟨1,true⟩:GI).D:=DR Eh 1000 40;have hpx:AA x.w:=AJ;have hpy:AA y.w:=AJ;have hpq:AA (AY (x.z.tdiv y.z)).w:=AJ;have hpr:AA (AY (x.z.tmod y.z)).w:=AJ;have hps:AA (JP (AY (x.z.tdiv y.z)) ⟨1,true⟩).w:=AJ;have hpa:AA (Ei (AY (x.z.tmod y.z)) y).w:=AJ;have hp1:AA (⟨1,true⟩:GI).w:=AJ;clear t1 t2 lq lr fq fr f1;dsimp only[GI.D]at*;refine fR 0 ?_;refine Fp ⟨[(2,.optr 0 0 2 0 0),(3,.optr 1 1 2 0 0),(4,.optr 2 2 2 0 0),(5,.optr 3 3 2 0 0)],[⟨3,3,109,2,[CG 0]⟩,⟨2,2,109,2,[CG 0]⟩,⟨1,1,109,2,[.agg [i64 y.s,y.w]]⟩,⟨0,0,109,2,[.agg [i64 x.s,x.w]]⟩],90⟩ ?_ ?_
 ·obtain⟨a,sa⟩:=x
  obtain⟨b,sb⟩:=y;clear cx cy cd c1 c2 cg cs ca co hpq hpr hps hpa hp1;have nx:sa=false->(Ad a.natAbs).map AS≠[]:=λh=>Ia (by
   intro h0;subst h;exact hx.2 rfl ⟨by dsimp only;omega,by dsimp only;omega⟩)
  have ny:sb=false->(Ad b.natAbs).map AS≠[]:=λh=>Ia (by
   intro h0;subst h;exact hy.2 rfl ⟨by dsimp only;omega,by dsimp only;omega⟩)
  unfold GI.s GI.w wD wL at*;dsimp only at*;generalize(Ad a.natAbs).map AS=ka at*;generalize(Ad b.natAbs).map AS=kb at*;cases sa with
  |false=>
   have nx:=nx rfl;dsimp only at*;generalize(if a<0 then(-1:Int)else 1)=sg at*;generalize(match sb with|true=>b|false=>if b<0 then(-1:Int)else 1)=sh at*;generalize(match sb with|true=>CS|false=>D.sl false 1 kb)=wy at*;refine AC.seq ?_;refine An 100 ?_;refine AW (BG (@ne_eq (List D)) nx E5) ?_;refine AF kT ?_;refine AF kT ?_;refine AF kT ?_;refine AK ?_;refine Ag ?_;exact A7 (by trivial) (AN)
  |true=>
   dsimp only at*;cases sb with
   |false=>
    have ny:=ny rfl;dsimp only at*;generalize(if b<0 then(-1:Int)else 1)=sh at*;refine AC.seq ?_;refine An 100 ?_;refine AW (BG (@ne_eq (List D)) ny E5) ?_;refine AF (Bo kT (@ne_eq (List D)) ny E5) ?_;refine AF (Bo kT (@ne_eq (List D)) ny E5) ?_;refine AF (Bo kT (@ne_eq (List D)) ny E5) ?_;refine AK ?_;refine Ag ?_;exact A7 (by trivial) (AN)
   |true=>
    have ha:a = -9223372036854775808:=DA λh=>hn ⟨rfl,rfl,h⟩
    subst ha;dsimp only at*;refine sZ 100 ?_
    repeat'(first|(refine A7 (by exact Bu) ?_;refine BA ?_)|((refine Bn (λhb=>?_) (λhb=>?_))<;>(try simp only[BZ,Bl]at hb)<;>(try simp only[hb])<;>(refine BA ?_)))
    refine AK ?_;refine Ag ?_;exact A7 (by trivial) (AN)
 ·refine fR 600 ?_
  refine dI cx ?_;refine fR 700 ?_;refine dI cy ?_;refine fR 800 ?_;refine dI cd ?_;refine fR 900 ?_;refine dI c1 ?_;refine dI c2 ?_;refine AC.seq ?_;refine fR 1000 ?_;refine dI cg ?_
  by_cases h:x.z.tmod y.z<0
  ·have e:decide (max (-1) (min 1 (x.z.tmod y.z))<0)=true:=BV
   rw[AH h,e];refine AK ?_;refine B0 1100 [0,1,2,3,4] [5,6,7] ?_;refine A9 ?_;refine BN.same _ (co) AJ ?_;refine A9 ?_;refine BN.same _ (cs) AJ ?_;refine A9 ?_;refine dI ca ?_;refine AC.seq ?_;refine PE w1 1200 [0,1,2] [3] 2 [0] (2) (by kernel_rfl) (by kernel_rfl) ?_;refine A9 ?_;refine A9 ?_;refine AX ?_;exact AM rfl AA.out
  ·have e:decide (max (-1) (min 1 (x.z.tmod y.z))<0)=false:=BY
   rw[AG h,e];refine AK ?_;refine Ag ?_;refine AC.seq ?_;refine PE w1 1200 [0,1,2] [3] 2 [0] (2) (by kernel_rfl) (by kernel_rfl) ?_;refine A9 ?_;refine A9 ?_;refine AX ?_;exact AM rfl AA.out
theorem bK (x y:GI)(hx:x.wf)(hy:y.wf)(h0:0<y.z)(fx:x.few)(fy:y.few):AI C0 220 [x.D,y.D] (.tup [(EO x y).1.D,(EO x y).2.D]):=by
 by_cases h:x.sm=true/\y.sm=true/\x.z ≠ -9223372036854775808
 ·unfold EO
  rw[AH h];obtain⟨a,sa⟩:=x;obtain⟨b,sb⟩:=y;obtain⟨h1,h2,h3⟩:=h;dsimp only at h1 h2 h3 h0;subst h1;subst h2;have ra:=hx.1 rfl;have rb:=hy.1 rfl;dsimp only at ra rb;exact aA a b h0 ⟨by omega,by omega⟩ ⟨by omega,by omega⟩
 ·exact oL x y hx hy h0 fx fy h
theorem kO (x y:GI)(hx:x.wf)(hy:y.wf)(h0:0<y.z)(fx:x.few)(fy:y.few):AI C0 184 [x.D,y.D] (EO x y).1.D:=by
 refine Ac.walk w1 Wu rfl λF=>?_
 have cg:=OX y hy;have cd:=bK x y hx hy h0 fx fy;have e1:decide (max (-1) (min 1 y.z)<0)=false:=BY;have hpx:AA x.w:=AJ;have hpy:AA y.w:=AJ;have hpq:AA (EO x y).1.w:=AJ;have hpr:AA (EO x y).2.w:=AJ;dsimp only[GI.D]at*;generalize(EO x y).1.s=qs at*;generalize(EO x y).1.w=qw at*;generalize(EO x y).2.s=rs at*;generalize(EO x y).2.w=rw at*;refine fR 0 ?_;refine AC.seq ?_;refine fR 100 ?_;refine dI cg ?_;rw[e1];refine AK ?_;refine Ag ?_;refine fR 300 ?_;refine dI cd ?_;refine fR 400 ?_;refine AX ?_;exact AM rfl AA.out
theorem dB (x:GI)(h:x.wf):Nc x=AY (x.z.natAbs:Nat):=by
 have h1:=tP x h;have h2:=vf x;rw[QX h1 (by omega),h2]
theorem I7 {n:Nat}(h:(Ad n).length<1000000):(AY (n:Int)).few:=by
 show(Ad (n:Int).natAbs).length<1000000;rw[Do];exact h
theorem bJ {a b:Nat}(hb:0<b):EO (AY a) (AY b)=(AY ((a/b:Nat):Int),AY ((a%b:Nat):Int)):=by
 have hb':(0:Int)<(AY (b:Int)).z:=by show(0:Int)<(b:Int);omega
 obtain⟨h1,h2⟩:=dA (Ch a) (Ch b) hb';obtain⟨h3,h4⟩:=gj (x:=AY a) hb';have e3:(EO (AY a) (AY b)).1.z=((a/b:Nat):Int):=by rw[h3];exact(Int.natCast_ediv a b).symm
 have e4:(EO (AY a) (AY b)).2.z=((a%b:Nat):Int):=by rw[h4];exact(Int.natCast_emod a b).symm
 have c3:=QX h1 (by rw[e3];generalize a/b=q;omega);have c4:=QX h2 (by rw[e4];generalize a%b=q;omega);rw[e3]at c3;rw[e4]at c4;generalize EO (AY a) (AY b)=p at*;obtain⟨p1,p2⟩:=p;dsimp only at c3 c4;rw[c3,c4]
theorem jw (x y:GI)(hx:x.wf)(hy:y.wf)(fx:x.few)(fy:y.few):AI C0 183 [x.D,y.D] (AY (Nat.gcd x.z.natAbs y.z.natAbs:Nat)).D:=by
 refine Ac.walk w1 Wt rfl λF=>?_
 have c1:=jW x hx fx;have c2:=jW y hy fy;rw[dB x hx]at c1;rw[dB y hy]at c2;have hpx:AA x.w:=AJ;have hpy:AA y.w:=AJ;have hpm:∀n:Nat,AA (AY (n:Int)).w:=λn=>AJ
 unfold GI.few at fx fy;generalize x.z.natAbs=a at*;generalize y.z.natAbs=b at*;dsimp only[GI.D]at*;refine fR 0 ?_;refine AC.seq ?_;refine B0 100 [0,1,2] [3,4,5] ?_;refine A9 ?_;refine BN.same _ (c1) AJ ?_;refine A9 ?_;refine dI c2 ?_;refine AC.seq ?_;refine AC.block ?_;refine AC.loop (α:=Nat×Nat×Nat) (λp=>⟨[(2,.optr 0 0 2 0 0),(3,.optr 1 1 2 0 0),(4,.optr 2 2 2 0 0)],[⟨2,2,109,2,[CG 0]⟩,⟨1,1,109,2,[.agg [i64 (AY (p.2.1:Int)).s,(AY (p.2.1:Int)).w]]⟩,⟨0,0,109,2,[.agg [i64 (AY (p.1:Int)).s,(AY (p.1:Int)).w]]⟩],p.2.2⟩) (λp=>p.2.1)
  (λp=>Nat.gcd p.1 p.2.1=Nat.gcd a b/\(Ad p.1).length<1000000/\(Ad p.2.1).length<1000000) (a,b,_) ⟨rfl,fx,fy⟩ AN ?_
 rintro⟨u,v,n⟩ F ⟨g1,g2,g3⟩;dsimp only at g1 g2 g3⊢;have cg:=OX (AY (v:Int)) (Ch _);rw[D8]at cg;dsimp only[GI.D]at cg;refine AC.seq ?_;refine fR 200 ?_;refine dI cg ?_;rcases EC v with hv|hv
 ·subst hv
  have e2:(max (-1) (min 1 ((0:Nat):Int)) != 0)=false:=by decide
  rw[e2];refine AK ?_;refine CM ?_;refine fR 500 ?_;refine AX ?_;refine AM ?_ AA.out;rw[<-g1,Nat.gcd_zero_right]
 ·have e2:(max (-1) (min 1 (v:Int)) != 0)=true:=by
   have:max (-1) (min 1 (v:Int))=1:=by omega
   rw[this];rfl
  have cd:=bK (AY (u:Int)) (AY (v:Int)) (Ch _) (Ch _) (by show(0:Int)<(v:Int);omega) (I7 g2) (I7 g3);rw[bJ hv]at cd;dsimp only[GI.D]at cd;rw[e2];refine AK ?_;refine Ag ?_;refine AC.block ?_;refine fR 300 ?_;refine dI cd ?_;refine PE w1 400 [0,1,2] [3] 2 [0] (0) (by kernel_rfl) (by kernel_rfl) ?_;refine A9 ?_;refine A9 ?_;have hm:u%v<v:=CJ u hv;refine⟨(v,u%v,_),⟨?_,g3,DD (IY _ _ (Nat.mod_le _ _)) g2⟩,hm,AN⟩;rw[<-g1,MZ u v,Nat.gcd_rec v u,MZ]
structure GF where
 n:GI
 d:Nat
abbrev GF.D (x:GF):D:=.agg [i64 x.n.s,x.n.w,i64 (AY (x.d:Int)).s,(AY (x.d:Int)).w]
def Hu (r:Rat)(x:GF):Prop:=x.n.wf/\x.n.z=r.num/\x.d=r.den
theorem uC {a b:Nat}(hb:0<b)(h:(Ad b).length<1000000):(Ad (Nat.gcd a b)).length<1000000:=DD (IY _ _ (RI _ hb)) h
def JE (x:GI)(d:Nat):GF:=if d=1 then⟨x,1⟩else⟨(EO x (AY (Nat.gcd x.z.natAbs d:Nat))).1,d/Nat.gcd x.z.natAbs d⟩
theorem SW (x:GI)(d:Nat)(hx:x.wf)(hd:0<d):Hu (mkRat x.z d) (JE x d):=by
 have hg:0<Nat.gcd x.z.natAbs d:=Nl _ hd;have e:mkRat x.z d=Rat.normalize x.z d (by omega):=(Rat.normalize_eq_mkRat _).symm;rw[e,Rat.normalize_eq];unfold JE;split
 ·rename_i h
  subst h;refine⟨hx,?_,?_⟩
  ·dsimp only;rw[Nat.gcd_one_right];simp
  ·dsimp only;rw[Nat.gcd_one_right]
 ·have hg':(0:Int)<(AY (Nat.gcd x.z.natAbs d:Nat)).z:=by show(0:Int)<(Nat.gcd x.z.natAbs d:Nat);omega
  exact⟨(dA hx (Ch _) hg').1,(gj hg').1,rfl⟩
theorem W5:AY ((1:Nat):Int)=⟨1,true⟩:=Km ⟨by decide,by decide⟩
theorem Tz {d:Nat}(h:Sm (d:Int)):(AY (d:Int)).s=(d:Int)/\(AY (d:Int)).w=CS:=by rw[Km h];exact⟨rfl,rfl⟩
theorem X7 {d:Nat}(h:¬Sm (d:Int)):(AY (d:Int)).s=1/\(AY (d:Int)).w=.sl false 1 ((Ad d).map AS)/\(Ad d).map AS≠[]:=by
 rw[W4 h];refine⟨?_,rfl,Ia ?_⟩
 ·show(if(d:Int)<0 then(-1:Int)else 1)=1
  rw[B3]
 ·intro h0
  subst h0;exact h ⟨by decide,by decide⟩
def L8 (x y:GI):GF:=JE (if y.z<0 then AY (-x.z)else x) y.z.natAbs
theorem s5 (x y:GI)(hx:x.wf)(h0:y.z≠0):Hu (Rat.divInt x.z y.z) (L8 x y):=by
 unfold L8
 by_cases h:y.z<0
 ·rw[AH h]
  have:=SW (AY (-x.z)) y.z.natAbs (Ch _) (by omega)
  rw[D8]at this;have e:mkRat (-x.z) y.z.natAbs=Rat.divInt x.z y.z:=by
   obtain⟨k,hk⟩:∃k,y.z=Int.negSucc k:=by
    cases hy:y.z with
    |ofNat n=>rw[hy]at h;simp at h;omega
    |negSucc k=>exact⟨k,rfl⟩
   rw[hk];show mkRat (-x.z) (k+1)=_;exact(Rat.normalize_eq_mkRat (by omega)).symm
  rw[e]at this;exact this
 ·rw[AG h]
  have:=SW x y.z.natAbs hx (by omega)
  have e:mkRat x.z y.z.natAbs=Rat.divInt x.z y.z:=by
   rw[<-Rat.divInt_ofNat];congr 1;omega
  rw[e]at this;exact this
theorem iN (x y:GI)(hx:x.wf)(hy:y.wf)(h0:y.z≠0)(fx:x.few)(fy:y.few):AI C0 132 [x.D,y.D] (L8 x y).D:=by
 refine Ac.walk w1 Sz rfl λF=>?_
 have cg:=OX y hy;have cn1:=Oi x hx fx;have cn2:=Oi y hy fy;obtain⟨x',hx'⟩:∃x',x'=if y.z<0 then AY (-x.z)else x:=⟨_,rfl⟩
 have wx':x'.wf:=by rw[hx'];split;exact Ch _;exact hx
 have fx':x'.few:=by rw[hx'];split;exact dW fx;exact fx
 have hd:0<y.z.natAbs:=by omega
 have fd:(Ad y.z.natAbs).length<1000000:=fy;have fdg:=I7 fd;have ey:y.z<0->AY (-y.z)=AY (y.z.natAbs:Int):=λh=>by congr 1;omega
 have ey':¬y.z<0->y=AY (y.z.natAbs:Int):=λh=>by
  rw[QX hy (by omega)];show AY y.z=AY (y.z.natAbs:Int)
  congr 1;omega
 unfold L8;rw[<-hx'];generalize hdd:y.z.natAbs=d at*;have hpx:AA x.w:=AJ;have hpy:AA y.w:=AJ;have hpx':AA x'.w:=AJ;have hpd:AA (AY (d:Int)).w:=AJ;have hg:0<Nat.gcd x'.z.natAbs d:=Nl _ hd;have cc:=jw x' (AY (d:Int)) wx' (Ch _) fx' fdg;rw[D8,Do]at cc;have fgg:(AY (Nat.gcd x'.z.natAbs d:Nat)).few:=I7 (uC hd fd);have cq1:=kO x' (AY (Nat.gcd x'.z.natAbs d:Nat)) wx' (Ch _) (by show(0:Int)<(Nat.gcd x'.z.natAbs d:Nat);omega) fx' fgg;have cq2:=kO (AY (d:Int)) (AY (Nat.gcd x'.z.natAbs d:Nat)) (Ch _) (Ch _) (by show(0:Int)<(Nat.gcd x'.z.natAbs d:Nat);omega) fdg fgg;rw[bJ hg]at cq2;have hpg:AA (AY ((Nat.gcd x'.z.natAbs d:Nat):Int)).w:=AJ;have hpq1:AA (EO x' (AY (Nat.gcd x'.z.natAbs d:Nat))).1.w:=AJ;have hpq2:AA (AY ((d/Nat.gcd x'.z.natAbs d:Nat):Int)).w:=AJ;unfold JE GF.D;dsimp only[GI.D]at*;refine fR 0 ?_;refine Fp ⟨[(2,.optr 0 0 2 0 0),(3,.optr 1 1 2 0 0),(4,.optr 2 2 4 0 0)],[⟨2,2,111,4,[.agg [i64 0,CS,i64 0,CS]]⟩,⟨1,1,109,2,[.agg [i64 (AY (d:Int)).s,(AY (d:Int)).w]]⟩,⟨0,0,109,2,[.agg [i64 x'.s,x'.w]]⟩],90⟩ ?_ ?_
 ·by_cases h:y.z<0
  ·have e1:decide (max (-1) (min 1 y.z)<0)=true:=BV
   rw[AH h]at hx';subst hx';rw[<-ey h];refine fR 100 ?_;refine dI cg ?_;rw[e1];refine AK ?_;refine B0 200 [0,1,2] [3,4,5] ?_;refine A9 ?_;refine BN.same _ (cn1) AJ ?_;refine A9 ?_;refine dI cn2 ?_;exact⟨rfl,AN⟩
  ·have e1:decide (max (-1) (min 1 y.z)<0)=false:=BY
   rw[AG h]at hx';subst hx';have ey:=ey' h;refine fR 100 ?_;refine dI cg ?_;rw[e1];refine AK ?_;refine Ag ?_;rw[<-ey];exact⟨rfl,AN⟩
 by_cases h1:d=1
 ·subst h1
  rw[AH rfl,W5];refine AC.seq ?_;refine sZ 300 ?_
  repeat'(first|(refine A7 (by exact Bu) ?_;refine BA ?_)|((refine Bn (λhb=>?_) (λhb=>?_))<;>(try simp only[BZ,Bl]at hb)<;>(try simp only[hb])<;>(refine BA ?_)))
  refine AK ?_;refine fR 400 ?_;refine AX ?_;exact AM rfl AA.out
 ·rw[AG h1]
  refine Fp ⟨[(2,.optr 0 0 2 0 0),(3,.optr 1 1 2 0 0),(4,.optr 2 2 4 0 0)],[⟨2,2,111,4,[.agg [i64 0,CS,i64 0,CS]]⟩,⟨1,1,109,2,[.agg [i64 (AY (d:Int)).s,(AY (d:Int)).w]]⟩,⟨0,0,109,2,[.agg [i64 x'.s,x'.w]]⟩],98⟩ ?_ ?_
  ·by_cases hs:Sm (d:Int)
   ·obtain⟨a1,a2⟩:=Tz hs
    rw[a1,a2];have e2:((d:Int)==1)=false:=B8.2 (by omega);refine sZ 300 ?_
    repeat'(first|(refine A7 (by exact Bu) ?_;refine BA ?_)|((refine Bn (λhb=>?_) (λhb=>?_))<;>(try simp only[BZ,Bl]at hb)<;>(try simp only[hb])<;>(refine BA ?_)))
    try simp only[e2]
    refine AK ?_;refine Ag ?_;exact⟨rfl,⟨Kf _,⟨.refl _,.refl _,.refl _,trivial⟩,Am _⟩⟩
   ·obtain⟨a1,a2,a3⟩:=X7 hs
    rw[a1,a2];generalize(Ad d).map AS=l at*;refine AC.seq ?_;refine An 300 ?_;refine AW (BG (@ne_eq (List D)) a3 E5) ?_;refine AF kT ?_;refine AK ?_;refine Ag ?_;exact⟨rfl,⟨Kf _,⟨.refl _,.refl _,.refl _,trivial⟩,Am _⟩⟩
  ·refine fR 500 ?_
   refine dI cc ?_;refine AC.seq ?_;refine B0 600 [0,1,2,3,4] [5,6,7] ?_;refine A9 ?_;refine BN.same _ (cq1) AJ ?_;refine A9 ?_;refine dI cq2 ?_;refine AX ?_;exact AM rfl AA.out
def rk (r:Rat)(k:Nat):Prop:=(Ad r.num.natAbs).length<=k/\(Ad r.den).length<=k
theorem rk.mono {r:Rat}{k l:Nat}(h:rk r k)(hl:k<=l):rk r l:=⟨BP h.1 hl,BP h.2 hl⟩
theorem Sf {n:Int}{d k:Nat}(hd:d≠0)(h1:(Ad n.natAbs).length<=k)(h2:(Ad d).length<=k):rk (Rat.normalize n d hd) k:=by
 rw[Rat.normalize_eq];exact⟨BP (IY _ _ (Int.natAbs_ediv_le_natAbs _ _)) h1,BP (IY _ _ (GH _ _)) h2⟩
theorem LS (a b:Int):(Ad (a*b).natAbs).length<=(Ad a.natAbs).length+(Ad b.natAbs).length:=by
 rw[KJ];exact Mn _ _
theorem Zj (a b:Int):(Ad (a+b).natAbs).length<=max (Ad a.natAbs).length (Ad b.natAbs).length+1:=
 BP (IY _ _ (Int.natAbs_add_le a b)) (Z0 _ _)
theorem XC {a b:Rat}{i j:Nat}(ha:rk a i)(hb:rk b j):rk (a+b) (i+j+1):=by
 rw[Rat.add_def];have h1:=LS a.num b.den;have h2:=LS b.num a.den;have h3:=Zj (a.num*b.den) (b.num*a.den);have h4:=Mn a.den b.den;rw[Do]at h1 h2;obtain⟨a1,a2⟩:=ha;obtain⟨b1,b2⟩:=hb;exact Sf _ (by omega) (by omega)
theorem i8 {a b:Rat}{i j:Nat}(ha:rk a i)(hb:rk b j):rk (a*b) (i+j):=by
 rw[Rat.mul_def];have h1:=LS a.num b.num;have h4:=Mn a.den b.den;obtain⟨a1,a2⟩:=ha;obtain⟨b1,b2⟩:=hb;exact Sf _ (by omega) (by omega)
theorem d7g {a:Rat}{i:Nat}(ha:rk a i):rk (-a) i:=by
 unfold rk;rw[Rat.neg_num,Rat.neg_den,LG];exact ha
structure FR (r:Rat)(x:GF)(k:Nat):Prop where
 is:Hu r x
 rk:rk r k
theorem FR.fn {r:Rat}{x:GF}{k:Nat}(h:FR r x k)(hk:k<1000000):x.n.few:=by
 show(Ad x.n.z.natAbs).length<1000000;rw[h.is.2.1];have:=h.rk.1;omega
theorem FR.ln {r:Rat}{x:GF}{k:Nat}(h:FR r x k):(Ad x.n.z.natAbs).length<=k:=by rw[h.is.2.1];exact h.rk.1
theorem FR.ld {r:Rat}{x:GF}{k:Nat}(h:FR r x k):(Ad x.d).length<=k:=by rw[h.is.2.2];exact h.rk.2
theorem FR.dpos {r:Rat}{x:GF}{k:Nat}(h:FR r x k):0<x.d:=by rw[h.is.2.2];exact r.den_pos
theorem Qz (x:GI)(d:Nat)(hx:x.wf)(fx:(Ad x.z.natAbs).length<400000)(fd:(Ad d).length<400000):AI C0 133 [x.D,(AY (d:Int)).D] (AY (x.z*d)).D:=by
 have:=kW x (AY (d:Int)) hx (Ch _) fx (by rw[D8,Do];exact fd)
 rwa [D8]at this
theorem X9 (c d:Nat)(fc:(Ad c).length<400000)(fd:(Ad d).length<400000):AI C0 133 [(AY (c:Int)).D,(AY (d:Int)).D] (AY ((c*d:Nat):Int)).D:=by
 have:=Qz (AY (c:Int)) d (Ch _) (by rw[D8,Do];exact fc) fd
 rw[D8,<-FF]at this;exact this
theorem au (x:GI)(d:Nat)(hx:x.wf)(hd:0<d)(fx:x.few)(fd:(Ad d).length<1000000):AI C0 132 [x.D,(AY (d:Int)).D] (JE x d).D:=by
 have:=iN x (AY (d:Int)) hx (Ch _) (by rw[D8];omega) fx (I7 fd)
 unfold L8 at this;rw[D8,B3,Do]at this;exact this
theorem VA (x:GF)(hd:0<x.d):AI C0 134 [x.D] (Av (decide (x.d=1))):=by
 refine Ac.walk w1 Wo rfl λF=>?_
 obtain⟨y,d⟩:=x;dsimp only[GF.D]at hd⊢;have hpy:AA y.w:=AJ;generalize y.s=ys at*;generalize y.w=yw at*
 by_cases hs:Sm (d:Int)
 ·obtain⟨a1,a2⟩:=Tz hs
  rw[a1,a2];have e2:((d:Int)==1)=decide (d=1):=by
   rw[E6,EW,decide_eq_true_iff];omega
  refine fR 0 ?_;refine sZ 100 ?_
  repeat'(first|(refine A7 (by exact Bu) ?_;refine BA ?_)|((refine Bn (λhb=>?_) (λhb=>?_))<;>(try simp only[BZ,Bl]at hb)<;>(try simp only[hb])<;>(refine BA ?_)))
  try simp only[e2]
  refine AX ?_;exact AM rfl AA.out
 ·obtain⟨a1,a2,a3⟩:=X7 hs
  rw[a1,a2];have e2:decide (d=1)=false:=Az λh=>hs (by rw[h];exact⟨by decide,by decide⟩)
  rw[e2];generalize(Ad d).map AS=l at*;refine fR 0 ?_;refine AC.seq ?_;refine An 100 ?_;refine AW (BG (@ne_eq (List D)) a3 E5) ?_;refine AF kT ?_;refine AX ?_;exact AM rfl AA.out
def JJ (x y:GF):GF:=if x.d=1/\y.d=1 then⟨Ei x.n y.n,1⟩else JE (Ei (AY (x.n.z*y.d)) (AY (y.n.z*x.d))) (x.d*y.d)
theorem tQ {a b:Rat}{x y:GF}(hx:Hu a x)(hy:Hu b y):Hu (a+b) (JJ x y):=by
 obtain⟨x1,x2,x3⟩:=hx;obtain⟨y1,y2,y3⟩:=hy;rw[Rat.add_def,Rat.normalize_eq_mkRat,<-x2,<-x3,<-y2,<-y3];unfold JJ;split
 ·rename_i h
  rw[h.1,h.2];refine⟨OL _ _,?_,?_⟩
  ·dsimp only
   rw[OT];show _=(mkRat (x.n.z*1+y.n.z*1) 1).num;rw[Int.mul_one,Int.mul_one,Rat.mkRat_one,Rat.num_intCast]
  ·dsimp only
   show _=(mkRat (x.n.z*1+y.n.z*1) 1).den;rw[Rat.mkRat_one,Rat.den_intCast]
 ·have:=SW (Ei (AY (x.n.z*y.d)) (AY (y.n.z*x.d))) (x.d*y.d) (OL _ _) (HQ (by rw[x3];exact a.den_pos) (by rw[y3];exact b.den_pos))
  rw[OT,D8,D8]at this;exact this
theorem fX (x:GI):AI C0 113 [x.D] (⟨x,1⟩:GF).D:=by
 refine Ac.walk w1 Wi rfl λF=>?_
 have hpx:AA x.w:=AJ;unfold GF.D;rw[W5];dsimp only[GI.D]at*;refine fR 0 ?_;refine AC.seq ?_;refine B0 100 [0,1] [2,3] ?_;refine A9 ?_;refine BN.same _ (Qk 1) AJ ?_;refine A9 ?_;refine AX ?_;exact AM rfl AA.out
theorem Sy {a b:Rat}{x y:GF}{i j:Nat}(hx:FR a x i)(hy:FR b y j)(hk:i+j<300000):AI C0 86 [x.D,y.D] (JJ x y).D:=by
 refine Ac.walk w1 Xq rfl λF=>?_
 have v1:=VA x hx.dpos;have v2:=VA y hy.dpos;have l1:=hx.ln;have l2:=hy.ln;have l3:=hx.ld;have l4:=hy.ld;have dp:=HQ hx.dpos hy.dpos;have m1:=Qz x.n y.d hx.is.1 (by omega) (by omega);have m2:=Qz y.n x.d hy.is.1 (by omega) (by omega);have m3:=X9 x.d y.d (by omega) (by omega);have z1:=LS x.n.z y.d;have z2:=LS y.n.z x.d;rw[Do]at z1 z2;have z3:=Zj (x.n.z*y.d) (y.n.z*x.d);have z4:=Mn x.d y.d;have s1:=Qb (AY (x.n.z*y.d)) (AY (y.n.z*x.d)) (Ch _) (Ch _) (by show(Ad (x.n.z*y.d).natAbs).length<1000000;omega) (by show(Ad (y.n.z*x.d).natAbs).length<1000000;omega);have s0:=Qb x.n y.n hx.is.1 hy.is.1 (hx.fn (by omega)) (hy.fn (by omega));have mk:=au (Ei (AY (x.n.z*y.d)) (AY (y.n.z*x.d))) (x.d*y.d) (OL _ _) dp (by
  show(Ad (Ei (AY (x.n.z*y.d)) (AY (y.n.z*x.d))).z.natAbs).length<1000000;rw[OT,D8,D8];omega) (by omega)
 have wg:=fX (Ei x.n y.n);have hp1:AA x.n.w:=AJ;have hp2:AA y.n.w:=AJ;have hp3:AA (AY (x.d:Int)).w:=AJ;have hp4:AA (AY (y.d:Int)).w:=AJ;have hp5:AA (Ei x.n y.n).w:=AJ;have hp6:AA (Ei (AY (x.n.z*y.d)) (AY (y.n.z*x.d))).w:=AJ;have hp7:AA (AY (x.n.z*y.d)).w:=AJ;have hp8:AA (AY (y.n.z*x.d)).w:=AJ;have hp9:AA (AY ((x.d*y.d:Nat):Int)).w:=AJ;have hq1:AA (JE (Ei (AY (x.n.z*y.d)) (AY (y.n.z*x.d))) (x.d*y.d)).n.w:=AJ;have hq2:AA (AY ((JE (Ei (AY (x.n.z*y.d)) (AY (y.n.z*x.d))) (x.d*y.d)).d:Int)).w:=AJ;have hq3:AA (AY ((1:Nat):Int)).w:=AJ;unfold JJ;clear z1 z2 z3 z4 l1 l2 l3 l4 dp hk hx hy;dsimp only[GI.D,GF.D]at*
 by_cases e1:x.d=1
 ·have fb:decide (x.d=1)=true:=Ax e1
  rw[fb]at v1
  by_cases e2:y.d=1
  ·have fd:decide (y.d=1)=true:=Ax e2
   rw[fd]at v2;rw[AH ⟨e1,e2⟩];refine fR 0 ?_;refine AC.seq ?_;refine fR 100 ?_;refine dI v1 ?_;dsimp only[J5];refine A9 ?_;dsimp only[J5];refine A9 ?_;refine dI v2 ?_;refine AK ?_;refine fR 200 ?_;refine dI s0 ?_;refine dI wg ?_;refine AX ?_;exact AM rfl AA.out
  ·have fd:decide (y.d=1)=false:=Az e2
   rw[fd]at v2;rw[AG λh=>e2 h.2];refine fR 0 ?_;refine AC.seq ?_;refine fR 100 ?_;refine dI v1 ?_;dsimp only[J5];refine A9 ?_;dsimp only[J5];refine A9 ?_;refine dI v2 ?_;refine AK ?_;refine Ag ?_;refine AC.seq ?_;refine B0 300 [0,1,2,3,4,5,6,7,8,9,10,11,12,13,14] [15,16,17] ?_;refine A9 ?_;refine BN.same _ (m1) AJ ?_;refine A9 ?_;refine BN.same _ (m2) AJ ?_;refine A9 ?_;refine BN.same _ (s1) AJ ?_;refine A9 ?_;refine dI m3 ?_;refine dI mk ?_;refine AX ?_;exact AM rfl AA.out
 ·have fb:decide (x.d=1)=false:=Az e1
  rw[fb]at v1;rw[AG λh=>e1 h.1];refine fR 0 ?_;refine AC.seq ?_;refine fR 100 ?_;refine dI v1 ?_;dsimp only[Oq];refine A9 ?_;dsimp only[Oq];refine A9 ?_;refine AK ?_;refine Ag ?_;refine AC.seq ?_;refine B0 300 [0,1,2,3,4,5,6,7,8,9,10,11,12,13,14] [15,16,17] ?_;refine A9 ?_;refine BN.same _ (m1) AJ ?_;refine A9 ?_;refine BN.same _ (m2) AJ ?_;refine A9 ?_;refine BN.same _ (s1) AJ ?_;refine A9 ?_;refine dI m3 ?_;refine dI mk ?_;refine AX ?_;exact AM rfl AA.out
end Go.Ide
