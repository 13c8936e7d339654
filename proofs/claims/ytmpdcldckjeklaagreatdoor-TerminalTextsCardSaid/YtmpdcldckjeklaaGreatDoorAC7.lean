/- The layer of own lemmas and contracts, part 7. -/
import Derived.Test.YtmpdcldckjeklaaGreatDoorAC5
import Derived.Test.YtmpdcldckjeklaaGreatDoorAC4
import Derived.Test.YtmpdcldckjeklaaGreatDoorAC6
import Derived.Lib.AppendIntMem
import Derived.Lib.SmallJoins
import Derived.Shelf.Spec.BitsCarry
import Derived.Laws.StandIn
import Derived.Lib.Bytealg
set_option linter.unusedVariables false
set_option linter.unusedSimpArgs false
namespace Go.Ide
open Go Go.Ide Go.Proofs Go.RowKit
set_option maxRecDepth 100000
def G0 (w:World):Prop:=Lib.TabIs Tryz.prog w "internal/strconv.uint64pow10" .u64 Lib.pow10Tab
theorem VX:Tryz.prog.globalNamed "internal/strconv.uint64pow10" = some 5:=by kernel_rfl
theorem VP {w w':World}(h:G0 w)(b:Below (5+1) w w'):G0 w':=by
 unfold G0 Lib.TabIs World.var? at h⊢;rw[VX]at h⊢;simp only[Option.bind_some]at h⊢;rw[b.block _ (by decide)];exact h
noncomputable def C0:AX:={P:=Tryz.prog,G:=G0,nG:=5+1,hG:=λ_ _=>VP}
theorem SQ {ρ:Lk}{O:Nat->Prop}{w:World}{a b c:Value}{vs:Array Value}(hn:vs.size=3)(h:∀(i:Nat) (x:D),[D.prim a,.prim b,.prim c][i]?=some x->AF ρ O w x (vs.getD i undef)):vs = #[a,b,c]:=by
 match vs,hn with
 |⟨[u,v,x]⟩,_=>
  have h0:=h 0 _ rfl;have h1:=h 1 _ rfl;have h2:=h 2 _ rfl;simp at h0 h1 h2;cases h0;cases h1;cases h2;rfl
theorem Uf (x y c:Nat)(hc:c<=1):F5 C0 235 [.prim (.int .u64 x),.prim (.int .u64 y),.prim (.int .u64 c)]
  (.tup [.prim (.int .u64 (((x+y+c)%18446744073709551616:Nat):Int)),.prim (.int .u64 (((x+y+c)/18446744073709551616:Nat):Int))]):=.inl λρ O w vs hn h=>by
 have:=SQ hn h
 subst this;refine⟨.tuple #[.int .u64 (((x+y+c)%18446744073709551616:Nat):Int),.int .u64 (((x+y+c)/18446744073709551616:Nat):Int)],?_,.tup rfl λi d hd=>?_⟩
 ·show(callFunc 235 _).run Tryz.prog w=_
  rw[run_callFunc_extern Tryz.func235 (by kernel_rfl) (by kernel_rfl) (by kernel_rfl) (e:=add64Entry) (by kernel_rfl),run_add64 x y c (by omega) (by omega) (by omega) (by omega)];simp only[Result.andThen]
  congr 5<;>omega
 ·match i with
  | 0=>simp at hd;subst hd;exact .prim _
  | 1=>simp at hd;subst hd;exact .prim _
  |n+2=>simp at hd
theorem SP {ρ:Lk}{O:Nat->Prop}{w:World}{a b:Value}{vs:Array Value}(hn:vs.size=2)(h:∀(i:Nat) (x:D),[D.prim a,.prim b][i]?=some x->AF ρ O w x (vs.getD i undef)):vs = #[a,b]:=by
 match vs,hn with
 |⟨[u,v]⟩,_=>
  have h0:=h 0 _ rfl;have h1:=h 1 _ rfl;simp at h0 h1;cases h0;cases h1;rfl
theorem Tc (s:ByteArray)(c:Int):F5 C0 252 [.prim (.string s),.prim (.int .u8 c)] (.prim (.int .i64 (firstIdx s c.toNat.toUInt8))):=.inl λρ O w vs hn h=>by
 have:=SP hn h
 subst this;refine⟨_,?_,.prim _⟩;show(callFunc 252 _).run Tryz.prog w=_;rw[run_callFunc_indexByte Tryz.func252 (by kernel_rfl) (by kernel_rfl) (by kernel_rfl) (by kernel_rfl),run_indexByte_string];rfl
theorem VJ (x y b:Nat)(hb:b<=1):F5 C0 237 [.prim (.int .u64 x),.prim (.int .u64 y),.prim (.int .u64 b)]
  (.tup [.prim (.int .u64 (((x+18446744073709551616-y-b)%18446744073709551616:Nat):Int)),.prim (.int .u64 ((if x<y+b then 1 else 0:Nat):Int))]):=.inl λρ O w vs hn h=>by
 have:=SQ hn h
 subst this;refine⟨.tuple #[.int .u64 (((x+18446744073709551616-y-b)%18446744073709551616:Nat):Int),.int .u64 ((if x<y+b then 1 else 0:Nat):Int)],?_,.tup rfl λi d hd=>?_⟩
 ·show(callFunc 237 _).run Tryz.prog w=_
  rw[run_callFunc_extern Tryz.func237 (by kernel_rfl) (by kernel_rfl) (by kernel_rfl) (e:=sub64Entry) (by kernel_rfl),run_sub64 x y b hb];rfl
 ·match i with
  | 0=>simp at hd;subst hd;exact .prim _
  | 1=>simp at hd;subst hd;exact .prim _
  |n+2=>simp at hd
theorem Qc {O:Nat->Prop}{w:World}{v:Value}{vs:Array Value}(hn:vs.size=1)(h:∀(i:Nat) (x:D),[D.prim v][i]?=some x->AF nol O w x (vs.getD i undef)):vs = #[v]:=by
 match vs,hn with
 |⟨[u]⟩,_=>
  have h0:=h 0 _ rfl;simp at h0;cases h0;rfl
theorem RB (n:Int)(h0 : -9223372036854775808<=n)(h1:n<=9223372036854775807):Af C0 53 [i64 n] (str ⟨(Lib.itoa n).toArray⟩):=by
 refine⟨⟨_,_,Tryz.func53,rfl,by kernel_rfl⟩,λY w vs hG hnG hX hvs hr=>?_⟩
 have:=Qc hvs hr
 subst this;refine(Tryz.strconv_Itoa n h0 h1 w hG).mono ?_;rintro e w' ⟨rfl,k,os,rfl⟩;exact⟨_,_,rfl,Lib.below_grow _ _ (Ag _) _ _,rfl,.prim _⟩
theorem Qy (s:ByteArray)(n:Int)(hl:s.size<=18)(h:Lib.atoi s.data.toList=some n):Af C0 52 [str s] (.tup [i64 n,.prim .nilIface]):=by
 refine⟨⟨_,_,Tryz.func52,rfl,by kernel_rfl⟩,λY w vs hG hnG hX hvs hr=>?_⟩
 have:=Qc hvs hr
 subst this;refine(Tryz.strconv_Atoi s n hl h w).mono ?_;rintro e w' ⟨rfl,t,rfl⟩;exact⟨_,_,rfl,Joins.below_bytesWorld _ _ _ _ (Ag _),rfl,.tup rfl λi d hd=>by
  match i with
  | 0=>simp at hd;subst hd;exact .prim _
  | 1=>simp at hd;subst hd;exact .prim _
  |n+2=>simp at hd⟩
def Kr (f:Nat)(ds:List D):Option D:=match Nat.beq f 235 with
 |true=>match ds with
  | [.prim (.int .u64 (.ofNat a)),.prim (.int .u64 (.ofNat b)),.prim (.int .u64 (.ofNat c))]=>match Nat.ble c 1 with
   |true=>some (.tup [.prim (.int .u64 (((a+b+c)%18446744073709551616:Nat):Int)),.prim (.int .u64 (((a+b+c)/18446744073709551616:Nat):Int))])
   |false=>none
  |_=>none
 |false=>match Nat.beq f 237 with
  |true=>match ds with
   | [.prim (.int .u64 (.ofNat a)),.prim (.int .u64 (.ofNat b)),.prim (.int .u64 (.ofNat c))]=>match Nat.ble c 1 with
    |true=>some (.tup [.prim (.int .u64 (((a+18446744073709551616-b-c)%18446744073709551616:Nat):Int)),.prim (.int .u64 ((if a<b+c then 1 else 0:Nat):Int))])
    |false=>none
   |_=>none
  |false=>match Nat.beq f 252 with
   |true=>match ds with
    | [.prim (.string s),.prim (.int .u8 c)]=>some (.prim (.int .i64 (firstIdx s c.toNat.toUInt8)))
    |_=>none
   |false=>none
theorem OE (f:Nat)(ds:List D)(d:D)(h:Kr f ds=some d):F5 C0 f ds d:=by
 unfold Kr at h;split at h
 ·rename_i hf
  obtain rfl:=Ab hf;split at h<;>try(cases h;done)
  split at h<;>try(cases h;done)
  rename_i hc;cases h;exact Uf _ _ _ (A0 hc)
 ·split at h
  ·rename_i hf
   obtain rfl:=Ab hf;split at h<;>try(cases h;done)
   split at h<;>try(cases h;done)
   rename_i hc;cases h;exact VJ _ _ _ (A0 hc)
  ·split at h
   ·rename_i hf
    obtain rfl:=Ab hf;split at h<;>try(cases h;done)
    cases h;exact Tc _ _
   ·cases h
noncomputable def X1:EV:=⟨Jm.get,Ij.get,Jg.get,λ_=>false,λ_ _=>none,λ_ _=>none,Kr⟩
theorem FN:B9 C0 X1:=⟨Aw,Ct,Gz,λ_ _ _ h=>by simp[X1]at h,by kernel_rfl,λ_ _ _ h=>by simp[X1]at h,OE⟩
theorem w1:CZ C0 X1:=FN.w
theorem DM {B:AG}{rd:Option Nat}{F:AG}{ops:Array Oper}{s:St}{Q:Exit->AG->St->Prop}{i:Nat}(kb:Nat)(h:CD C0 X1 kb ops (List.range ops.size) s True λacc s=>acc/\Q .normal F s)(hnd:DS ops.toList=true:=by kernel_rfl):AQ C0 B rd F (.region i ops false) s Q:=AQ.reg w1 kb hnd h
theorem FV {C:AX}{X:EV}(hX:B9 C X)(n k:Nat){f:Nat}{ds:List D}{d:D}(h:(En X n k).1 f ds=some d:=by kernel_rfl):Af C f ds d:=TB hX n k h
theorem wI {z:Int}(h1 : -9223372036854775808<=z:=by omega)(h2:z<=9223372036854775807:=by omega):IntKind.i64.wrap z=z:=by
 have e1:(2:Int)^IntKind.i64.bits=18446744073709551616:=rfl;have e2:(2:Int)^(IntKind.i64.bits-1)=9223372036854775808:=rfl;unfold IntKind.wrap;simp only[e1,e2];have e3:IntKind.i64.signed=true:=rfl;rw[e3];simp only[Kz,FR];split<;>omega
theorem wN {n:Nat}(h:n<=9223372036854775807):IntKind.i64.wrap (n:Int)=n:=wI
set_option maxRecDepth 20000
def Bg (b:Nat):Bool:=((decide (97<=b)&&decide (b<=122))||(decide (65<=b)&&decide (b<=90)))||(decide (48<=b)&&decide (b<=57))||b==45||b==95||b==46
def Dp (l:List UInt8):Bool:=l.all (λb=>Bg b.toNat)&&(decide (1<=l.length)&&decide (l.length<=24))
theorem Si (s:ByteArray)(p:Nat)(hp:p<s.size):s.data.toList[p]?=some (s.get! p):=by
 have hp':p<s.data.size:=hp;rw[Fq,BB hp']
 congr 1
 show _=s.data[p]!;rw[getElem!_pos s.data p hp']
theorem Qp (s:ByteArray)(p:Nat)(h:(s.get! p).toNat<128):Utf8.decode s p=((s.get! p).toNat,1):=by
 unfold Utf8.decode;exact AL h
theorem U0 (s:ByteArray)(p:Nat)(h:¬(s.get! p).toNat<128):128<=(Utf8.decode s p).1:=by
 unfold Utf8.decode;dsimp only;simp only[FA];rw[AM h];have hv:128<=Utf8.runeError:=by decide
 repeat' split
 all_goals first|exact hv|(rename_i h1;simp only[ge_iff_le,Ad,FR]at h1;dsimp only;omega)
theorem QA (s:ByteArray):Af C0 34 [str s] (Al (Dp s.data.toList)):=by
 refine BN.walk w1 SH rfl λB=>?_
 have hsz:s.data.toList.length=s.size:=Gu;refine fR 0 ?_;refine AQ.seq ?_;refine AQ.seq ?_;refine ea w1 100 [0] 1 rfl (by kernel_rfl) rfl ?_;refine GS ?_;intro F hF;refine BD ?_;refine AQ.block ?_;refine Oy (α:=Nat×Nat) (λp=>⟨[(0,str s),(7,.optr 101 2 0 0 0)],[],p.2⟩) (λp=>s.size-p.1) (λp F=>I0 C0 B F 101 2 s p.1/\p.1<=s.size/\(s.data.toList.take p.1).all (λb=>Bg b.toNat)=true) (0,3) ⟨hF,CJ _,rfl⟩ As ?_;rintro⟨p,n⟩ F ⟨hIt,hp,hall⟩;dsimp only at hIt hp hall⊢;refine AQ.seq ?_;refine eH w1 200 0 [1] rfl (by kernel_rfl) s p ?_;refine C2 hIt (C2 (λhlt F hIt=>?_) (λhge=>?_))
 ·refine GS ?_
  generalize hc:(Utf8.decode s p).1=c;refine AQ.seq ?_;refine Cm ?_;refine FW ?_;refine AQ.block ?_;refine fR 300 ?_;refine O3 ⟨[(0,str s),(7,.optr 101 2 0 0 0),(4,.prim (.int .i32 c)),(5,Al ((decide ((c:Int)>=97)&&decide ((c:Int)<=122))||(decide ((c:Int)>=65)&&decide ((c:Int)<=90))))],[],n+30⟩ (DM 400 ?_) ?_
  ·repeat'(first|(refine C2 (by exact B7) ?_;refine BD ?_)|((refine Kp (λhb=>?_) (λhb=>?_))<;>(try simp only[El,K2]at hb)<;>(try simp only[hb])<;>(refine BD ?_)))
   all_goals exact As
  generalize hL:((decide ((c:Int)>=97)&&decide ((c:Int)<=122))||(decide ((c:Int)>=65)&&decide ((c:Int)<=90)))=L;refine O3 ⟨[(0,str s),(7,.optr 101 2 0 0 0),(47,Al ((((!L && !(decide ((c:Int)>=48)&&decide ((c:Int)<=57)))&&((c:Int) != 45))&&((c:Int) != 95))&&((c:Int) != 46)))],[],n+60⟩ (DM 500 ?_) ?_
  ·repeat'(first|(refine C2 (by exact B7) ?_;refine BD ?_)|((refine Kp (λhb=>?_) (λhb=>?_))<;>(try simp only[El,K2]at hb)<;>(try simp only[hb])<;>(refine BD ?_)))
   all_goals exact As
  have hbad:((((!L && !(decide ((c:Int)>=48)&&decide ((c:Int)<=57)))&&((c:Int) != 45))&&((c:Int) != 95))&&((c:Int) != 46)) = !(Bg c):=by
   subst hL;rw[IY];simp only[Bg,Ad,El,Me,Bool.and_eq_false_iff,decide_eq_false_iff_not,bne_iff_ne,ne_eq,Bn];omega
  rw[hbad];refine Cm ?_
  (refine Kp (λhb=>?_) (λhb=>?_))<;>(try simp only[El,K2]at hb)<;>(try simp only[hb])
  ·have hbf:Bg c=false:=by simpa using hb
   refine fR 600 ?_;refine FD ?_;refine An ?_ AB.out;have hb8:Bg (s.get! p).toNat=false:=by
    by_cases hlow:(s.get! p).toNat<128
    ·rw[Qp s p hlow]at hc
     rw[show(s.get! p).toNat=c from hc];exact hbf
    ·unfold Bg;simp;omega
   have:Dp s.data.toList=false:=by
    unfold Dp
    have:s.data.toList.all (λb=>Bg b.toNat)=false:=by
     rw[List.all_eq_false];exact⟨_,Bc (Si s p hlt),by rw[hb8];simp⟩
    rw[this];rfl
   rw[this]
  ·have hbt:Bg c=true:=by simpa using hb
   have hclt:c<128:=by
    unfold Bg at hbt;simp only[Kw,Ad,FR,GO]at hbt;omega
   have hlow:(s.get! p).toNat<128:=by
    apply DV;intro h
    have:=U0 s p h
    omega
   rw[Qp s p hlow]at hc hIt;refine FW ?_;refine⟨(p+1,n+60),⟨hIt,hlt,?_⟩,by dsimp only;omega,As⟩;rw[E8,Si s p hlt,IZ,hall];simp;rw[show(s.get! p).toNat=c from hc];exact hbt
 ·have hpe:p=s.size:=by omega
  refine GS ?_;refine AQ.seq ?_;refine Cm ?_;refine Id ?_;refine O3 ⟨[(2,Al (decide (1<=(s.size:Int))&&decide ((s.size:Int)<=24)))],[],n+60⟩ (DM 700 ?_) ?_
  ·repeat'(first|(refine C2 (by exact B7) ?_;refine BD ?_)|((refine Kp (λhb=>?_) (λhb=>?_))<;>(try simp only[El,K2]at hb)<;>(try simp only[hb])<;>(refine BD ?_)))
   all_goals exact As
  refine FD ?_;refine An ?_ AB.out;have hall':s.data.toList.all (λb=>Bg b.toNat)=true:=by rw[<-hall,hpe,<-hsz,List.take_length]
  unfold Dp;rw[hall',Kz,hsz];have e:(decide (1<=(s.size:Int))&&decide ((s.size:Int)<=24))=(decide (1<=s.size)&&decide (s.size<=24)):=by
   rw[IY];simp only[Ad,FR];omega
  rw[<-e]
theorem UM (s:ByteArray)(c:Int):F5 C0 146 [.prim (.string s),.prim (.int .u8 c)] (.prim (.int .i64 (Lib.countByte s.data.toList c.toNat.toUInt8:Nat))):=.inl λρ O w vs hn h=>by
 have:=SP hn h
 subst this;refine⟨_,?_,.prim _⟩;show(callFunc 146 _).run Tryz.prog w=_;rw[run_callFunc_extern Tryz.func146 (by kernel_rfl) (by kernel_rfl) (by kernel_rfl) (e:=Extern.BytealgCount.count) (by kernel_rfl),Lib.run_countString];rfl
theorem Cp (a b:Int)(fn:Fn)(v:Value):Cd (.agg [i64 a,i64 b,.clo fn [.prim v] []]):=Cd.agg λd hd=>by
 simp only[Ak,List.not_mem_nil,or_false]at hd;rcases hd with rfl|rfl|rfl
 ·exact .prim _
 ·exact .prim _
 ·exact λ_ _ _ _ _ _ _ h=>by
   cases h with
   |clo hf hc h1 h2=>exact .clo hf hc (λi x hx=>by
     match i with
     | 0=>
      have:=h1 0 x hx
      simp at hx;subst hx;exact Cd.prim _ _ _ _ _ _ _ _ this
     |i+1=>simp at hx) (λi x hx=>by simp at hx)
theorem DQ (fn:Fn)(v:Value):Cd (.clo fn [.prim v] []):=λ_ _ _ _ _ _ _ h=>by
 cases h with
 |clo hf hc h1 h2=>exact .clo hf hc (λi x hx=>by
   match i with
   | 0=>
    have:=h1 0 x hx
    simp at hx;subst hx;exact Cd.prim _ _ _ _ _ _ _ _ this
   |i+1=>simp at hx) (λi x hx=>by simp at hx)
def Fg:List D:=[.prim (.string ⟨#[98,105,110]⟩),.prim (.string ⟨#[97,114,114,105,118,101]⟩),.prim (.string ⟨#[115,116,111,114,101]⟩),.prim (.string ⟨#[109,111,118,101]⟩),.prim (.string ⟨#[100,114,121]⟩),.prim (.string ⟨#[115,104,105,112]⟩),.prim (.string ⟨#[98,108,101,110,100]⟩),.prim (.string ⟨#[108,111,97,100]⟩),.prim (.string ⟨#[99,108,111,115,101]⟩),.prim (.string ⟨#[105,115,115,117,101]⟩),.prim (.string ⟨#[99,97,110,99,101,108]⟩)]
def Fh (d:D):List D:=[.agg [i64 2,i64 4,.clo (.func 78) [d] []],.agg [i64 2,i64 1,.clo (.func 79) [d] []],.agg [i64 2,i64 2,.clo (.func 80) [d] []],.agg [i64 2,i64 3,.clo (.func 81) [d] []],.agg [i64 2,i64 4,.clo (.func 81) [d] []],.agg [i64 2,i64 1,.clo (.func 82) [d] []],.agg [i64 2,i64 1,.clo (.func 82) [d] []],.agg [i64 2,i64 2,.clo (.func 83) [d] []],.agg [i64 1,i64 0,.clo (.func 84) [d] []],.agg [i64 2,i64 1,.clo (.func 85) [d] []],.agg [i64 2,i64 1,.clo (.func 86) [d] []]]
theorem OT (a:Option Addr):Af C0 46 [.prim (.pointer a)] (.mp Fg (Fh (.prim (.pointer a)))):=by
 refine BN.intro Aw Tryz.func46 rfl (by kernel_rfl) (by kernel_rfl) (by kernel_rfl) λF=>?_
 refine Ok.seq (Ok.region ?_);refine AO.p Aw rfl rfl AA ?_;refine AO.nil ?_;refine Ok.seq (Ok.region ?_);refine D2.start (m:=3) rfl rfl rfl ?_;refine BF (C:=C0) Aw (.prim (.pointer a)) rfl rfl (.prim _) rfl (by decide) ?_;refine BF (C:=C0) Aw (.clo (.func 78) [.prim (.pointer a)] []) rfl rfl (DQ _ _) rfl (by decide) ?_;refine BF (C:=C0) Aw (.agg [i64 2,i64 4,.clo (.func 78) [.prim (.pointer a)] []]) rfl (by kernel_rfl) (Cp _ _ _ _) rfl (by decide) ?_;refine Dg (C:=C0) (k:=9) (e:=119) (z:=.agg #[.int .i64 0,.int .i64 0,.nilFunc]) Ct (by kernel_rfl) rfl rfl rfl (by kernel_rfl) rfl (λ_ _ _ _ h _ _ _=>Cp _ _ _ _ _ _ _ _ _ _ _ h) ?_;refine BF (C:=C0) Aw (.prim (.pointer a)) rfl rfl (.prim _) rfl (by decide) ?_;refine BF (C:=C0) Aw (.clo (.func 79) [.prim (.pointer a)] []) rfl rfl (DQ _ _) rfl (by decide) ?_;refine BF (C:=C0) Aw (.agg [i64 2,i64 1,.clo (.func 79) [.prim (.pointer a)] []]) rfl (by kernel_rfl) (Cp _ _ _ _) rfl (by decide) ?_;refine Dg (C:=C0) (k:=9) (e:=119) (z:=.agg #[.int .i64 0,.int .i64 0,.nilFunc]) Ct (by kernel_rfl) rfl rfl rfl (by kernel_rfl) rfl (λ_ _ _ _ h _ _ _=>Cp _ _ _ _ _ _ _ _ _ _ _ h) ?_;refine BF (C:=C0) Aw (.prim (.pointer a)) rfl rfl (.prim _) rfl (by decide) ?_;refine BF (C:=C0) Aw (.clo (.func 80) [.prim (.pointer a)] []) rfl rfl (DQ _ _) rfl (by decide) ?_;refine BF (C:=C0) Aw (.agg [i64 2,i64 2,.clo (.func 80) [.prim (.pointer a)] []]) rfl (by kernel_rfl) (Cp _ _ _ _) rfl (by decide) ?_;refine Dg (C:=C0) (k:=9) (e:=119) (z:=.agg #[.int .i64 0,.int .i64 0,.nilFunc]) Ct (by kernel_rfl) rfl rfl rfl (by kernel_rfl) rfl (λ_ _ _ _ h _ _ _=>Cp _ _ _ _ _ _ _ _ _ _ _ h) ?_;refine BF (C:=C0) Aw (.prim (.pointer a)) rfl rfl (.prim _) rfl (by decide) ?_;refine BF (C:=C0) Aw (.clo (.func 81) [.prim (.pointer a)] []) rfl rfl (DQ _ _) rfl (by decide) ?_;refine BF (C:=C0) Aw (.agg [i64 2,i64 3,.clo (.func 81) [.prim (.pointer a)] []]) rfl (by kernel_rfl) (Cp _ _ _ _) rfl (by decide) ?_;refine Dg (C:=C0) (k:=9) (e:=119) (z:=.agg #[.int .i64 0,.int .i64 0,.nilFunc]) Ct (by kernel_rfl) rfl rfl rfl (by kernel_rfl) rfl (λ_ _ _ _ h _ _ _=>Cp _ _ _ _ _ _ _ _ _ _ _ h) ?_;refine BF (C:=C0) Aw (.prim (.pointer a)) rfl rfl (.prim _) rfl (by decide) ?_;refine BF (C:=C0) Aw (.clo (.func 81) [.prim (.pointer a)] []) rfl rfl (DQ _ _) rfl (by decide) ?_;refine BF (C:=C0) Aw (.agg [i64 2,i64 4,.clo (.func 81) [.prim (.pointer a)] []]) rfl (by kernel_rfl) (Cp _ _ _ _) rfl (by decide) ?_;refine Dg (C:=C0) (k:=9) (e:=119) (z:=.agg #[.int .i64 0,.int .i64 0,.nilFunc]) Ct (by kernel_rfl) rfl rfl rfl (by kernel_rfl) rfl (λ_ _ _ _ h _ _ _=>Cp _ _ _ _ _ _ _ _ _ _ _ h) ?_;refine BF (C:=C0) Aw (.prim (.pointer a)) rfl rfl (.prim _) rfl (by decide) ?_;refine BF (C:=C0) Aw (.clo (.func 82) [.prim (.pointer a)] []) rfl rfl (DQ _ _) rfl (by decide) ?_;refine BF (C:=C0) Aw (.agg [i64 2,i64 1,.clo (.func 82) [.prim (.pointer a)] []]) rfl (by kernel_rfl) (Cp _ _ _ _) rfl (by decide) ?_;refine Dg (C:=C0) (k:=9) (e:=119) (z:=.agg #[.int .i64 0,.int .i64 0,.nilFunc]) Ct (by kernel_rfl) rfl rfl rfl (by kernel_rfl) rfl (λ_ _ _ _ h _ _ _=>Cp _ _ _ _ _ _ _ _ _ _ _ h) ?_;refine BF (C:=C0) Aw (.prim (.pointer a)) rfl rfl (.prim _) rfl (by decide) ?_;refine BF (C:=C0) Aw (.clo (.func 82) [.prim (.pointer a)] []) rfl rfl (DQ _ _) rfl (by decide) ?_;refine BF (C:=C0) Aw (.agg [i64 2,i64 1,.clo (.func 82) [.prim (.pointer a)] []]) rfl (by kernel_rfl) (Cp _ _ _ _) rfl (by decide) ?_;refine Dg (C:=C0) (k:=9) (e:=119) (z:=.agg #[.int .i64 0,.int .i64 0,.nilFunc]) Ct (by kernel_rfl) rfl rfl rfl (by kernel_rfl) rfl (λ_ _ _ _ h _ _ _=>Cp _ _ _ _ _ _ _ _ _ _ _ h) ?_;refine BF (C:=C0) Aw (.prim (.pointer a)) rfl rfl (.prim _) rfl (by decide) ?_;refine BF (C:=C0) Aw (.clo (.func 83) [.prim (.pointer a)] []) rfl rfl (DQ _ _) rfl (by decide) ?_;refine BF (C:=C0) Aw (.agg [i64 2,i64 2,.clo (.func 83) [.prim (.pointer a)] []]) rfl (by kernel_rfl) (Cp _ _ _ _) rfl (by decide) ?_;refine Dg (C:=C0) (k:=9) (e:=119) (z:=.agg #[.int .i64 0,.int .i64 0,.nilFunc]) Ct (by kernel_rfl) rfl rfl rfl (by kernel_rfl) rfl (λ_ _ _ _ h _ _ _=>Cp _ _ _ _ _ _ _ _ _ _ _ h) ?_;refine BF (C:=C0) Aw (.prim (.pointer a)) rfl rfl (.prim _) rfl (by decide) ?_;refine BF (C:=C0) Aw (.clo (.func 84) [.prim (.pointer a)] []) rfl rfl (DQ _ _) rfl (by decide) ?_;refine BF (C:=C0) Aw (.agg [i64 1,i64 0,.clo (.func 84) [.prim (.pointer a)] []]) rfl (by kernel_rfl) (Cp _ _ _ _) rfl (by decide) ?_;refine Dg (C:=C0) (k:=9) (e:=119) (z:=.agg #[.int .i64 0,.int .i64 0,.nilFunc]) Ct (by kernel_rfl) rfl rfl rfl (by kernel_rfl) rfl (λ_ _ _ _ h _ _ _=>Cp _ _ _ _ _ _ _ _ _ _ _ h) ?_;refine BF (C:=C0) Aw (.prim (.pointer a)) rfl rfl (.prim _) rfl (by decide) ?_;refine BF (C:=C0) Aw (.clo (.func 85) [.prim (.pointer a)] []) rfl rfl (DQ _ _) rfl (by decide) ?_;refine BF (C:=C0) Aw (.agg [i64 2,i64 1,.clo (.func 85) [.prim (.pointer a)] []]) rfl (by kernel_rfl) (Cp _ _ _ _) rfl (by decide) ?_;refine Dg (C:=C0) (k:=9) (e:=119) (z:=.agg #[.int .i64 0,.int .i64 0,.nilFunc]) Ct (by kernel_rfl) rfl rfl rfl (by kernel_rfl) rfl (λ_ _ _ _ h _ _ _=>Cp _ _ _ _ _ _ _ _ _ _ _ h) ?_;refine BF (C:=C0) Aw (.prim (.pointer a)) rfl rfl (.prim _) rfl (by decide) ?_;refine BF (C:=C0) Aw (.clo (.func 86) [.prim (.pointer a)] []) rfl rfl (DQ _ _) rfl (by decide) ?_;refine BF (C:=C0) Aw (.agg [i64 2,i64 1,.clo (.func 86) [.prim (.pointer a)] []]) rfl (by kernel_rfl) (Cp _ _ _ _) rfl (by decide) ?_;refine Dg (C:=C0) (k:=9) (e:=119) (z:=.agg #[.int .i64 0,.int .i64 0,.nilFunc]) Ct (by kernel_rfl) rfl rfl rfl (by kernel_rfl) rfl (λ_ _ _ _ h _ _ _=>Cp _ _ _ _ _ _ _ _ _ _ _ h) ?_;refine D2.done ?_;refine AO.p Aw rfl rfl AA ?_;refine AO.p Aw rfl rfl AA ?_;refine AO.nil ?_;refine Ok.ret ?_;exact⟨.inr rfl,_,_,rfl,⟨trivial,trivial⟩,_,.refl _,Cy (n:=20) (by kernel_rfl),rfl⟩
def MV:List D:=[.prim (.string ⟨#[115,116,111,99,107]⟩),.prim (.string ⟨#[116,114,97,99,101]⟩),.prim (.string ⟨#[114,101,97,99,104]⟩),.prim (.string ⟨#[114,101,99,97,108,108]⟩),.prim (.string ⟨#[106,111,117,114,110,101,121]⟩),.prim (.string ⟨#[98,97,108,97,110,99,101]⟩),.prim (.string ⟨#[114,101,112,111,114,116]⟩)]
def MW (d:D):List D:=[.agg [i64 (1),.clo (.func 87) [d] []],.agg [i64 (1),.clo (.func 88) [d] []],.agg [i64 (1),.clo (.func 89) [d] []],.agg [i64 (-1),.clo (.func 90) [d] []],.agg [i64 (1),.clo (.func 91) [d] []],.agg [i64 (0),.clo (.func 92) [d] []],.agg [i64 (0),.clo (.func 93) [d] []]]
theorem Ec (a:Int)(fn:Fn)(v:Value):Cd (.agg [i64 a,.clo fn [.prim v] []]):=Cd.agg λd hd=>by
 simp only[Ak,List.not_mem_nil,or_false]at hd;rcases hd with rfl|rfl
 ·exact .prim _
 ·exact DQ _ _
theorem c8 (a:Option Addr):Af C0 48 [.prim (.pointer a)] (.mp MV (MW (.prim (.pointer a)))):=by
 refine BN.intro Aw Tryz.func48 rfl (by kernel_rfl) (by kernel_rfl) (by kernel_rfl) λF=>?_
 refine Ok.seq (Ok.region ?_);refine AO.p Aw rfl rfl AA ?_;refine AO.nil ?_;refine Ok.seq (Ok.region ?_);refine D2.start (m:=3) rfl rfl rfl ?_;refine BF (C:=C0) Aw (.prim (.pointer a)) rfl rfl (.prim _) rfl (by decide) ?_;refine BF (C:=C0) Aw (.clo (.func 87) [.prim (.pointer a)] []) rfl rfl (DQ _ _) rfl (by decide) ?_;refine BF (C:=C0) Aw (.agg [i64 (1),.clo (.func 87) [.prim (.pointer a)] []]) rfl (by kernel_rfl) (Ec _ _ _) rfl (by decide) ?_;refine Dg (C:=C0) (k:=9) (e:=125) (z:=.agg #[.int .i64 0,.nilFunc]) Ct (by kernel_rfl) rfl rfl rfl (by kernel_rfl) rfl (λ_ _ _ _ h _ _ _=>Ec _ _ _ _ _ _ _ _ _ _ h) ?_;refine BF (C:=C0) Aw (.prim (.pointer a)) rfl rfl (.prim _) rfl (by decide) ?_;refine BF (C:=C0) Aw (.clo (.func 88) [.prim (.pointer a)] []) rfl rfl (DQ _ _) rfl (by decide) ?_;refine BF (C:=C0) Aw (.agg [i64 (1),.clo (.func 88) [.prim (.pointer a)] []]) rfl (by kernel_rfl) (Ec _ _ _) rfl (by decide) ?_;refine Dg (C:=C0) (k:=9) (e:=125) (z:=.agg #[.int .i64 0,.nilFunc]) Ct (by kernel_rfl) rfl rfl rfl (by kernel_rfl) rfl (λ_ _ _ _ h _ _ _=>Ec _ _ _ _ _ _ _ _ _ _ h) ?_;refine BF (C:=C0) Aw (.prim (.pointer a)) rfl rfl (.prim _) rfl (by decide) ?_;refine BF (C:=C0) Aw (.clo (.func 89) [.prim (.pointer a)] []) rfl rfl (DQ _ _) rfl (by decide) ?_;refine BF (C:=C0) Aw (.agg [i64 (1),.clo (.func 89) [.prim (.pointer a)] []]) rfl (by kernel_rfl) (Ec _ _ _) rfl (by decide) ?_;refine Dg (C:=C0) (k:=9) (e:=125) (z:=.agg #[.int .i64 0,.nilFunc]) Ct (by kernel_rfl) rfl rfl rfl (by kernel_rfl) rfl (λ_ _ _ _ h _ _ _=>Ec _ _ _ _ _ _ _ _ _ _ h) ?_;refine BF (C:=C0) Aw (.prim (.pointer a)) rfl rfl (.prim _) rfl (by decide) ?_;refine BF (C:=C0) Aw (.clo (.func 90) [.prim (.pointer a)] []) rfl rfl (DQ _ _) rfl (by decide) ?_;refine BF (C:=C0) Aw (.agg [i64 (-1),.clo (.func 90) [.prim (.pointer a)] []]) rfl (by kernel_rfl) (Ec _ _ _) rfl (by decide) ?_;refine Dg (C:=C0) (k:=9) (e:=125) (z:=.agg #[.int .i64 0,.nilFunc]) Ct (by kernel_rfl) rfl rfl rfl (by kernel_rfl) rfl (λ_ _ _ _ h _ _ _=>Ec _ _ _ _ _ _ _ _ _ _ h) ?_;refine BF (C:=C0) Aw (.prim (.pointer a)) rfl rfl (.prim _) rfl (by decide) ?_;refine BF (C:=C0) Aw (.clo (.func 91) [.prim (.pointer a)] []) rfl rfl (DQ _ _) rfl (by decide) ?_;refine BF (C:=C0) Aw (.agg [i64 (1),.clo (.func 91) [.prim (.pointer a)] []]) rfl (by kernel_rfl) (Ec _ _ _) rfl (by decide) ?_;refine Dg (C:=C0) (k:=9) (e:=125) (z:=.agg #[.int .i64 0,.nilFunc]) Ct (by kernel_rfl) rfl rfl rfl (by kernel_rfl) rfl (λ_ _ _ _ h _ _ _=>Ec _ _ _ _ _ _ _ _ _ _ h) ?_;refine BF (C:=C0) Aw (.prim (.pointer a)) rfl rfl (.prim _) rfl (by decide) ?_;refine BF (C:=C0) Aw (.clo (.func 92) [.prim (.pointer a)] []) rfl rfl (DQ _ _) rfl (by decide) ?_;refine BF (C:=C0) Aw (.agg [i64 (0),.clo (.func 92) [.prim (.pointer a)] []]) rfl (by kernel_rfl) (Ec _ _ _) rfl (by decide) ?_;refine Dg (C:=C0) (k:=9) (e:=125) (z:=.agg #[.int .i64 0,.nilFunc]) Ct (by kernel_rfl) rfl rfl rfl (by kernel_rfl) rfl (λ_ _ _ _ h _ _ _=>Ec _ _ _ _ _ _ _ _ _ _ h) ?_;refine BF (C:=C0) Aw (.prim (.pointer a)) rfl rfl (.prim _) rfl (by decide) ?_;refine BF (C:=C0) Aw (.clo (.func 93) [.prim (.pointer a)] []) rfl rfl (DQ _ _) rfl (by decide) ?_;refine BF (C:=C0) Aw (.agg [i64 (0),.clo (.func 93) [.prim (.pointer a)] []]) rfl (by kernel_rfl) (Ec _ _ _) rfl (by decide) ?_;refine Dg (C:=C0) (k:=9) (e:=125) (z:=.agg #[.int .i64 0,.nilFunc]) Ct (by kernel_rfl) rfl rfl rfl (by kernel_rfl) rfl (λ_ _ _ _ h _ _ _=>Ec _ _ _ _ _ _ _ _ _ _ h) ?_;refine D2.done ?_;refine AO.p Aw rfl rfl AA ?_;refine AO.p Aw rfl rfl AA ?_;refine AO.nil ?_;refine Ok.ret ?_;exact⟨.inr rfl,_,_,rfl,⟨trivial,trivial⟩,_,.refl _,Cy (n:=20) (by kernel_rfl),rfl⟩
theorem VR (d:D)(h:JU d=true):KJ C0 48 [d] (.mp MV (MW d)):=
 ⟨d,.mp MV (MW .any),4,rfl,rfl,RG h,λa=>⟨c8 a,⟨_,_,Tryz.func48,rfl,by kernel_rfl⟩⟩⟩
theorem Ur (d:D)(h:JU d=true):KJ C0 46 [d] (.mp Fg (Fh d)):=
 ⟨d,.mp Fg (Fh .any),4,rfl,rfl,RG h,λa=>⟨OT a,⟨_,_,Tryz.func46,rfl,by kernel_rfl⟩⟩⟩
def MZ (f:Nat)(ds:List D):Option D:=match Nat.beq f 46 with
 |true=>match ds with
  | [d]=>match JU d with
   |true=>some (.mp Fg (Fh d))
   |false=>none
  |_=>none
 |false=>match Nat.beq f 146 with
  |true=>match ds with
   | [.prim (.string s),.prim (.int .u8 c)]=>some (.prim (.int .i64 (Lib.countByte s.data.toList c.toNat.toUInt8:Nat)))
   |_=>none
  |false=>match Nat.beq f 48 with
   |true=>match ds with
    | [d]=>match JU d with
     |true=>some (.mp MV (MW d))
     |false=>none
    |_=>none
   |false=>Kr f ds
theorem RC (f:Nat)(ds:List D)(d:D)(h:MZ f ds=some d):F5 C0 f ds d:=by
 unfold MZ at h;split at h
 ·rename_i hf
  obtain rfl:=Ab hf;split at h<;>try(cases h;done)
  split at h<;>try(cases h;done)
  rename_i hp;cases h;exact .inr (Ur _ hp)
 ·split at h
  ·rename_i hf
   obtain rfl:=Ab hf;split at h<;>try(cases h;done)
   cases h;exact UM _ _
  split at h
  ·rename_i hf
   obtain rfl:=Ab hf;split at h<;>try(cases h;done)
   split at h<;>try(cases h;done)
   rename_i hp;cases h;exact .inr (VR _ hp)
  ·exact OE _ _ _ h
def Oe:Value->Value->Bool
 | .int .i64 a,.int .i64 b=>a==b
 | .string a,.string b=>a.data.toList==b.data.toList
 | .bool a,.bool b=>a==b
 | .slice none 0 0,.slice none 0 0=>true
 | .pointer none,.pointer none=>true
 | .nilFunc,.nilFunc=>true
 |_,_=>false
theorem U5 {a b:Value}(h:Oe a b=true):a=b:=by
 unfold Oe at h;split at h
 ·rw[eq_of_beq h]
 ·rename_i a b
  have:=eq_of_beq h
  congr 1
  exact ByteArray.ext (Array.toList_inj.1 this)
 ·rw[eq_of_beq h]
 ·rfl
 ·rfl
 ·rfl
 ·cases h
def GP (f:D->D->Bool):List D->List D->Bool
 | [],[]=>true
 |a::l,b::m=>f a b&&GP f l m
 |_,_=>false
theorem I2 {f:D->D->Bool}(hf:∀a b,f a b=true->a=b):∀ {l m:List D},GP f l m=true->l=m
 | [],[],_=>rfl
 |a::l,b::m,h=>by
  simp only[GP,Ad]at h;rw[hf a b h.1,I2 hf h.2]
 | [],_::_,h=>by simp[GP]at h
 |_::_,[],h=>by simp[GP]at h
def Gy:Nat->D->D->Bool
 | 0,_,_=>false
 |n+1,a,b=>match a,b with
  | .prim a,.prim b=>Oe a b
  | .agg l,.agg m=>GP (Gy n) l m
  | .sl x y l,.sl x' y' m=>(x==x')&&Nat.beq y y'&&GP (Gy n) l m
  | .pptr a,.pptr b=>Gy n a b
  | .mp a b,.mp a' b'=>GP (Gy n) a a'&&GP (Gy n) b b'
  |_,_=>false
theorem I1:∀(n:Nat) (a b:D),Gy n a b=true->a=b
 | 0,_,_,h=>by simp[Gy]at h
 |n+1,a,b,h=>by
  unfold Gy at h;split at h
  ·rw[U5 h]
  ·rw[I2 (I1 n) h]
  ·simp only[Ad]at h
   rw[eq_of_beq h.1.1,Ab h.1.2,I2 (I1 n) h.2]
  ·rw[I1 n _ _ h]
  ·simp only[Ad]at h
   rw[I2 (I1 n) h.1,I2 (I1 n) h.2]
  ·cases h
def Ke:List (Nat×List D×D)->Nat->List D->Option D
 | [],_,_=>none
 |(g,a,d)::r,f,ds=>match Nat.beq f g&&GP (Gy 30) ds a with
  |true=>some d
  |false=>Ke r f ds
abbrev IN (t:List (Nat×List D×D)):Prop:=∀e∈t,Af C0 e.1 e.2.1 e.2.2/\AN e.2.1
theorem QS:∀(t:List (Nat×List D×D)),IN t->∀(f:Nat) (ds:List D) (d:D),Ke t f ds=some d->Af C0 f ds d/\AN ds
 | [],_,f,ds,d,h=>by simp[Ke]at h
 |(g,a,d0)::r,ht,f,ds,d,h=>by
  unfold Ke at h;split at h
  ·rename_i hb
   simp only[Ad]at hb;obtain rfl:=Ab hb.1;obtain rfl:=I2 (I1 _) hb.2;cases h;exact ht _ Cv
  ·exact QS r (λe he=>ht e (DY _ he)) f ds d h
theorem DA:IN []:=λ_ h=>by cases h
theorem DP {f:Nat}{ds:List D}{d:D}{t:List (Nat×List D×D)}(h:Af C0 f ds d)(hp:AN ds)(ht:IN t):IN ((f,ds,d)::t):=λe he=>by
 rcases Ak.1 he with rfl|he
 ·exact⟨h,hp⟩
 ·exact ht e he
theorem DR {ds:List D}(h:De (DT 30) ds=true):AN ds:=⟨λx hx=>Cy (Dd h x hx)⟩
def Ov (t:List (Nat×List D×D))(f:Nat)(ds:List D):Option D:=match Nat.beq f 34 with
 |true=>match ds with
  | [.prim (.string s)]=>some (Al (Dp s.data.toList))
  |_=>none
 |false=>match Nat.beq f 53 with
  |true=>match ds with
   | [.prim (.int .i64 n)]=>match decide (-9223372036854775808<=n)&&decide (n<=9223372036854775807)with
    |true=>some (str ⟨(Lib.itoa n).toArray⟩)
    |false=>none
   |_=>none
  |false=>match Nat.beq f 52 with
   |true=>match ds with
    | [.prim (.string s)]=>match Nat.ble s.size 18 with
     |true=>match Lib.atoi s.data.toList with
      |some n=>some (.tup [i64 n,.prim .nilIface])
      |none=>none
     |false=>none
    |_=>none
   |false=>Ke t f ds
theorem Vs {t:List (Nat×List D×D)}(ht:IN t)(f:Nat)(ds:List D)(d:D)(h:Ov t f ds=some d):Af C0 f ds d/\AN ds:=by
 unfold Ov at h;split at h
 ·rename_i hf
  obtain rfl:=Ab hf;split at h<;>try(cases h;done)
  cases h;exact⟨QA _,A7⟩
 split at h
 ·rename_i hf
  obtain rfl:=Ab hf;split at h<;>try(cases h;done)
  split at h<;>try(cases h;done)
  rename_i hb;simp only[Ad,FR]at hb;cases h;exact⟨RB _ hb.1 hb.2,A7⟩
 split at h
 ·rename_i hf
  obtain rfl:=Ab hf;split at h<;>try(cases h;done)
  split at h<;>try(cases h;done)
  rename_i hb;split at h<;>try(cases h;done)
  rename_i ha;cases h;exact⟨Qy _ _ (A0 hb) ha,A7⟩
 ·exact QS t ht _ _ _ h
def d7:AI:=⟨.arr 256 1 false,256,256,true,.agg (Array.replicate 256 (.bool false))⟩
noncomputable def M6 (t:Nat):Option AI:=match Nat.beq t 164 with
 |true=>some d7
 |false=>Jm.get t
theorem Sw:Av C0.P M6:=λt i h=>by
 unfold M6 at h;split at h
 ·rename_i ht
  obtain rfl:=Ab ht;cases h
  kernel_rfl
 ·exact Aw t i h
noncomputable def fA (l:List Nat)(f:Nat):Bool:=MY f l
def DK:List Nat:=[76,261,4000000+48,4000000+49,4000000+50,4000000+51,7000000+265,7000000+300,7000000+132,7000000+330]
def OP:List Nat:=206::266::300::205::DK
def ak:List Nat:=318::(6000000+318)::326::330::301::DK
noncomputable def XT (l:List Nat)(t:List (Nat×List D×D)):EV:=⟨M6,Ij.get,Jg.get,fA l,Ov t,λ_ _=>none,MZ⟩
theorem DE (l:List Nat){t:List (Nat×List D×D)}(ht:IN t):B9 C0 (XT l t):=⟨Sw,Ct,Gz,Vs ht,by kernel_rfl,λ_ _ _ h=>by simp[XT]at h,RC⟩
set_option maxHeartbeats 2000000
def GG (K g sz:Nat):List D->D
 | []=>BC
 |_::l=>.osl K g sz 0 (l.length+1)
def GH (K g T sz:Nat):List D->Hp
 | []=>[]
 |x::l=>[⟨K,g,T,sz,x::l⟩]
theorem F7 (K g sz:Nat):GG K g sz []=BC:=rfl
theorem FH (K g sz:Nat)(x:D)(l:List D):GG K g sz (x::l)=.osl K g sz 0 (l.length+1):=rfl
theorem F8 (K g T sz:Nat):GH K g T sz []=[]:=rfl
theorem FJ (K g T sz:Nat)(x:D)(l:List D):GH K g T sz (x::l)=[⟨K,g,T,sz,x::l⟩]:=rfl
theorem LM (K g sz:Nat)(x y:D)(l:List D):GG K g sz (x::l++[y])=.osl K g sz 0 (l.length+1+1):=by simp[GG]
theorem wS {n:Nat}(h:n<9223372036854775807):IntKind.i64.wrap ((n:Int)+1)=((n+1:Nat):Int):=wI
theorem H6 (K g T sz:Nat)(l:List D)(H:Hp):Fz (⟨K,g,T,sz,l⟩::H) [] (.osl K g sz 0 l.length) (.sl false sz l):=by
 refine .osl (e:=⟨K,g,T,sz,l⟩) (by simp[Hp.get]) rfl rfl rfl (by simp) rfl (λj d d' h1 h2=>?_) λj d d' q c c' h1 h2 h3 h4=>?_
 ·rw[Bx]at h1;rw[h1]at h2;cases h2;rfl
 ·rw[Bx]at h1;rw[h1]at h2;cases h2;rw[h3]at h4;cases h4;exact Fz.refl _
theorem Bp {H Hf:Hp}{a a' b b':D}(h1:Fz H Hf a a')(h2:Fz H Hf b b'):Fz H Hf (.tup [a,b]) (.tup [a',b']):=.tup rfl λi d d' hd hd'=>by
 match i with
 | 0=>simp at hd hd';subst hd;subst hd';exact h1
 | 1=>simp at hd hd';subst hd;subst hd';exact h2
 |n+2=>simp at hd
section
variable {C:AX} {X:EV} {B F:AG} {rd:Option Nat} {s:St} {Q:Exit->AG->St->Prop}
theorem O4 {a b:Code}{α:Type}(S:α->St)(J:α->Prop)(h1:AQ C B rd F a s (λe F1 s1=>Gl (F1=F/\∃x,J x/\Wk s1 (S x)) (λe=>Q e F1 s1) e))(h2:∀x,J x->AQ C B rd F b (S x) Q):AQ C B rd F (.seq a b) s Q:=
 AQ.seq (h1.mono λe F1 s1 h=>by
  cases e with
  |normal=>
   obtain⟨h0,x,hx,h3⟩:=(show F1=F/\∃x,J x/\Wk s1 (S x)from h)
   rw[h0];exact AQ.weak (S x) h3 (h2 x hx)
  |ret=>exact h
  |exit j=>exact h
  |goto l=>exact h
  |panic c=>exact h
  |outgrown=>exact h)
end
theorem Np {tt:Nat->Option AI}{xt:Nat->Option XI}{g:Operand->D}{t:Nat}{x ix:Operand}{ok:Bool}{K V:List D}{a b:Nat}{z:Value}{s:ByteArray}{d:D}(h1:xt t=some (.map a b z))(h2:g x=.mp K V)(h3:g ix=.prim (.string s))
  (h4:D9 s K V=some (some d)):DZ tt xt g (.lookup t x ix ok)=some (DL ok d true,True):=by simp only[DZ,h1,h2,h3,h4]
theorem Pt {tt:Nat->Option AI}{xt:Nat->Option XI}{g:Operand->D}{t:Nat}{x ix:Operand}{ok:Bool}{K V:List D}{a b:Nat}{z:Value}{s:ByteArray}(h1:xt t=some (.map a b z))(h2:g x=.mp K V)(h3:g ix=.prim (.string s))
  (h4:D9 s K V=some none):DZ tt xt g (.lookup t x ix ok)=some (DL ok (ofV z) false,True):=by simp only[DZ,h1,h2,h3,h4]
theorem KU {X:EV}{g:Operand->D}{op:Op}{acc:Prop}{k:Prop->D->Option AH->Prop}{d:D}{p:Prop}(h:DZ X.tt X.xt g op=some (d,p))(hk:k (p/\acc) d none):FX X g op acc k:=by
 unfold FX;rw[h];exact hk
abbrev sb (l:List UInt8):ByteArray:=⟨l.toArray⟩
theorem EI (l:List UInt8):(sb l).size=l.length:=by simp[ByteArray.size]
theorem H9 (l:List UInt8)(i j:Nat):(sb l).extract i j=sb ((l.take j).drop i):=by
 apply ByteArray.ext;rw[ByteArray.data_extract];simp[List.drop_take]
theorem Q7 (l:List UInt8):(sb l).toList=l:=by
 rw[ByteArray.toList_eq]
theorem CW (l m:List UInt8):BH (sb l) (sb m)=decide (l=m):=by
 unfold BH;rw[Q7,Q7,IY,GO,decide_eq_true_iff]
def BR (c:UInt8):Bool:=Nat.ble 48 c.toNat&&Nat.ble c.toNat 57
def E3:D:=.agg ((List.range 256).map λi=>Al (Nat.ble 48 i&&Nat.ble i 57))
abbrev M5:List UInt8:=[48,49,50,51,52,53,54,55,56,57]
noncomputable def X4:EV:=⟨M6,Ij.get,Jg.get,λ_=>false,λ_ _=>none,λ_ _=>none,Kr⟩
theorem Oj:B9 C0 X4:=⟨Sw,Ct,Gz,λ_ _ _ h=>by simp[X4]at h,by kernel_rfl,λ_ _ _ h=>by simp[X4]at h,OE⟩
theorem w4:CZ C0 X4:=Oj.w
theorem UE:Af C0 98 [str (sb M5)] (.tup [E3,Al true]):=FV Oj 1000 40
def Ow (o:Option D)(b:Bool):Bool:=match o with
 |some (.prim (.bool c))=>c==b
 |_=>false
theorem Uh {o:Option D}{b:Bool}(h:Ow o b=true):o=some (Al b):=by
 unfold Ow at h;split at h
 ·rw[GO]at h;subst h;rfl
 ·cases h
theorem TZ:((List.range 256).all λc=>Ow ((En X4 1000 40).1 147 [.pptr E3,.prim (.int .u8 (c:Nat))]) (Nat.ble 48 c&&Nat.ble c 57))=true:=by kernel_rfl
theorem PN (c:UInt8):Af C0 147 [.pptr E3,.prim (.int .u8 (c.toNat:Nat))] (Al (BR c)):=by
 refine TB Oj 1000 40 ?_;have h:=CK.1 TZ c.toNat (List.mem_range.2 c.toNat_lt);exact Uh h
instance:Ac E3:=⟨λc hc=>by
 change c∈(List.range 256).map (λi=>Al (Nat.ble 48 i&&Nat.ble i 57))at hc;obtain⟨i,_,rfl⟩:=Bk.1 hc;exact .prim _⟩
def EA (l:List UInt8):List UInt8:=(l.reverse.dropWhile BR).reverse
theorem UZ (m:List UInt8)(c:UInt8):EA (m++[c])=if BR c then EA m else m++[c]:=by
 unfold EA;rw[List.reverse_append,List.reverse_singleton,List.singleton_append,Ja];split
 ·rfl
 ·rw[List.reverse_cons,List.reverse_reverse]
theorem Vf (l:List UInt8):((EA l).dropWhile BR=[])↔l.all BR=true:=by
 constructor
 ·intro h
  have h1:∀m:List UInt8,m.dropWhile BR=[]->m.all BR=true:=λm=>by
   induction m with
   |nil=>intro _;rfl
   |cons c m ih=>
    intro hm;rw[Ja]at hm;split at hm
    ·rename_i hc
     rw[DF,hc,ih hm];rfl
    ·cases hm
  have h2:(l.reverse.dropWhile BR).all BR=true:=by
   have:=h1 _ h
   unfold EA at this
   rwa [List.all_reverse]at this
  have h3:∀m:List UInt8,(m.dropWhile BR).all BR=true->m.all BR=true:=λm=>by
   induction m with
   |nil=>intro _;rfl
   |cons c m ih=>
    intro hm;rw[Ja]at hm;split at hm
    ·rename_i hc
     rw[DF,hc,ih hm];rfl
    ·exact hm
  have:=h3 _ h2
  rwa [List.all_reverse]at this
 ·intro h
  have h1:∀m:List UInt8,m.all BR=true->m.dropWhile BR=[]:=λm=>by
   induction m with
   |nil=>intro _;rfl
   |cons c m ih=>
    intro hm;rw[DF,Ad]at hm;rw[Ja,AL hm.1];exact ih hm.2
  have hx:=h1 l.reverse (by rw[List.all_reverse];exact h);unfold EA;rw[hx];rfl
theorem Tn (l:List UInt8)(hl:l.length<=1000000000):Af C0 99 [str (sb l),.pptr E3] (str (sb (l.dropWhile BR))):=by
 refine BN.walk w1 SC rfl λF=>?_
 have hps:Ac E3:=A7;have hcc:=PN;generalize E3=sd at*;refine sR 0 ?_;refine AQ.seq ?_;refine AQ.block ?_;refine AQ.loop (α:=List UInt8×Nat) (λp=>⟨[(0,str (sb p.1)),(1,.pptr sd)],[],p.2⟩) (λp=>p.1.length) (λp=>p.1.dropWhile BR=l.dropWhile BR/\p.1.length<=l.length) (l,_) ⟨rfl,Ag _⟩ As ?_;rintro⟨m,n⟩ F ⟨h1,h2⟩;dsimp only at h1 h2⊢;refine AQ.seq ?_;refine AQ.seq ?_;cases m with
 |nil=>
  have e1:decide (((sb []).size:Int)>0)=false:=rfl;refine DM 100 ?_;refine D0 e1 ?_;refine Cm ?_;refine Id ?_;refine sR 400 ?_;refine FD ?_;exact An (by rw[<-h1];rfl) AB.out
 |cons c m=>
  have hsz:=EI (c::m);have e1:decide (((sb (c::m)).size:Int)>0)=true:=BZ (by rw[hsz,CY];omega);have hx:(((sb (c::m)).data.toList.getD ((0:Int)).toNat 0).toNat:Int)=(c.toNat:Int):=rfl;have b1:(0:Int)<((sb (c::m)).size:Int):=by rw[hsz,CY];omega
  have b2:(1:Int)<=((sb (c::m)).size:Int):=by omega
  have e3:(sb (c::m)).extract ((1:Int)).toNat (sb (c::m)).size=sb m:=by
   rw[H9,hsz,E9 (Ag _)];rfl
  have cc:=hcc c;refine DM 100 ?_;refine D0 e1 ?_;refine Cm ?_;refine FW ?_;refine AQ.block ?_;refine AQ.seq ?_;refine sZ 200 ?_;refine D0 hx ?_;refine cI cc ?_;rcases hb:BR c with _|_
  ·refine Cm ?_
   refine Id ?_;refine sR 400 ?_;refine FD ?_;refine An ?_ AB.out;rw[<-h1,Ja,AM (by rw[hb];simp)]
  ·refine Cm ?_
   refine FW ?_;refine DM 300 ?_;refine D0 e3 ?_;refine⟨(m,_),⟨?_,?_⟩,?_,As⟩
   ·rw[<-h1,Ja,AL hb]
   ·rw[CY]at h2;dsimp only;omega
   ·show m.length<m.length+1;omega
theorem Te (l:List UInt8)(hl:l.length<=1000000000):Af C0 100 [str (sb l),.pptr E3] (str (sb (EA l))):=by
 refine BN.walk w1 RN rfl λF=>?_
 have hps:Ac E3:=A7;have hcc:=PN;generalize E3=sd at*;refine sR 0 ?_;refine AQ.seq ?_;refine AQ.block ?_;refine AQ.loop (α:=List UInt8×Nat) (λp=>⟨[(0,str (sb p.1)),(1,.pptr sd)],[],p.2⟩) (λp=>p.1.length) (λp=>EA p.1=EA l/\p.1.length<=l.length) (l,_) ⟨rfl,Ag _⟩ As ?_;rintro⟨m,n⟩ F ⟨h1,h2⟩;dsimp only at h1 h2⊢;refine AQ.seq ?_;refine AQ.seq ?_;rcases List.eq_nil_or_concat m with rfl|⟨m,c,rfl⟩
 ·have e1:decide (((sb []).size:Int)>0)=false:=rfl
  refine DM 100 ?_;refine D0 e1 ?_;refine Cm ?_;refine Id ?_;refine sR 400 ?_;refine FD ?_;exact An (by rw[<-h1];rfl) AB.out
 ·rw[List.concat_eq_append]at h1 h2⊢
  have hsz:=EI (m++[c]);rw[Dk,Gs]at hsz h2;have e1:decide (((sb (m++[c])).size:Int)>0)=true:=BZ (by rw[hsz];omega);have wk1:IntKind.i64.wrap (((sb (m++[c])).size:Int)-1)=(m.length:Int):=by rw[hsz,wI];omega
  have hx:(((sb (m++[c])).data.toList.getD (((m.length:Nat):Int)).toNat 0).toNat:Int)=(c.toNat:Int):=by
   show(((m++[c]).getD m.length 0).toNat:Int)=_;simp
  have b1:((m.length:Nat):Int)<((sb (m++[c])).size:Int):=by rw[hsz];omega
  have e3:(sb (m++[c])).extract 0 (((m.length:Nat):Int)).toNat=sb m:=by
   rw[H9];simp
  have cc:=hcc c;have ht:=UZ m c;refine DM 100 ?_;refine D0 e1 ?_;refine Cm ?_;refine FW ?_;refine AQ.block ?_;refine AQ.seq ?_;refine sZ 200 ?_;refine D0 (Be wk1 hx) ?_;refine cI cc ?_;rcases hb:BR c with _|_
  ·rw[AM (by rw[hb];simp)]at ht
   refine Cm ?_;refine Id ?_;refine sR 400 ?_;refine FD ?_;exact An (by rw[<-h1,ht]) AB.out
  ·rw[AL hb]at ht
   refine Cm ?_;refine FW ?_;refine DM 300 ?_;refine D0 (Be wk1 e3) ?_;refine⟨(m,_),⟨by rw[<-h1,ht],by dsimp only;omega⟩,?_,As⟩;dsimp only;rw[Dk,Gs];omega
namespace TrimW
theorem w1:CZ C0 X4:=w4
theorem trim_ok (l:List UInt8)(hl:l.length<=1000000000):Af C0 51 [str (sb l),str (sb M5)] (str (sb ((EA l).dropWhile BR))):=by
 refine BN.walk w1 SK rfl λF=>?_
 have cm:=UE;have c1:=Te l hl;have hlr:(EA l).length<=1000000000:=by
  unfold EA;rw[List.length_reverse];exact Ar (List.dropWhile_sublist _).length_le (by rw[List.length_reverse];exact hl)
 have c2:=Tn (EA l) hlr;have hps:Ac E3:=A7;have eS:=CW l [];have e2:(((sb M5).size:Int)==1)=false:=rfl;have e4:BH (sb M5) (sb [])=false:=by rw[CW];exact CB (by simp)
 have hfit:Cc true 256 E3:=by
  have h:((List.range 256).map λi=>Al (Nat.ble 48 i&&Nat.ble i 57)).length=256:=by rw[Bq,List.length_range]
  have:=Cc.agg (ds:=(List.range 256).map λi=>Al (Nat.ble 48 i&&Nat.ble i 57))
  rw[h]at this;exact this
 refine sR 0 ?_
 by_cases h0:l=[]
 ·subst h0
  have eS':BH (sb []) (sb [])=true:=by rw[CW];exact BZ rfl
  refine AQ.seq ?_;refine sZ 100 ?_;refine D0 eS' ?_;refine CM (Be eS' kT) ?_;refine Cm ?_;refine sR 200 ?_;refine FD ?_;exact An rfl AB.out
 ·rw[CB h0]at eS
  refine AQ.seq ?_;refine sZ 100 ?_;refine D0 eS ?_;refine CM (Cx eS e4 kF) ?_;refine CM (Cx eS e4 kF) ?_;refine Cm ?_;refine FW ?_;refine AQ.seq ?_;refine sZ 300 ?_;refine D0 e2 ?_;refine CM e2 ?_;refine CM e2 ?_;refine Cm ?_;refine FW ?_;refine AQ.seq ?_;refine sR 500 ?_;refine B0.same _ cm A7 ?_;refine BD ?_;generalize E3=sd at*
  repeat(refine C7 rfl rfl ?_;refine F6 (λ_ _=>rfl) ?_)
  refine Jy (C2 (by repeat'(first|exact hfit|refine C2 ?_ ?_|exact B7)) ?_);refine BD ?_;refine sR 600 ?_;refine Cm ?_;refine sR 700 ?_;refine B0.own _ (TD c1 rfl ?_ A7 (Cd.prim _)) ?_
  ·intro i x y hx hy
   match i with
   | 0=>simp at hx hy;subst hx;subst hy;exact GV.refl _ _
   | 1=>simp at hx hy;subst hx;subst hy;exact GV.ptr rfl rfl rfl rfl
   |i+2=>simp at hx
  rintro d H' n' ⟨rfl,rfl,rfl⟩;refine M3 ?_;refine B0.own _ (TD c2 rfl ?_ A7 (Cd.prim _)) ?_
  ·intro i x y hx hy
   match i with
   | 0=>simp at hx hy;subst hx;subst hy;exact GV.refl _ _
   | 1=>simp at hx hy;subst hx;subst hy;exact GV.ptr rfl rfl rfl rfl
   |i+2=>simp at hx
  rintro d H' n' ⟨rfl,rfl,rfl⟩;refine M3 ?_;refine FD ?_;exact An rfl AB.out
end TrimW
def FB (a:Nat)(l:List UInt8):Nat:=l.foldl (λa c=>a*10+(c.toNat-48)) a
def dv (l:List UInt8):Nat:=FB 0 l
theorem Rh (l:List UInt8):∀a,FB a l=a*10^l.length+dv l:=by
 induction l with
 |nil=>intro a;simp[FB,dv]
 |cons c l ih=>
  intro a;have h1:∀b,FB b (c::l)=FB (b*10+(c.toNat-48)) l:=λb=>rfl
  have h2:dv (c::l)=FB (0*10+(c.toNat-48)) l:=rfl;rw[h1,h2,ih,ih (0*10+(c.toNat-48)),CY,Nat.pow_succ];rw[BQ,Gx,Bx,Nat.mul_assoc,Kx 10];omega
theorem Pq (l m:List UInt8):dv (l++m)=dv l*10^m.length+dv m:=by
 have:dv (l++m)=FB (dv l) m:=by unfold dv FB;rw[List.foldl_append]
 rw[this,Rh]
theorem To (l:List UInt8):∀a,l.all BR=true->Lib.decFrom a l=some (FB a l):=by
 induction l with
 |nil=>intro a _;rfl
 |cons c l ih=>
  intro a h;rw[DF,Ad]at h;have hd:Lib.digitVal c=some (c.toNat-48):=by
   have h1:=h.1;unfold BR at h1;rw[Ad]at h1;unfold Lib.digitVal;rw[AL ⟨A0 h1.1,A0 h1.2⟩]
  rw[Lib.decFrom,hd];exact ih _ h.2
theorem Im {c:UInt8}(h:BR c=true):48<=c.toNat/\c.toNat<=57:=by
 unfold BR at h;rw[Ad]at h;exact⟨A0 h.1,A0 h.2⟩
theorem VS {l:List UInt8}(h0:l≠[])(h:l.all BR=true):Lib.atoi l=some (dv l:Int):=by
 cases l with
 |nil=>exact AY rfl h0
 |cons c l=>
  have hc:BR c=true:=by rw[DF,Ad]at h;exact h.1
  obtain⟨c1,c2⟩:=Im hc;have e1:(c==45)=false:=by
   rw[Bn];intro hh;subst hh;simp at c1
  have e2:(c==43)=false:=by
   rw[Bn];intro hh;subst hh;simp at c1
  unfold Lib.atoi;dsimp only;rw[e1,e2];simp only[K1,if_false];unfold Lib.decNat;simp only[List.isEmpty_cons,K1,if_false];rw[To _ _ h];rfl
theorem ah (l:List UInt8)(h:l.all BR=true):dv l<10^l.length:=by
 induction l with
 |nil=>decide
 |cons c l ih=>
  rw[DF,Ad]at h;have h1:dv (c::l)=FB (0*10+(c.toNat-48)) l:=rfl;have h2:=ih h.2;obtain⟨c1,c2⟩:=Im h.1;rw[h1,Rh,Gx,Bx,CY,Nat.pow_succ,Kx _ 10];have h3:(c.toNat-48)*10^l.length<=9*10^l.length:=Bd _ (by omega);omega
abbrev Iu:Dr:=[(4,[0,1,2,3],[4])]
open Go.Proofs Go.RowKit
set_option maxRecDepth 20000
set_option maxHeartbeats 2000000
def BG (l:List UInt8):Bool:=(decide (1<=l.length)&&decide (l.length<=9))&&l.all BR && !(decide (2<=l.length)&&(l.headD 0==48))
def BY (l:List UInt8):Nat:=if BG l then dv l else 0
theorem Jz (l:List UInt8)(hl:l.length<=1000000):Af C0 23 [str (sb l)] (.tup [i64 (BY l:Nat),Al (BG l)]):=by
 refine BN.walk w1 R5 rfl λF=>?_
 have ct:=TrimW.trim_ok l (by omega);have hsz:=EI l;have eS:=CW l [];have eT:BH (sb ((EA l).dropWhile BR)) (sb [])=decide (l.all BR=true):=by
  rw[CW,IY,decide_eq_true_iff,decide_eq_true_iff];exact Vf l
 have e2:BH (sb l) (sb [48])=decide (l=[48]):=CW l [48];have hch:(((sb l).data.toList.getD ((0:Int)).toNat 0).toNat:Int)=((l.headD 0).toNat:Int):=by
  show((l.getD 0 0).toNat:Int)=_;cases l<;>rfl
 rcases Ao 9 l.length with h9|h9
 ·have hne:l≠[]:=λh=>by subst h;simp at h9
  have e9:decide (((sb l).size:Int)>9)=true:=BZ (by rw[hsz];omega);rw[CB hne]at eS;have hI:BG l=false:=by unfold BG;rw[CB (show ¬l.length<=9 by omega)];simp
  refine AS Iu (Be eS e9) AA AA AA AA AA AA ?_;refine An ?_ AB.out;unfold BY;rw[hI];rfl
 have e9:decide (((sb l).size:Int)>9)=false:=CB (by rw[hsz];omega)
 by_cases h0:l=[]
 ·subst h0
  rw[BZ rfl]at eS;refine AS Iu (Be eS e9) AA AA AA AA AA AA ?_;exact An rfl AB.out
 rw[CB h0]at eS;have hl1:1<=l.length:=by cases l<;>simp at h0⊢
 cases hall:l.all BR with
 |false=>
  rw[hall]at eT;have eT':BH (sb ((EA l).dropWhile BR)) (sb [])=false:=eT;have hI:BG l=false:=by unfold BG;rw[hall];simp
  refine AS Iu (Cx eS e9 eT') ct AA AA AA AA AA ?_;refine An ?_ AB.out;unfold BY;rw[hI];rfl
 |true=>
  rw[hall]at eT;have eT':BH (sb ((EA l).dropWhile BR)) (sb [])=true:=eT;have cA:=Qy (sb l) (dv l) (by rw[hsz];omega) (VS h0 hall);have hb0:((0:Int))<((sb l).size:Int):=by rw[hsz];omega
  cases hz:l.headD 0==48 with
  |false=>
   have hch2:((((l.headD 0).toNat:Int))==48)=false:=by
    rw[Bn]at hz⊢;intro h;apply hz
    have:(l.headD 0).toNat=48:=by omega
    exact UInt8.toNat_inj.1 this
   have hI:BG l=true:=by
    unfold BG;rw[hall,hz,BZ hl1,BZ h9];simp
   refine AS Iu (Da eS e9 eT' hch hch2) ct cA AA AA AA AA ?_;refine An ?_ AB.out;unfold BY;rw[hI];rfl
  |true=>
   have hch2:((((l.headD 0).toNat:Int))==48)=true:=by
    rw[GO]at hz⊢;rw[hz];rfl
   by_cases h1:l=[48]
   ·rw[BZ h1]at e2
    have hI:BG l=true:=by rw[h1];rfl
    refine AS Iu (GQ eS e9 eT' hch hch2 e2) ct cA AA AA AA AA ?_;refine An ?_ AB.out;unfold BY;rw[hI];rfl
   ·rw[CB h1]at e2
    have hI:BG l=false:=by
     have:2<=l.length:=by
      rcases l with _|⟨a,_|⟨b,t⟩⟩
      ·simp at hl1
      ·simp at hz;subst hz;exact AY rfl h1
      ·simp
     unfold BG;rw[hz,BZ this];simp
    refine AS Iu (GQ eS e9 eT' hch hch2 e2) ct AA AA AA AA AA ?_;refine An ?_ AB.out;unfold BY;rw[hI];rfl
def B6 (c:UInt8)(l:List UInt8):Nat:=(l.takeWhile (· != c)).length
theorem Ir (c b:UInt8)(l:List UInt8):B6 c (b::l)=if b=c then 0 else B6 c l+1:=by
 unfold B6;rw[Mh]
 by_cases h:b=c
 ·rw[AM (by simpa using h),AL h];rfl
 ·rw[AL (by simpa using h),AM h,CY]
def E2 (c:UInt8)(l:List UInt8):Int:=if B6 c l<l.length then(B6 c l:Int)else -1
theorem Tt (c:UInt8)(l:List UInt8):Lib.indexByte l c=E2 c l:=by
 unfold E2
 induction l with
 |nil=>rfl
 |cons b l ih=>
  unfold Lib.indexByte;rw[Ir,CY]
  by_cases h:b=c
  ·subst h
   simp
  ·have hb:(b==c)=false:=by simpa using h
   rw[hb,ih,AM h]
   by_cases h2:B6 c l<l.length
   ·have h3:B6 c l+1<l.length+1:=by omega
    have h4:(((B6 c l:Nat):Int) == -1)=false:=Bn.2 (by omega);simp only[h2,h3,h4,if_true,K1,if_false];omega
   ·have h3:¬B6 c l+1<l.length+1:=by omega
    simp only[h2,h3,K1,if_false];rfl
theorem UC (c:UInt8)(l:List UInt8):Af C0 187 [str (sb l),.prim (.int .u8 (c.toNat:Nat))] (i64 (E2 c l)):=by
 refine BN.walk w1 RS rfl λF=>?_
 have e1:firstIdx (sb l) ((((c.toNat:Nat):Int)).toNat.toUInt8)=E2 c l:=by
  rw[Lib.firstIdx_eq,Je,show c.toNat.toUInt8=c from UInt8.ofNat_toNat];exact Tt c l
 generalize E2 c l=r at*;refine sR 0 ?_;refine sZ 100 ?_;refine D0 e1 ?_;refine FD ?_;exact An rfl AB.out
theorem Zz (c:UInt8)(l:List UInt8):Af C0 126 [str (sb l),str (sb [c])] (i64 (E2 c l)):=by
 refine BN.walk w1 RR rfl λF=>?_
 have c1:=UC c l;have eS:=CW [c] l;have hr:[c]=l->E2 c l=0:=λh=>by subst h;unfold E2;rw[Ir];simp
 generalize E2 c l=r at*;have e0:(((sb [c]).size:Int)==0)=false:=rfl;have e1:(((sb [c]).size:Int)==1)=true:=rfl;have hs1:(0:Int)<((sb [c]).size:Int):=Int.one_pos;have hx:(((sb [c]).data.toList.getD ((0:Int)).toNat 0).toNat:Int)=(c.toNat:Int):=rfl
 by_cases h:[c]=l
 ·rw[BZ h]at eS
  have hr:=hr h;subst hr;refine AS Ah (Cx e0 kF eS) AA AA AA AA AA AA ?_;exact An rfl AB.out
 ·rw[CB h]at eS
  refine AS Ah (Da e0 kF eS e1 hx) c1 AA AA AA AA AA ?_;exact An rfl AB.out
theorem TX (c:UInt8)(l:List UInt8):Af C0 77 [str (sb l),str (sb [c])] (i64 (E2 c l)):=by
 refine BN.walk w1 SA rfl λF=>?_
 have c1:=Zz c l;generalize E2 c l=r at*;refine AS Ah kB c1 AA AA AA AA AA ?_;exact An rfl AB.out
noncomputable def X5:EV:=⟨Jm.get,Ij.get,Jg.get,λ_=>false,λ_ _=>none,λ_ _=>none,MZ⟩
theorem dg:B9 C0 X5:=⟨Aw,Ct,Gz,λ_ _ _ h=>by simp[X5]at h,by kernel_rfl,λ_ _ _ h=>by simp[X5]at h,RC⟩
theorem w5:CZ C0 X5:=dg.w
namespace CntW
theorem w1:CZ C0 X5:=w5
theorem countC (c:UInt8)(l:List UInt8):Af C0 95 [str (sb l),str (sb [c])] (i64 (l.count c:Nat)):=by
 refine BN.walk w1 SB rfl λF=>?_
 have e0:(((sb [c]).size:Int)==0)=false:=rfl;have e1:(((sb [c]).size:Int)==1)=true:=rfl;have hs1:(0:Int)<((sb [c]).size:Int):=Int.one_pos;have hx:(((sb [c]).data.toList.getD ((0:Int)).toNat 0).toNat:Int)=(c.toNat:Int):=rfl;have hn:Lib.countByte l (((c.toNat:Nat):Int)).toNat.toUInt8=l.count c:=by
  rw[Je,show c.toNat.toUInt8=c from UInt8.ofNat_toNat];rfl
 generalize l.count c=r at*;refine AS Ah (Cx e0 e1 hx) AA AA AA AA AA AA ?_;exact An (by rw[<-hn]) AB.out
end CntW
def A9 (c:UInt8):List UInt8->List (List UInt8)
 | []=>[[]]
 |b::l=>if b=c then[]::A9 c l else match A9 c l with
  |w::ws=>(b::w)::ws
  | []=>[[b]]
theorem LJ (c:UInt8):∀l:List UInt8,A9 c l≠[]
 | []=>by simp[A9]
 |b::l=>by
  unfold A9;split
  ·simp
  ·split<;>simp
theorem LI (c b:UInt8)(l:List UInt8):A9 c (b::l)=if b=c then[]::A9 c l else match A9 c l with
  |w::ws=>(b::w)::ws
  | []=>[[b]]:=rfl
theorem Pm (c:UInt8):∀l:List UInt8,B6 c l<l.length->A9 c l=l.take (B6 c l)::A9 c (l.drop (B6 c l+1))
 | [],h=>by simp at h
 |b::l,h=>by
  rw[Ir]at h⊢;rw[LI]
  by_cases hb:b=c
  ·rw[AL hb,AL hb];rfl
  ·rw[AM hb,AM hb]
   rw[AM hb,CY]at h;rw[Pm c l (by omega)];rfl
theorem Pl (c:UInt8):∀l:List UInt8,l.count c=0->A9 c l=[l]
 | [],_=>rfl
 |b::l,h=>by
  have hb:b≠c:=λe=>by subst e;simp at h
  rw[List.count_cons_of_ne hb]at h;unfold A9;rw[AM hb,Pl c l h]
theorem Rl (c:UInt8):∀l:List UInt8,0<l.count c->B6 c l<l.length
 | [],h=>by simp at h
 |b::l,h=>by
  rw[Ir,CY]
  by_cases hb:b=c
  ·rw[AL hb];omega
  ·rw[AM hb]
   rw[List.count_cons_of_ne hb]at h
   have:=Rl c l h
   omega
theorem Pa (c:UInt8):∀l:List UInt8,B6 c l<l.length->l.count c=(l.drop (B6 c l+1)).count c+1
 | [],h=>by simp at h
 |b::l,h=>by
  rw[Ir,CY]at h;rw[Ir]
  by_cases hb:b=c
  ·subst hb;simp
  ·rw[AM hb]at h⊢
   rw[List.count_cons_of_ne hb,List.drop_succ_cons];exact Pa c l (by omega)
theorem G4 (c:UInt8):∀l:List UInt8,(A9 c l).length=l.count c+1
 | []=>rfl
 |b::l=>by
  unfold A9
  by_cases hb:b=c
  ·rw[AL hb,CY,G4 c l,hb,List.count_cons_self]
  ·rw[AM hb,List.count_cons_of_ne hb,<-G4 c l]
   have:=LJ c l
   split
   ·rename_i w ws h;rw[h];rfl
   ·rename_i h;exact AY h this
abbrev AR (l:List UInt8):D:=str (sb l)
theorem Tp (c:UInt8)(l:List UInt8)(hl:l.length<=100000):Af C0 49 [str (sb l),str (sb [c]),i64 0,i64 (-1)] (.sl false 1 ((A9 c l).map AR)):=by
 refine BN.walk w1 SI rfl λF=>?_
 have cC:=CntW.countC c l;have hcl:l.count c<=l.length:=List.count_le_length;have hsz:=EI l;have eS:BH (sb [c]) (sb [])=false:=by rw[CW];simp
 have w1':IntKind.i64.wrap (((l.count c:Nat):Int)+1)=((l.count c+1:Nat):Int):=by rw[wI];omega
 have w2':IntKind.i64.wrap (((sb l).size:Int)+1)=((l.length+1:Nat):Int):=by rw[hsz,wI];omega
 have f1:((-1:Int)==0)=false:=rfl;have f2:decide ((-1:Int)<0)=true:=rfl;have w3':min (((l.count c+1:Nat):Int)) ((l.length+1:Nat):Int)=((l.count c+1:Nat):Int):=by omega
 have w4':IntKind.i64.wrap (((l.count c+1:Nat):Int)-1)=((l.count c:Nat):Int):=by rw[wI];omega
 have r3:List.replicate (l.count c+1) (D.prim BJ)=(List.replicate (l.count c+1) []).map AR:=by rw[List.map_replicate]
 generalize hN:l.count c=N0 at*;refine AS Ah (Db eS w1' w2' f1 f2 w3' (Cx w4' kN r3)) cC AA AA AA AA AA ?_;refine AQ.loop (α:=List (List UInt8)×List UInt8×Nat) (λp=>⟨[(0,AR p.2.1),(1,AR [c]),(2,i64 0),(3,i64 N0),(8,BC),(9,.osl 801 19 1 0 (N0+1)),(10,i64 p.1.length)],[⟨801,19,9,1,(p.1++List.replicate (N0+1-p.1.length) []).map AR⟩],p.2.2⟩) (λp=>N0-p.1.length)
  (λp=>A9 c l=p.1++A9 c p.2.1/\p.1.length+p.2.1.count c=N0/\p.2.1.length<=l.length) ([],l,_) ⟨rfl,by simp[hN],Ag _⟩ As ?_
 rintro⟨dn,m,n1⟩ F ⟨h1,h2,h3⟩;dsimp only at h1 h2 h3⊢;clear r3 cC;have hszm:=EI m;rcases Ao dn.length N0 with h4|h4
 ·have t1:decide (((dn.length:Nat):Int)<((N0:Nat):Int))=true:=Ay
  have hpl:=Rl c m (by omega);have cI':=TX c m;have hpI:E2 c m=((B6 c m:Nat):Int):=by unfold E2;rw[AL hpl]
  rw[hpI]at cI';have t2:decide ((((B6 c m:Nat):Int))<0)=false:=Ap;have wa:IntKind.i64.wrap (((B6 c m:Nat):Int)+0)=((B6 c m:Nat):Int):=by rw[wI];omega
  have e2:(sb m).extract 0 (B6 c m)=sb (m.take (B6 c m)):=by rw[H9];rfl
  have wb:IntKind.i64.wrap (((B6 c m:Nat):Int)+((sb [c]).size:Int))=((B6 c m+1:Nat):Int):=by
   show IntKind.i64.wrap (((B6 c m:Nat):Int)+1)=_;rw[wI];omega
  have e3:(sb m).extract (B6 c m+1) (sb m).size=sb (m.drop (B6 c m+1)):=by
   rw[H9,hszm,E9 (Ag _)]
  obtain⟨d2,hd2⟩:∃d2,dn++[m.take (B6 c m)]=d2:=⟨_,rfl⟩
  have hdl:d2.length=dn.length+1:=by rw[<-hd2,Dk,Gs]
  have wc:IntKind.i64.wrap (((dn.length:Nat):Int)+1)=((d2.length:Nat):Int):=by rw[hdl];exact wS (by omega)
  have hk1:N0+1-dn.length=(N0-dn.length)+1:=by omega
  have hE:((dn++List.replicate (N0+1-dn.length) []).map AR)[dn.length]?=some (AR []):=by
   rw[Bj,Bw (Ag _),Nat.sub_self,hk1];rfl
  have hset:((dn++List.replicate (N0+1-dn.length) []).map AR).set dn.length (AR (m.take (B6 c m)))=(d2++List.replicate (N0+1-d2.length) []).map AR:=by
   rw[hdl,<-hd2,hk1,show N0+1-(dn.length+1)=N0-dn.length by omega,<-List.map_set]
   congr 1
   rw[List.set_append_right _ _ (Ag _),Nat.sub_self,List.replicate_succ,List.set_cons_zero,Dm];rfl
  have hle2:B6 c m+1<=m.length:=hpl;refine AS Ah (Db t1 t2 wa e2 kN Bx (Da hE hset wb e3 wc)) cI' AA AA AA AA AA ?_;exact⟨(d2,m.drop (B6 c m+1),_),⟨by rw[h1,Pm c m hpl,<-hd2,Dm];rfl,by dsimp only;rw[hdl,<-h2,Pa c m hpl];omega,by dsimp only;rw[Hd];omega⟩,by dsimp only;rw[hdl];omega,As⟩
 ·have hd:dn.length=N0:=by omega
  have t1:decide (((dn.length:Nat):Int)<((N0:Nat):Int))=false:=Ap;have hc0:m.count c=0:=by omega
  have hE:((dn++List.replicate (N0+1-dn.length) []).map AR)[dn.length]?=some (AR []):=by
   rw[Bj,Bw (Ag _),Nat.sub_self,hd,show N0+1-N0=1 by omega];rfl
  have hset:((dn++List.replicate (N0+1-dn.length) []).map AR).set dn.length (AR m)=(dn++[m]).map AR:=by
   rw[hd,show N0+1-N0=1 by omega,<-hd,<-List.map_set,List.set_append_right _ _ (Ag _),Nat.sub_self];rfl
  have wc:IntKind.i64.wrap (((dn.length:Nat):Int)+1)=((dn.length+1:Nat):Int):=wS (by omega);refine AS Ah (GQ t1 kN Bx hE hset wc) AA AA AA AA AA AA ?_;have hfz:=H6 801 19 9 1 ((dn++[m]).map AR) [];rw[Bq,Dk,Gs]at hfz;rw[h1,Pl c m hc0];exact⟨_,hfz,AB.out,rfl⟩
theorem Vc (c:UInt8)(l:List UInt8)(hl:l.length<=100000):Af C0 21 [str (sb l),str (sb [c])] (.sl false 1 ((A9 c l).map AR)):=by
 refine BN.walk w1 R1 rfl λF=>?_
 have cG:=Tp c l hl;have hp:AB (.sl false 1 ((A9 c l).map AR)):=A7;generalize(A9 c l).map AR=r at*;refine AS Ah kB cG AA AA AA AA AA ?_;exact An rfl AB.out
def Ck (l:List UInt8):Nat:=l.foldl (λn b=>(131*n+b.toNat)%1000003) 7
theorem OI (l:List UInt8):Ck l<1000003:=by
 have h:∀(l:List UInt8) (a:Nat),a<1000003->l.foldl (λn b=>(131*n+b.toNat)%1000003) a<1000003:=λl=>by
  induction l with
  |nil=>exact λa h=>h
  |cons b l ih=>exact λa _=>ih _ (Gw _ (by decide))
 exact h l 7 (by decide)
theorem QL {l:List UInt8}{i:Nat}{b:UInt8}(h:l[i]?=some b):Ck (l.take (i+1))=(131*Ck (l.take i)+b.toNat)%1000003:=by
 have:l.take (i+1)=l.take i++[b]:=by rw[E8,h];rfl
 unfold Ck;rw[this,List.foldl_append];rfl
theorem Lm {l:List UInt8}{i:Nat}{b:UInt8}(h:l[i]?=some b):((sb l).data.toList.getD i 0)=b:=by
 show l.getD i 0=b;rw[Fr,h];rfl
theorem Qn {q b:Nat}(hq:q<1000003)(hb:b<256):(IntKind.i64.wrap (IntKind.i64.wrap (131*(q:Int))+IntKind.i64.wrap (b:Int))).tmod 1000003=(((131*q+b)%1000003:Nat):Int):=by
 rw[wI (z:=131*(q:Int)) (by omega) (by omega),wI (z:=(b:Int)) (by omega) (by omega),wI];rw[show 131*(q:Int)+(b:Int)=((131*q+b:Nat):Int) by omega];exact(Int.ofNat_tmod _ _).symm
theorem Ol (b:UInt8):b.toNat<256:=b.toNat_lt
theorem RY:∀ {l:List (List UInt8)} {i:Nat} {s:List UInt8},l[i]?=some s->(l.take i).contains s=false->l.idxOf s=i
 | [],_,_,h,_=>by simp at h
 |a::l,0,s,h,_=>by simp at h;subst h;simp
 |a::l,i+1,s,h,h0=>by
  rw[List.take_succ_cons,List.contains_cons,Me]at h0;have ha:a≠s:=λe=>by rw[e]at h0;simp at h0
  have hb:(a==s)=false:=by simpa using ha
  rw[List.idxOf_cons,hb,RY (by simpa using h) h0.2];rfl
theorem Qo {l:List (List UInt8)}{i:Nat}{s:List UInt8}(h:l[i]?=some s):l.contains s=true:=by
 rw[List.contains_iff_mem];exact Bc h
theorem Po {l:List (List UInt8)}{i:Nat}{s x:List UInt8}(h:l[i]?=some x)(h0:(l.take i).contains s=false)(hx:¬s=x):(l.take (i+1)).contains s=false:=by
 rw[E8,h];simp only[Option.toList_some,List.contains_eq_mem,BO,E7,decide_eq_false_iff_not]at h0⊢;rintro(h1|h1)
 ·exact h0 h1
 ·exact hx h1
theorem Iz {l:List (List UInt8)}{i:Nat}{x:List UInt8}(h:l[i]?=some x):(l.map AR)[i]?=some (AR x):=by rw[Bj,h];rfl
theorem au (l:List UInt8)(hl:l.length<=100000):Af C0 24 [str (sb l)] (str (sb (Lib.itoa (Ck l:Nat)))):=by
 refine BN.walk w1 bp rfl λF=>?_
 have hsz:=EI l;have hck:=OI l;have cT:=RB (Ck l:Nat) (by omega) (by omega);refine AS Ah kB AA AA AA AA AA AA ?_;refine AQ.loop (α:=Nat×Nat) (λp=>⟨[(0,str (sb l)),(2,AR []),(3,i64 (Ck (l.take p.1):Nat)),(6,i64 l.length),(7,i64 p.1)],[],p.2⟩) (λp=>l.length-p.1) (λp=>p.1<=l.length) (0,_) (CJ _) (by rw[hsz];exact As) ?_;rintro⟨i,n1⟩ F h1;dsimp only at h1⊢;rcases Ao i l.length with h2|h2
 ·obtain⟨b,hb⟩:∃b,l[i]?=some b:=⟨l[i],BM h2⟩
  have t1:decide (((i:Nat):Int)<((l.length:Nat):Int))=true:=Ay;have hx:=Lm hb;have hbl:=Ol b;have hc:=OI (l.take i);have ht:=QL hb;have wc:=wS (n:=i) (by omega);have hi2:((i:Nat):Int)<((sb l).size:Int):=by rw[hsz];omega
  generalize Ck (l.take i)=q at*;obtain⟨q2,hq2⟩:∃q,Ck (l.take (i+1))=q:=⟨_,rfl⟩
  rw[hq2]at ht;have hst:=Qn hc hbl;rw[<-ht]at hst;refine AS Ah (Da t1 kN hx wc hst) AA AA AA AA AA AA ?_;exact⟨(i+1,_),by dsimp only;omega,by dsimp only;omega,(by dsimp only;rw[hq2];exact As)⟩
 ·have hi:i=l.length:=by omega
  subst hi;have t1:decide (((l.length:Nat):Int)<((l.length:Nat):Int))=false:=Ap;have hta:Ck (l.take l.length)=Ck l:=by rw[E9 (Ag _)]
  rw[hta];generalize Ck l=q at*;refine AS Ah t1 cT AA AA AA AA AA ?_;exact An rfl AB.out
theorem UD (l:List (List UInt8))(s:List UInt8)(nn:Bool)(hl:l.length<=100000):Af C0 50 [.sl nn 1 (l.map AR),AR s] (i64 (if l.contains s then(l.idxOf s:Nat)else -1)):=by
 refine BN.walk w1 SJ rfl λF=>?_
 have hml:(l.map AR).length=l.length:=Bq ..;refine AS Ah kB AA AA AA AA AA AA ?_;refine AQ.loop (α:=Nat×Nat) (λp=>⟨[(0,.sl nn 1 (l.map AR)),(1,AR s),(4,i64 0),(7,i64 l.length),(8,i64 p.1)],[],p.2⟩) (λp=>l.length-p.1) (λp=>p.1<=l.length/\(l.take p.1).contains s=false) (0,_) ⟨CJ _,rfl⟩ (by rw[hml];exact As) ?_;rintro⟨i,n1⟩ F ⟨h1,h0⟩;dsimp only at h1 h0⊢;rcases Ao i l.length with h2|h2
 ·obtain⟨x,hx⟩:∃x,l[i]?=some x:=⟨l[i],BM h2⟩
  have t1:decide (((i:Nat):Int)<((l.length:Nat):Int))=true:=Ay;have hx':=Iz hx;have eS:=CW s x;have wc:=wS (n:=i) (by omega)
  by_cases hsx:s=x
  ·rw[BZ hsx]at eS
   have e1:=Qo (hsx ▸ hx);have e2:=RY (hsx ▸ hx) h0;refine AS Ah (Be t1 eS) hx' AA AA AA AA AA ?_;exact An (by rw[e1,e2];rfl) AB.out
  ·rw[CB hsx]at eS
   have h3:=Po hx h0 hsx;refine AS Ah (Cx t1 eS wc) hx' AA AA AA AA AA ?_;exact⟨(i+1,_),⟨by dsimp only;omega,h3⟩,by dsimp only;omega,As⟩
 ·have hi:i=l.length:=by omega
  subst hi;have t1:decide (((l.length:Nat):Int)<((l.length:Nat):Int))=false:=Ap;rw[E9 (Ag _)]at h0;refine AS Ah t1 AA AA AA AA AA AA ?_;exact An (by rw[h0];rfl) AB.out
theorem Tb (l:List (List UInt8))(s:List UInt8)(nn:Bool)(hl:l.length<=100000):Af C0 22 [.sl nn 1 (l.map AR),AR s] (Al (l.contains s)):=by
 refine BN.walk w1 R2 rfl λF=>?_
 have cI:=UD l s nn hl;have e1:decide ((if l.contains s then((l.idxOf s:Nat):Int)else -1)>=0)=l.contains s:=by
  cases l.contains s
  ·rfl
  ·exact BZ (by rw[AL rfl];omega)
 generalize(if l.contains s then((l.idxOf s:Nat):Int)else -1)=r at*;generalize l.contains s=b at*;have hp:AB (D.sl nn 1 (l.map AR)):=A7;generalize l.map AR=q at*;refine AS Ah e1 cI AA AA AA AA AA ?_;exact An rfl AB.out
end Go.Ide
