/- The layer of own lemmas and contracts, part 7. -/
import Derived.Test.YtmpdcldckjeklacGreatDoorAE5
import Derived.Test.YtmpdcldckjeklacGreatDoorAE4
import Derived.Test.YtmpdcldckjeklacGreatDoorAE6
import Derived.Lib.AppendIntMem
import Derived.Lib.SmallJoins
import Derived.Shelf.Spec.BitsCarry
import Derived.Laws.StandIn
import Derived.Lib.Bytealg
set_option linter.unusedVariables false
set_option linter.unusedSimpArgs false
namespace Go.Ide
open Go Go.Ide Go.Proofs Go.RowKit
set_option maxRecDepth 100000
def G0 (w:World):Prop:=Lib.TabIs Tryz.prog w "internal/strconv.uint64pow10" .u64 Lib.pow10Tab
theorem W5:Tryz.prog.globalNamed "internal/strconv.uint64pow10" = some 7:=by kernel_rfl
theorem WB {w w':World}(h:G0 w)(b:Below (7+1) w w'):G0 w':=by
 unfold G0 Lib.TabIs World.var? at h⊢;rw[W5]at h⊢;simp only[Option.bind_some]at h⊢;rw[b.block _ (by decide)];exact h
noncomputable def C0:AZ:={P:=Tryz.prog,G:=G0,nG:=7+1,hG:=λ_ _=>WB}
theorem TK {ρ:Lk}{O:Nat->Prop}{w:World}{a b c:Value}{vs:Array Value}(hn:vs.size=3)(h:∀(i:Nat) (x:D),[D.prim a,.prim b,.prim c][i]?=some x->AG ρ O w x (vs.getD i undef)):vs = #[a,b,c]:=by
 match vs,hn with
 |⟨[u,v,x]⟩,_=>
  have h0:=h 0 _ rfl;have h1:=h 1 _ rfl;have h2:=h 2 _ rfl;simp at h0 h1 h2;cases h0;cases h1;cases h2;rfl
theorem Vl (x y c:Nat)(hc:c<=1):GX C0 246 [.prim (.int .u64 x),.prim (.int .u64 y),.prim (.int .u64 c)]
  (.tup [.prim (.int .u64 (((x+y+c)%18446744073709551616:Nat):Int)),.prim (.int .u64 (((x+y+c)/18446744073709551616:Nat):Int))]):=.inl λρ O w vs hn h=>by
 have:=TK hn h
 subst this;refine⟨.tuple #[.int .u64 (((x+y+c)%18446744073709551616:Nat):Int),.int .u64 (((x+y+c)/18446744073709551616:Nat):Int)],?_,.tup rfl λi d hd=>?_⟩
 ·show(callFunc 246 _).run Tryz.prog w=_
  rw[run_callFunc_extern Tryz.func246 (by kernel_rfl) (by kernel_rfl) (by kernel_rfl) (e:=add64Entry) (by kernel_rfl),run_add64 x y c (by omega) (by omega) (by omega) (by omega)];simp only[Result.andThen]
  congr 5<;>omega
 ·match i with
  | 0=>simp at hd;subst hd;exact .prim _
  | 1=>simp at hd;subst hd;exact .prim _
  |n+2=>simp at hd
theorem TJ {ρ:Lk}{O:Nat->Prop}{w:World}{a b:Value}{vs:Array Value}(hn:vs.size=2)(h:∀(i:Nat) (x:D),[D.prim a,.prim b][i]?=some x->AG ρ O w x (vs.getD i undef)):vs = #[a,b]:=by
 match vs,hn with
 |⟨[u,v]⟩,_=>
  have h0:=h 0 _ rfl;have h1:=h 1 _ rfl;simp at h0 h1;cases h0;cases h1;rfl
theorem Ue (s:ByteArray)(c:Int):GX C0 228 [.prim (.string s),.prim (.int .u8 c)] (.prim (.int .i64 (firstIdx s c.toNat.toUInt8))):=.inl λρ O w vs hn h=>by
 have:=TJ hn h
 subst this;refine⟨_,?_,.prim _⟩;show(callFunc 228 _).run Tryz.prog w=_;rw[run_callFunc_indexByte Tryz.func228 (by kernel_rfl) (by kernel_rfl) (by kernel_rfl) (by kernel_rfl),run_indexByte_string];rfl
theorem Wf (x y b:Nat)(hb:b<=1):GX C0 248 [.prim (.int .u64 x),.prim (.int .u64 y),.prim (.int .u64 b)]
  (.tup [.prim (.int .u64 (((x+18446744073709551616-y-b)%18446744073709551616:Nat):Int)),.prim (.int .u64 ((if x<y+b then 1 else 0:Nat):Int))]):=.inl λρ O w vs hn h=>by
 have:=TK hn h
 subst this;refine⟨.tuple #[.int .u64 (((x+18446744073709551616-y-b)%18446744073709551616:Nat):Int),.int .u64 ((if x<y+b then 1 else 0:Nat):Int)],?_,.tup rfl λi d hd=>?_⟩
 ·show(callFunc 248 _).run Tryz.prog w=_
  rw[run_callFunc_extern Tryz.func248 (by kernel_rfl) (by kernel_rfl) (by kernel_rfl) (e:=sub64Entry) (by kernel_rfl),run_sub64 x y b hb];rfl
 ·match i with
  | 0=>simp at hd;subst hd;exact .prim _
  | 1=>simp at hd;subst hd;exact .prim _
  |n+2=>simp at hd
theorem RN {O:Nat->Prop}{w:World}{v:Value}{vs:Array Value}(hn:vs.size=1)(h:∀(i:Nat) (x:D),[D.prim v][i]?=some x->AG nol O w x (vs.getD i undef)):vs = #[v]:=by
 match vs,hn with
 |⟨[u]⟩,_=>
  have h0:=h 0 _ rfl;simp at h0;cases h0;rfl
theorem Kp (n:Int)(h0 : -9223372036854775808<=n)(h1:n<=9223372036854775807):Aa C0 95 [i64 n] (str ⟨(Lib.itoa n).toArray⟩):=by
 refine⟨⟨_,_,Tryz.func95,rfl,by kernel_rfl⟩,λY w vs hG hnG hX hvs hr=>?_⟩
 have:=RN hvs hr
 subst this;refine(Tryz.strconv_Itoa n h0 h1 w hG).mono ?_;rintro e w' ⟨rfl,k,os,rfl⟩;exact⟨_,_,rfl,Lib.below_grow _ _ (Ad _) _ _,rfl,.prim _⟩
theorem Rq (s:ByteArray)(n:Int)(hl:s.size<=18)(h:Lib.atoi s.data.toList=some n):Aa C0 105 [str s] (.tup [i64 n,.prim .nilIface]):=by
 refine⟨⟨_,_,Tryz.func105,rfl,by kernel_rfl⟩,λY w vs hG hnG hX hvs hr=>?_⟩
 have:=RN hvs hr
 subst this;refine(Tryz.strconv_Atoi s n hl h w).mono ?_;rintro e w' ⟨rfl,t,rfl⟩;exact⟨_,_,rfl,Joins.below_bytesWorld _ _ _ _ (Ad _),rfl,.tup rfl λi d hd=>by
  match i with
  | 0=>simp at hd;subst hd;exact .prim _
  | 1=>simp at hd;subst hd;exact .prim _
  |n+2=>simp at hd⟩
def LL (f:Nat)(ds:List D):Option D:=match Nat.beq f 246 with
 |true=>match ds with
  | [.prim (.int .u64 (.ofNat a)),.prim (.int .u64 (.ofNat b)),.prim (.int .u64 (.ofNat c))]=>match Nat.ble c 1 with
   |true=>some (.tup [.prim (.int .u64 (((a+b+c)%18446744073709551616:Nat):Int)),.prim (.int .u64 (((a+b+c)/18446744073709551616:Nat):Int))])
   |false=>none
  |_=>none
 |false=>match Nat.beq f 248 with
  |true=>match ds with
   | [.prim (.int .u64 (.ofNat a)),.prim (.int .u64 (.ofNat b)),.prim (.int .u64 (.ofNat c))]=>match Nat.ble c 1 with
    |true=>some (.tup [.prim (.int .u64 (((a+18446744073709551616-b-c)%18446744073709551616:Nat):Int)),.prim (.int .u64 ((if a<b+c then 1 else 0:Nat):Int))])
    |false=>none
   |_=>none
  |false=>match Nat.beq f 228 with
   |true=>match ds with
    | [.prim (.string s),.prim (.int .u8 c)]=>some (.prim (.int .i64 (firstIdx s c.toNat.toUInt8)))
    |_=>none
   |false=>none
theorem Oj (f:Nat)(ds:List D)(d:D)(h:LL f ds=some d):GX C0 f ds d:=by
 unfold LL at h;split at h
 ·rename_i hf
  obtain rfl:=Ae hf;split at h<;>try(cases h;done)
  split at h<;>try(cases h;done)
  rename_i hc;cases h;exact Vl _ _ _ (BD hc)
 ·split at h
  ·rename_i hf
   obtain rfl:=Ae hf;split at h<;>try(cases h;done)
   split at h<;>try(cases h;done)
   rename_i hc;cases h;exact Wf _ _ _ (BD hc)
  ·split at h
   ·rename_i hf
    obtain rfl:=Ae hf;split at h<;>try(cases h;done)
    cases h;exact Ue _ _
   ·cases h
noncomputable def X1:EV:=⟨KE.get,I8.get,J6.get,λ_=>false,λ_ _=>none,λ_ _=>none,LL⟩
theorem Fp:CN C0 X1:=⟨A9,DD,HL,λ_ _ _ h=>by simp[X1]at h,by kernel_rfl,λ_ _ _ h=>by simp[X1]at h,Oj⟩
theorem w1:Cb C0 X1:=Fp.w
theorem DJ {B:AI}{rd:Option Nat}{F:AI}{ops:Array Oper}{s:St}{Q:Exit->AI->St->Prop}{i:Nat}(kb:Nat)(h:CJ C0 X1 kb ops (List.range ops.size) s True λacc s=>acc/\Q .normal F s)(hnd:DM ops.toList=true:=by kernel_rfl):AO C0 B rd F (.region i ops false) s Q:=AO.reg w1 kb hnd h
theorem Fy {C:AZ}{X:EV}(hX:CN C X)(n k:Nat){f:Nat}{ds:List D}{d:D}(h:(FF X n k).1 f ds=some d:=by kernel_rfl):Aa C f ds d:=UL hX n k h
theorem wI {z:Int}(h1 : -9223372036854775808<=z:=by omega)(h2:z<=9223372036854775807:=by omega):IntKind.i64.wrap z=z:=by
 have e1:(2:Int)^IntKind.i64.bits=18446744073709551616:=rfl;have e2:(2:Int)^(IntKind.i64.bits-1)=9223372036854775808:=rfl;unfold IntKind.wrap;simp only[e1,e2];have e3:IntKind.i64.signed=true:=rfl;rw[e3];simp only[LX,FE];split<;>omega
theorem wN {n:Nat}(h:n<=9223372036854775807):IntKind.i64.wrap (n:Int)=n:=wI
set_option maxRecDepth 20000
def Bv (b:Nat):Bool:=((decide (97<=b)&&decide (b<=122))||(decide (65<=b)&&decide (b<=90)))||(decide (48<=b)&&decide (b<=57))||b==45||b==95||b==46
def Dm (l:List UInt8):Bool:=l.all (λb=>Bv b.toNat)&&(decide (1<=l.length)&&decide (l.length<=24))
theorem Ts (s:ByteArray)(p:Nat)(hp:p<s.size):s.data.toList[p]?=some (s.get! p):=by
 have hp':p<s.data.size:=hp;rw[FC,BF hp']
 congr 1
 show _=s.data[p]!;rw[getElem!_pos s.data p hp']
theorem Ru (s:ByteArray)(p:Nat)(h:(s.get! p).toNat<128):Utf8.decode s p=((s.get! p).toNat,1):=by
 unfold Utf8.decode;exact AM h
theorem WK (s:ByteArray)(p:Nat)(h:¬(s.get! p).toNat<128):128<=(Utf8.decode s p).1:=by
 unfold Utf8.decode;dsimp only;simp only[Fc];rw[AN h];have hv:128<=Utf8.runeError:=by decide
 repeat' split
 all_goals first|exact hv|(rename_i h1;simp only[ge_iff_le,Ag,FE]at h1;dsimp only;omega)
theorem Qb (s:ByteArray):Aa C0 33 [str s] (Ai (Dm s.data.toList)):=by
 refine Ax.walk w1 TB rfl λB=>?_
 have hsz:s.data.toList.length=s.size:=GO;refine fR 0 ?_;refine AO.seq ?_;refine AO.seq ?_;refine iT w1 100 [0] 1 rfl (by kernel_rfl) rfl ?_;refine GT ?_;intro F hF;refine BC ?_;refine AO.block ?_;refine Pe (α:=Nat×Nat) (λp=>⟨[(0,str s),(7,.optr 101 2 0 0 0)],[],p.2⟩) (λp=>s.size-p.1) (λp F=>JP C0 B F 101 2 s p.1/\p.1<=s.size/\(s.data.toList.take p.1).all (λb=>Bv b.toNat)=true) (0,3) ⟨hF,Bu _,rfl⟩ Al ?_;rintro⟨p,n⟩ F ⟨hIt,hp,hall⟩;dsimp only at hIt hp hall⊢;refine AO.seq ?_;refine iS w1 200 0 [1] rfl (by kernel_rfl) s p ?_;refine DG hIt (DG (λhlt F hIt=>?_) (λhge=>?_))
 ·refine GT ?_
  generalize hc:(Utf8.decode s p).1=c;refine AO.seq ?_;refine Cy ?_;refine Fh ?_;refine AO.block ?_;refine fR 300 ?_;refine NE ⟨[(0,str s),(7,.optr 101 2 0 0 0),(4,.prim (.int .i32 c)),(5,Ai ((decide ((c:Int)>=97)&&decide ((c:Int)<=122))||(decide ((c:Int)>=65)&&decide ((c:Int)<=90))))],[],n+30⟩ (DJ 400 ?_) ?_
  ·repeat'(first|(refine DG (by exact Bz) ?_;refine BC ?_)|((refine Iv (λhb=>?_) (λhb=>?_))<;>(try simp only[Ec,I0]at hb)<;>(try simp only[hb])<;>(refine BC ?_)))
   all_goals exact Al
  generalize hL:((decide ((c:Int)>=97)&&decide ((c:Int)<=122))||(decide ((c:Int)>=65)&&decide ((c:Int)<=90)))=L;refine NE ⟨[(0,str s),(7,.optr 101 2 0 0 0),(47,Ai ((((!L && !(decide ((c:Int)>=48)&&decide ((c:Int)<=57)))&&((c:Int) != 45))&&((c:Int) != 95))&&((c:Int) != 46)))],[],n+60⟩ (DJ 500 ?_) ?_
  ·repeat'(first|(refine DG (by exact Bz) ?_;refine BC ?_)|((refine Iv (λhb=>?_) (λhb=>?_))<;>(try simp only[Ec,I0]at hb)<;>(try simp only[hb])<;>(refine BC ?_)))
   all_goals exact Al
  have hbad:((((!L && !(decide ((c:Int)>=48)&&decide ((c:Int)<=57)))&&((c:Int) != 45))&&((c:Int) != 95))&&((c:Int) != 46)) = !(Bv c):=by
   subst hL;rw[I1];simp only[Bv,Ag,Ec,LY,Bool.and_eq_false_iff,Pl,bne_iff_ne,ne_eq,Bi];omega
  rw[hbad];refine Cy ?_
  (refine Iv (λhb=>?_) (λhb=>?_))<;>(try simp only[Ec,I0]at hb)<;>(try simp only[hb])
  ·have hbf:Bv c=false:=by simpa using hb
   refine fR 600 ?_;refine FH ?_;refine Ac ?_ AB.out;have hb8:Bv (s.get! p).toNat=false:=by
    by_cases hlow:(s.get! p).toNat<128
    ·rw[Ru s p hlow]at hc
     rw[show(s.get! p).toNat=c from hc];exact hbf
    ·unfold Bv;simp;omega
   have:Dm s.data.toList=false:=by
    unfold Dm
    have:s.data.toList.all (λb=>Bv b.toNat)=false:=by
     rw[List.all_eq_false];exact⟨_,Bh (Ts s p hlt),by rw[hb8];simp⟩
    rw[this];rfl
   rw[this]
  ·have hbt:Bv c=true:=by simpa using hb
   have hclt:c<128:=by
    unfold Bv at hbt;simp only[LV,Ag,FE,Fd]at hbt;omega
   have hlow:(s.get! p).toNat<128:=by
    apply Dt;intro h
    have:=WK s p h
    omega
   rw[Ru s p hlow]at hc hIt;refine Fh ?_;refine⟨(p+1,n+60),⟨hIt,hlt,?_⟩,by dsimp only;omega,Al⟩;rw[EG,Ts s p hlt,H8,hall];simp;rw[show(s.get! p).toNat=c from hc];exact hbt
 ·have hpe:p=s.size:=by omega
  refine GT ?_;refine AO.seq ?_;refine Cy ?_;refine IA ?_;refine NE ⟨[(2,Ai (decide (1<=(s.size:Int))&&decide ((s.size:Int)<=24)))],[],n+60⟩ (DJ 700 ?_) ?_
  ·repeat'(first|(refine DG (by exact Bz) ?_;refine BC ?_)|((refine Iv (λhb=>?_) (λhb=>?_))<;>(try simp only[Ec,I0]at hb)<;>(try simp only[hb])<;>(refine BC ?_)))
   all_goals exact Al
  refine FH ?_;refine Ac ?_ AB.out;have hall':s.data.toList.all (λb=>Bv b.toNat)=true:=by rw[<-hall,hpe,<-hsz,List.take_length]
  unfold Dm;rw[hall',LX,hsz];have e:(decide (1<=(s.size:Int))&&decide ((s.size:Int)<=24))=(decide (1<=s.size)&&decide (s.size<=24)):=by
   rw[I1];simp only[Ag,FE];omega
  rw[<-e]
theorem Vq (s:ByteArray)(c:Int):GX C0 197 [.prim (.string s),.prim (.int .u8 c)] (.prim (.int .i64 (Lib.countByte s.data.toList c.toNat.toUInt8:Nat))):=.inl λρ O w vs hn h=>by
 have:=TJ hn h
 subst this;refine⟨_,?_,.prim _⟩;show(callFunc 197 _).run Tryz.prog w=_;rw[run_callFunc_extern Tryz.func197 (by kernel_rfl) (by kernel_rfl) (by kernel_rfl) (e:=Extern.BytealgCount.count) (by kernel_rfl),Lib.run_countString];rfl
theorem C6 (a b:Int)(fn:Fn)(v:Value):Cw (.agg [i64 a,i64 b,.clo fn [.prim v] []]):=Cw.agg λd hd=>by
 simp only[Ah,NK,or_false]at hd;rcases hd with rfl|rfl|rfl
 ·exact .prim _
 ·exact .prim _
 ·exact λ_ _ _ _ _ _ _ h=>by
   cases h with
   |clo hf hc h1 h2=>exact .clo hf hc (λi x hx=>by
     match i with
     | 0=>
      have:=h1 0 x hx
      simp at hx;subst hx;exact Cw.prim _ _ _ _ _ _ _ _ this
     |i+1=>simp at hx) (λi x hx=>by simp at hx)
theorem Dk (fn:Fn)(v:Value):Cw (.clo fn [.prim v] []):=λ_ _ _ _ _ _ _ h=>by
 cases h with
 |clo hf hc h1 h2=>exact .clo hf hc (λi x hx=>by
   match i with
   | 0=>
    have:=h1 0 x hx
    simp at hx;subst hx;exact Cw.prim _ _ _ _ _ _ _ _ this
   |i+1=>simp at hx) (λi x hx=>by simp at hx)
def GE:List D:=[.prim (.string ⟨#[98,105,110]⟩),.prim (.string ⟨#[97,114,114,105,118,101]⟩),.prim (.string ⟨#[115,116,111,114,101]⟩),.prim (.string ⟨#[109,111,118,101]⟩),.prim (.string ⟨#[100,114,121]⟩),.prim (.string ⟨#[115,104,105,112]⟩),.prim (.string ⟨#[98,108,101,110,100]⟩),.prim (.string ⟨#[108,111,97,100]⟩),.prim (.string ⟨#[99,108,111,115,101]⟩),.prim (.string ⟨#[105,115,115,117,101]⟩),.prim (.string ⟨#[99,97,110,99,101,108]⟩)]
def GF (d:D):List D:=[.agg [i64 2,i64 4,.clo (.func 86) [d] []],.agg [i64 2,i64 1,.clo (.func 87) [d] []],.agg [i64 2,i64 2,.clo (.func 88) [d] []],.agg [i64 2,i64 3,.clo (.func 89) [d] []],.agg [i64 2,i64 4,.clo (.func 89) [d] []],.agg [i64 2,i64 1,.clo (.func 90) [d] []],.agg [i64 2,i64 1,.clo (.func 90) [d] []],.agg [i64 2,i64 2,.clo (.func 91) [d] []],.agg [i64 1,i64 0,.clo (.func 92) [d] []],.agg [i64 2,i64 1,.clo (.func 93) [d] []],.agg [i64 2,i64 1,.clo (.func 94) [d] []]]
theorem PC (a:Option Addr):Aa C0 48 [.prim (.pointer a)] (.mp GE (GF (.prim (.pointer a)))):=by
 refine Ax.intro A9 Tryz.func48 rfl (by kernel_rfl) (by kernel_rfl) (by kernel_rfl) λF=>?_
 refine Ok.seq (Ok.region ?_);refine AR.p A9 rfl rfl AA ?_;refine AR.nil ?_;refine Ok.seq (Ok.region ?_);refine EM.start (m:=3) rfl rfl rfl ?_;refine BM (C:=C0) A9 (.prim (.pointer a)) rfl rfl (.prim _) rfl (by decide) ?_;refine BM (C:=C0) A9 (.clo (.func 86) [.prim (.pointer a)] []) rfl rfl (Dk _ _) rfl (by decide) ?_;refine BM (C:=C0) A9 (.agg [i64 2,i64 4,.clo (.func 86) [.prim (.pointer a)] []]) rfl (by kernel_rfl) (C6 _ _ _ _) rfl (by decide) ?_;refine D2 (C:=C0) (k:=9) (e:=125) (z:=.agg #[.int .i64 0,.int .i64 0,.nilFunc]) DD (by kernel_rfl) rfl rfl rfl (by kernel_rfl) rfl (λ_ _ _ _ h _ _ _=>C6 _ _ _ _ _ _ _ _ _ _ _ h) ?_;refine BM (C:=C0) A9 (.prim (.pointer a)) rfl rfl (.prim _) rfl (by decide) ?_;refine BM (C:=C0) A9 (.clo (.func 87) [.prim (.pointer a)] []) rfl rfl (Dk _ _) rfl (by decide) ?_;refine BM (C:=C0) A9 (.agg [i64 2,i64 1,.clo (.func 87) [.prim (.pointer a)] []]) rfl (by kernel_rfl) (C6 _ _ _ _) rfl (by decide) ?_;refine D2 (C:=C0) (k:=9) (e:=125) (z:=.agg #[.int .i64 0,.int .i64 0,.nilFunc]) DD (by kernel_rfl) rfl rfl rfl (by kernel_rfl) rfl (λ_ _ _ _ h _ _ _=>C6 _ _ _ _ _ _ _ _ _ _ _ h) ?_;refine BM (C:=C0) A9 (.prim (.pointer a)) rfl rfl (.prim _) rfl (by decide) ?_;refine BM (C:=C0) A9 (.clo (.func 88) [.prim (.pointer a)] []) rfl rfl (Dk _ _) rfl (by decide) ?_;refine BM (C:=C0) A9 (.agg [i64 2,i64 2,.clo (.func 88) [.prim (.pointer a)] []]) rfl (by kernel_rfl) (C6 _ _ _ _) rfl (by decide) ?_;refine D2 (C:=C0) (k:=9) (e:=125) (z:=.agg #[.int .i64 0,.int .i64 0,.nilFunc]) DD (by kernel_rfl) rfl rfl rfl (by kernel_rfl) rfl (λ_ _ _ _ h _ _ _=>C6 _ _ _ _ _ _ _ _ _ _ _ h) ?_;refine BM (C:=C0) A9 (.prim (.pointer a)) rfl rfl (.prim _) rfl (by decide) ?_;refine BM (C:=C0) A9 (.clo (.func 89) [.prim (.pointer a)] []) rfl rfl (Dk _ _) rfl (by decide) ?_;refine BM (C:=C0) A9 (.agg [i64 2,i64 3,.clo (.func 89) [.prim (.pointer a)] []]) rfl (by kernel_rfl) (C6 _ _ _ _) rfl (by decide) ?_;refine D2 (C:=C0) (k:=9) (e:=125) (z:=.agg #[.int .i64 0,.int .i64 0,.nilFunc]) DD (by kernel_rfl) rfl rfl rfl (by kernel_rfl) rfl (λ_ _ _ _ h _ _ _=>C6 _ _ _ _ _ _ _ _ _ _ _ h) ?_;refine BM (C:=C0) A9 (.prim (.pointer a)) rfl rfl (.prim _) rfl (by decide) ?_;refine BM (C:=C0) A9 (.clo (.func 89) [.prim (.pointer a)] []) rfl rfl (Dk _ _) rfl (by decide) ?_;refine BM (C:=C0) A9 (.agg [i64 2,i64 4,.clo (.func 89) [.prim (.pointer a)] []]) rfl (by kernel_rfl) (C6 _ _ _ _) rfl (by decide) ?_;refine D2 (C:=C0) (k:=9) (e:=125) (z:=.agg #[.int .i64 0,.int .i64 0,.nilFunc]) DD (by kernel_rfl) rfl rfl rfl (by kernel_rfl) rfl (λ_ _ _ _ h _ _ _=>C6 _ _ _ _ _ _ _ _ _ _ _ h) ?_;refine BM (C:=C0) A9 (.prim (.pointer a)) rfl rfl (.prim _) rfl (by decide) ?_;refine BM (C:=C0) A9 (.clo (.func 90) [.prim (.pointer a)] []) rfl rfl (Dk _ _) rfl (by decide) ?_;refine BM (C:=C0) A9 (.agg [i64 2,i64 1,.clo (.func 90) [.prim (.pointer a)] []]) rfl (by kernel_rfl) (C6 _ _ _ _) rfl (by decide) ?_;refine D2 (C:=C0) (k:=9) (e:=125) (z:=.agg #[.int .i64 0,.int .i64 0,.nilFunc]) DD (by kernel_rfl) rfl rfl rfl (by kernel_rfl) rfl (λ_ _ _ _ h _ _ _=>C6 _ _ _ _ _ _ _ _ _ _ _ h) ?_;refine BM (C:=C0) A9 (.prim (.pointer a)) rfl rfl (.prim _) rfl (by decide) ?_;refine BM (C:=C0) A9 (.clo (.func 90) [.prim (.pointer a)] []) rfl rfl (Dk _ _) rfl (by decide) ?_;refine BM (C:=C0) A9 (.agg [i64 2,i64 1,.clo (.func 90) [.prim (.pointer a)] []]) rfl (by kernel_rfl) (C6 _ _ _ _) rfl (by decide) ?_;refine D2 (C:=C0) (k:=9) (e:=125) (z:=.agg #[.int .i64 0,.int .i64 0,.nilFunc]) DD (by kernel_rfl) rfl rfl rfl (by kernel_rfl) rfl (λ_ _ _ _ h _ _ _=>C6 _ _ _ _ _ _ _ _ _ _ _ h) ?_;refine BM (C:=C0) A9 (.prim (.pointer a)) rfl rfl (.prim _) rfl (by decide) ?_;refine BM (C:=C0) A9 (.clo (.func 91) [.prim (.pointer a)] []) rfl rfl (Dk _ _) rfl (by decide) ?_;refine BM (C:=C0) A9 (.agg [i64 2,i64 2,.clo (.func 91) [.prim (.pointer a)] []]) rfl (by kernel_rfl) (C6 _ _ _ _) rfl (by decide) ?_;refine D2 (C:=C0) (k:=9) (e:=125) (z:=.agg #[.int .i64 0,.int .i64 0,.nilFunc]) DD (by kernel_rfl) rfl rfl rfl (by kernel_rfl) rfl (λ_ _ _ _ h _ _ _=>C6 _ _ _ _ _ _ _ _ _ _ _ h) ?_;refine BM (C:=C0) A9 (.prim (.pointer a)) rfl rfl (.prim _) rfl (by decide) ?_;refine BM (C:=C0) A9 (.clo (.func 92) [.prim (.pointer a)] []) rfl rfl (Dk _ _) rfl (by decide) ?_;refine BM (C:=C0) A9 (.agg [i64 1,i64 0,.clo (.func 92) [.prim (.pointer a)] []]) rfl (by kernel_rfl) (C6 _ _ _ _) rfl (by decide) ?_;refine D2 (C:=C0) (k:=9) (e:=125) (z:=.agg #[.int .i64 0,.int .i64 0,.nilFunc]) DD (by kernel_rfl) rfl rfl rfl (by kernel_rfl) rfl (λ_ _ _ _ h _ _ _=>C6 _ _ _ _ _ _ _ _ _ _ _ h) ?_;refine BM (C:=C0) A9 (.prim (.pointer a)) rfl rfl (.prim _) rfl (by decide) ?_;refine BM (C:=C0) A9 (.clo (.func 93) [.prim (.pointer a)] []) rfl rfl (Dk _ _) rfl (by decide) ?_;refine BM (C:=C0) A9 (.agg [i64 2,i64 1,.clo (.func 93) [.prim (.pointer a)] []]) rfl (by kernel_rfl) (C6 _ _ _ _) rfl (by decide) ?_;refine D2 (C:=C0) (k:=9) (e:=125) (z:=.agg #[.int .i64 0,.int .i64 0,.nilFunc]) DD (by kernel_rfl) rfl rfl rfl (by kernel_rfl) rfl (λ_ _ _ _ h _ _ _=>C6 _ _ _ _ _ _ _ _ _ _ _ h) ?_;refine BM (C:=C0) A9 (.prim (.pointer a)) rfl rfl (.prim _) rfl (by decide) ?_;refine BM (C:=C0) A9 (.clo (.func 94) [.prim (.pointer a)] []) rfl rfl (Dk _ _) rfl (by decide) ?_;refine BM (C:=C0) A9 (.agg [i64 2,i64 1,.clo (.func 94) [.prim (.pointer a)] []]) rfl (by kernel_rfl) (C6 _ _ _ _) rfl (by decide) ?_;refine D2 (C:=C0) (k:=9) (e:=125) (z:=.agg #[.int .i64 0,.int .i64 0,.nilFunc]) DD (by kernel_rfl) rfl rfl rfl (by kernel_rfl) rfl (λ_ _ _ _ h _ _ _=>C6 _ _ _ _ _ _ _ _ _ _ _ h) ?_;refine EM.done ?_;refine AR.p A9 rfl rfl AA ?_;refine AR.p A9 rfl rfl AA ?_;refine AR.nil ?_;refine Ok.ret ?_;exact⟨.inr rfl,_,_,rfl,⟨trivial,trivial⟩,_,.refl _,DL (n:=20) (by kernel_rfl),rfl⟩
def M0:List D:=[.prim (.string ⟨#[115,116,111,99,107]⟩),.prim (.string ⟨#[116,114,97,99,101]⟩),.prim (.string ⟨#[114,101,97,99,104]⟩),.prim (.string ⟨#[114,101,99,97,108,108]⟩),.prim (.string ⟨#[106,111,117,114,110,101,121]⟩),.prim (.string ⟨#[98,97,108,97,110,99,101]⟩),.prim (.string ⟨#[114,101,112,111,114,116]⟩)]
def M1 (d:D):List D:=[.agg [i64 (1),.clo (.func 96) [d] []],.agg [i64 (1),.clo (.func 97) [d] []],.agg [i64 (1),.clo (.func 98) [d] []],.agg [i64 (-1),.clo (.func 99) [d] []],.agg [i64 (1),.clo (.func 100) [d] []],.agg [i64 (0),.clo (.func 101) [d] []],.agg [i64 (0),.clo (.func 102) [d] []]]
theorem E2 (a:Int)(fn:Fn)(v:Value):Cw (.agg [i64 a,.clo fn [.prim v] []]):=Cw.agg λd hd=>by
 simp only[Ah,NK,or_false]at hd;rcases hd with rfl|rfl
 ·exact .prim _
 ·exact Dk _ _
theorem fO (a:Option Addr):Aa C0 50 [.prim (.pointer a)] (.mp M0 (M1 (.prim (.pointer a)))):=by
 refine Ax.intro A9 Tryz.func50 rfl (by kernel_rfl) (by kernel_rfl) (by kernel_rfl) λF=>?_
 refine Ok.seq (Ok.region ?_);refine AR.p A9 rfl rfl AA ?_;refine AR.nil ?_;refine Ok.seq (Ok.region ?_);refine EM.start (m:=3) rfl rfl rfl ?_;refine BM (C:=C0) A9 (.prim (.pointer a)) rfl rfl (.prim _) rfl (by decide) ?_;refine BM (C:=C0) A9 (.clo (.func 96) [.prim (.pointer a)] []) rfl rfl (Dk _ _) rfl (by decide) ?_;refine BM (C:=C0) A9 (.agg [i64 (1),.clo (.func 96) [.prim (.pointer a)] []]) rfl (by kernel_rfl) (E2 _ _ _) rfl (by decide) ?_;refine D2 (C:=C0) (k:=9) (e:=131) (z:=.agg #[.int .i64 0,.nilFunc]) DD (by kernel_rfl) rfl rfl rfl (by kernel_rfl) rfl (λ_ _ _ _ h _ _ _=>E2 _ _ _ _ _ _ _ _ _ _ h) ?_;refine BM (C:=C0) A9 (.prim (.pointer a)) rfl rfl (.prim _) rfl (by decide) ?_;refine BM (C:=C0) A9 (.clo (.func 97) [.prim (.pointer a)] []) rfl rfl (Dk _ _) rfl (by decide) ?_;refine BM (C:=C0) A9 (.agg [i64 (1),.clo (.func 97) [.prim (.pointer a)] []]) rfl (by kernel_rfl) (E2 _ _ _) rfl (by decide) ?_;refine D2 (C:=C0) (k:=9) (e:=131) (z:=.agg #[.int .i64 0,.nilFunc]) DD (by kernel_rfl) rfl rfl rfl (by kernel_rfl) rfl (λ_ _ _ _ h _ _ _=>E2 _ _ _ _ _ _ _ _ _ _ h) ?_;refine BM (C:=C0) A9 (.prim (.pointer a)) rfl rfl (.prim _) rfl (by decide) ?_;refine BM (C:=C0) A9 (.clo (.func 98) [.prim (.pointer a)] []) rfl rfl (Dk _ _) rfl (by decide) ?_;refine BM (C:=C0) A9 (.agg [i64 (1),.clo (.func 98) [.prim (.pointer a)] []]) rfl (by kernel_rfl) (E2 _ _ _) rfl (by decide) ?_;refine D2 (C:=C0) (k:=9) (e:=131) (z:=.agg #[.int .i64 0,.nilFunc]) DD (by kernel_rfl) rfl rfl rfl (by kernel_rfl) rfl (λ_ _ _ _ h _ _ _=>E2 _ _ _ _ _ _ _ _ _ _ h) ?_;refine BM (C:=C0) A9 (.prim (.pointer a)) rfl rfl (.prim _) rfl (by decide) ?_;refine BM (C:=C0) A9 (.clo (.func 99) [.prim (.pointer a)] []) rfl rfl (Dk _ _) rfl (by decide) ?_;refine BM (C:=C0) A9 (.agg [i64 (-1),.clo (.func 99) [.prim (.pointer a)] []]) rfl (by kernel_rfl) (E2 _ _ _) rfl (by decide) ?_;refine D2 (C:=C0) (k:=9) (e:=131) (z:=.agg #[.int .i64 0,.nilFunc]) DD (by kernel_rfl) rfl rfl rfl (by kernel_rfl) rfl (λ_ _ _ _ h _ _ _=>E2 _ _ _ _ _ _ _ _ _ _ h) ?_;refine BM (C:=C0) A9 (.prim (.pointer a)) rfl rfl (.prim _) rfl (by decide) ?_;refine BM (C:=C0) A9 (.clo (.func 100) [.prim (.pointer a)] []) rfl rfl (Dk _ _) rfl (by decide) ?_;refine BM (C:=C0) A9 (.agg [i64 (1),.clo (.func 100) [.prim (.pointer a)] []]) rfl (by kernel_rfl) (E2 _ _ _) rfl (by decide) ?_;refine D2 (C:=C0) (k:=9) (e:=131) (z:=.agg #[.int .i64 0,.nilFunc]) DD (by kernel_rfl) rfl rfl rfl (by kernel_rfl) rfl (λ_ _ _ _ h _ _ _=>E2 _ _ _ _ _ _ _ _ _ _ h) ?_;refine BM (C:=C0) A9 (.prim (.pointer a)) rfl rfl (.prim _) rfl (by decide) ?_;refine BM (C:=C0) A9 (.clo (.func 101) [.prim (.pointer a)] []) rfl rfl (Dk _ _) rfl (by decide) ?_;refine BM (C:=C0) A9 (.agg [i64 (0),.clo (.func 101) [.prim (.pointer a)] []]) rfl (by kernel_rfl) (E2 _ _ _) rfl (by decide) ?_;refine D2 (C:=C0) (k:=9) (e:=131) (z:=.agg #[.int .i64 0,.nilFunc]) DD (by kernel_rfl) rfl rfl rfl (by kernel_rfl) rfl (λ_ _ _ _ h _ _ _=>E2 _ _ _ _ _ _ _ _ _ _ h) ?_;refine BM (C:=C0) A9 (.prim (.pointer a)) rfl rfl (.prim _) rfl (by decide) ?_;refine BM (C:=C0) A9 (.clo (.func 102) [.prim (.pointer a)] []) rfl rfl (Dk _ _) rfl (by decide) ?_;refine BM (C:=C0) A9 (.agg [i64 (0),.clo (.func 102) [.prim (.pointer a)] []]) rfl (by kernel_rfl) (E2 _ _ _) rfl (by decide) ?_;refine D2 (C:=C0) (k:=9) (e:=131) (z:=.agg #[.int .i64 0,.nilFunc]) DD (by kernel_rfl) rfl rfl rfl (by kernel_rfl) rfl (λ_ _ _ _ h _ _ _=>E2 _ _ _ _ _ _ _ _ _ _ h) ?_;refine EM.done ?_;refine AR.p A9 rfl rfl AA ?_;refine AR.p A9 rfl rfl AA ?_;refine AR.nil ?_;refine Ok.ret ?_;exact⟨.inr rfl,_,_,rfl,⟨trivial,trivial⟩,_,.refl _,DL (n:=20) (by kernel_rfl),rfl⟩
theorem WD (d:D)(h:Jt d=true):Kk C0 50 [d] (.mp M0 (M1 d)):=
 ⟨d,.mp M0 (M1 .any),4,rfl,rfl,Rv h,λa=>⟨fO a,⟨_,_,Tryz.func50,rfl,by kernel_rfl⟩⟩⟩
theorem V5 (d:D)(h:Jt d=true):Kk C0 48 [d] (.mp GE (GF d)):=
 ⟨d,.mp GE (GF .any),4,rfl,rfl,Rv h,λa=>⟨PC a,⟨_,_,Tryz.func48,rfl,by kernel_rfl⟩⟩⟩
def M4 (f:Nat)(ds:List D):Option D:=match Nat.beq f 48 with
 |true=>match ds with
  | [d]=>match Jt d with
   |true=>some (.mp GE (GF d))
   |false=>none
  |_=>none
 |false=>match Nat.beq f 197 with
  |true=>match ds with
   | [.prim (.string s),.prim (.int .u8 c)]=>some (.prim (.int .i64 (Lib.countByte s.data.toList c.toNat.toUInt8:Nat)))
   |_=>none
  |false=>match Nat.beq f 50 with
   |true=>match ds with
    | [d]=>match Jt d with
     |true=>some (.mp M0 (M1 d))
     |false=>none
    |_=>none
   |false=>LL f ds
theorem R8 (f:Nat)(ds:List D)(d:D)(h:M4 f ds=some d):GX C0 f ds d:=by
 unfold M4 at h;split at h
 ·rename_i hf
  obtain rfl:=Ae hf;split at h<;>try(cases h;done)
  split at h<;>try(cases h;done)
  rename_i hp;cases h;exact .inr (V5 _ hp)
 ·split at h
  ·rename_i hf
   obtain rfl:=Ae hf;split at h<;>try(cases h;done)
   cases h;exact Vq _ _
  split at h
  ·rename_i hf
   obtain rfl:=Ae hf;split at h<;>try(cases h;done)
   split at h<;>try(cases h;done)
   rename_i hp;cases h;exact .inr (WD _ hp)
  ·exact Oj _ _ _ h
def PN:Value->Value->Bool
 | .int .i64 a,.int .i64 b=>a==b
 | .string a,.string b=>a.data.toList==b.data.toList
 | .bool a,.bool b=>a==b
 | .slice none 0 0,.slice none 0 0=>true
 | .pointer none,.pointer none=>true
 | .nilFunc,.nilFunc=>true
 |_,_=>false
theorem WS {a b:Value}(h:PN a b=true):a=b:=by
 unfold PN at h;split at h
 ·rw[eq_of_beq h]
 ·rename_i a b
  have:=eq_of_beq h
  congr 1
  exact ByteArray.ext (Array.toList_inj.1 this)
 ·rw[eq_of_beq h]
 ·rfl
 ·rfl
 ·rfl
 ·cases h
def Gq (f:D->D->Bool):List D->List D->Bool
 | [],[]=>true
 |a::l,b::m=>f a b&&Gq f l m
 |_,_=>false
theorem JR {f:D->D->Bool}(hf:∀a b,f a b=true->a=b):∀ {l m:List D},Gq f l m=true->l=m
 | [],[],_=>rfl
 |a::l,b::m,h=>by
  simp only[Gq,Ag]at h;rw[hf a b h.1,JR hf h.2]
 | [],_::_,h=>by simp[Gq]at h
 |_::_,[],h=>by simp[Gq]at h
def HK:Nat->D->D->Bool
 | 0,_,_=>false
 |n+1,a,b=>match a,b with
  | .prim a,.prim b=>PN a b
  | .agg l,.agg m=>Gq (HK n) l m
  | .sl x y l,.sl x' y' m=>(x==x')&&Nat.beq y y'&&Gq (HK n) l m
  | .pptr a,.pptr b=>HK n a b
  | .mp a b,.mp a' b'=>Gq (HK n) a a'&&Gq (HK n) b b'
  |_,_=>false
theorem JQ:∀(n:Nat) (a b:D),HK n a b=true->a=b
 | 0,_,_,h=>by simp[HK]at h
 |n+1,a,b,h=>by
  unfold HK at h;split at h
  ·rw[WS h]
  ·rw[JR (JQ n) h]
  ·simp only[Ag]at h
   rw[eq_of_beq h.1.1,Ae h.1.2,JR (JQ n) h.2]
  ·rw[JQ n _ _ h]
  ·simp only[Ag]at h
   rw[JR (JQ n) h.1,JR (JQ n) h.2]
  ·cases h
def K3:List (Nat×List D×D)->Nat->List D->Option D
 | [],_,_=>none
 |(g,a,d)::r,f,ds=>match Nat.beq f g&&Gq (HK 30) ds a with
  |true=>some d
  |false=>K3 r f ds
abbrev Im (t:List (Nat×List D×D)):Prop:=∀e∈t,Aa C0 e.1 e.2.1 e.2.2/\AS e.2.1
theorem RA:∀(t:List (Nat×List D×D)),Im t->∀(f:Nat) (ds:List D) (d:D),K3 t f ds=some d->Aa C0 f ds d/\AS ds
 | [],_,f,ds,d,h=>by simp[K3]at h
 |(g,a,d0)::r,ht,f,ds,d,h=>by
  unfold K3 at h;split at h
  ·rename_i hb
   simp only[Ag]at hb;obtain rfl:=Ae hb.1;obtain rfl:=JR (JQ _) hb.2;cases h;exact ht _ DF
  ·exact RA r (λe he=>ht e (Dv _ he)) f ds d h
theorem DY:Im []:=λ_ h=>by cases h
theorem Dj {f:Nat}{ds:List D}{d:D}{t:List (Nat×List D×D)}(h:Aa C0 f ds d)(hp:AS ds)(ht:Im t):Im ((f,ds,d)::t):=λe he=>by
 rcases Ah.1 he with rfl|he
 ·exact⟨h,hp⟩
 ·exact ht e he
theorem Dl {ds:List D}(h:D0 (Dn 30) ds=true):AS ds:=⟨λx hx=>DL (Dy h x hx)⟩
def Pc (t:List (Nat×List D×D))(f:Nat)(ds:List D):Option D:=match Nat.beq f 33 with
 |true=>match ds with
  | [.prim (.string s)]=>some (Ai (Dm s.data.toList))
  |_=>none
 |false=>match Nat.beq f 95 with
  |true=>match ds with
   | [.prim (.int .i64 n)]=>match decide (-9223372036854775808<=n)&&decide (n<=9223372036854775807)with
    |true=>some (str ⟨(Lib.itoa n).toArray⟩)
    |false=>none
   |_=>none
  |false=>match Nat.beq f 105 with
   |true=>match ds with
    | [.prim (.string s)]=>match Nat.ble s.size 18 with
     |true=>match Lib.atoi s.data.toList with
      |some n=>some (.tup [i64 n,.prim .nilIface])
      |none=>none
     |false=>none
    |_=>none
   |false=>K3 t f ds
theorem Xo {t:List (Nat×List D×D)}(ht:Im t)(f:Nat)(ds:List D)(d:D)(h:Pc t f ds=some d):Aa C0 f ds d/\AS ds:=by
 unfold Pc at h;split at h
 ·rename_i hf
  obtain rfl:=Ae hf;split at h<;>try(cases h;done)
  cases h;exact⟨Qb _,An⟩
 split at h
 ·rename_i hf
  obtain rfl:=Ae hf;split at h<;>try(cases h;done)
  split at h<;>try(cases h;done)
  rename_i hb;simp only[Ag,FE]at hb;cases h;exact⟨Kp _ hb.1 hb.2,An⟩
 split at h
 ·rename_i hf
  obtain rfl:=Ae hf;split at h<;>try(cases h;done)
  split at h<;>try(cases h;done)
  rename_i hb;split at h<;>try(cases h;done)
  rename_i ha;cases h;exact⟨Rq _ _ (BD hb) ha,An⟩
 ·exact RA t ht _ _ _ h
def ga:AL:=⟨.arr 256 1 false,256,256,true,.agg (Array.replicate 256 (.bool false))⟩
noncomputable def Ng (t:Nat):Option AL:=match Nat.beq t 220 with
 |true=>some ga
 |false=>KE.get t
theorem T6:A7 C0.P Ng:=λt i h=>by
 unfold Ng at h;split at h
 ·rename_i ht
  obtain rfl:=Ae ht;cases h
  kernel_rfl
 ·exact A9 t i h
noncomputable def jA (l:List Nat)(f:Nat):Bool:=M3 f l
def Dg:List Nat:=[83,269,4000000+53,4000000+54,4000000+55,4000000+56,7000000+273,7000000+310,7000000+136,7000000+347]
def Ox:List Nat:=213::274::310::212::Dg
def d7:List Nat:=333::(6000000+333)::343::347::311::Dg
noncomputable def XT (l:List Nat)(t:List (Nat×List D×D)):EV:=⟨Ng,I8.get,J6.get,jA l,Pc t,λ_ _=>none,M4⟩
theorem Da (l:List Nat){t:List (Nat×List D×D)}(ht:Im t):CN C0 (XT l t):=⟨T6,DD,HL,Xo ht,by kernel_rfl,λ_ _ _ h=>by simp[XT]at h,R8⟩
set_option maxHeartbeats 2000000
def FU (K g sz:Nat):List D->D
 | []=>BA
 |_::l=>.osl K g sz 0 (l.length+1)
def FV (K g T sz:Nat):List D->Hp
 | []=>[]
 |x::l=>[⟨K,g,T,sz,x::l⟩]
theorem DS (K g sz:Nat):FU K g sz []=BA:=rfl
theorem C4 (K g sz:Nat)(x:D)(l:List D):FU K g sz (x::l)=.osl K g sz 0 (l.length+1):=rfl
theorem DT (K g T sz:Nat):FV K g T sz []=[]:=rfl
theorem C5 (K g T sz:Nat)(x:D)(l:List D):FV K g T sz (x::l)=[⟨K,g,T,sz,x::l⟩]:=rfl
theorem JF (K g sz:Nat)(x y:D)(l:List D):FU K g sz (x::l++[y])=.osl K g sz 0 (l.length+1+1):=by simp[FU]
theorem wS {n:Nat}(h:n<9223372036854775807):IntKind.i64.wrap ((n:Int)+1)=((n+1:Nat):Int):=wI
theorem Fk (K g T sz:Nat)(l:List D)(H:Hp):Fz (⟨K,g,T,sz,l⟩::H) [] (.osl K g sz 0 l.length) (.sl false sz l):=by
 refine .osl (e:=⟨K,g,T,sz,l⟩) (by simp[Hp.get]) rfl rfl rfl (by simp) rfl (λj d d' h1 h2=>?_) λj d d' q c c' h1 h2 h3 h4=>?_
 ·rw[B5]at h1;rw[h1]at h2;cases h2;rfl
 ·rw[B5]at h1;rw[h1]at h2;cases h2;rw[h3]at h4;cases h4;exact Fz.refl _
theorem B7 {H Hf:Hp}{a a' b b':D}(h1:Fz H Hf a a')(h2:Fz H Hf b b'):Fz H Hf (.tup [a,b]) (.tup [a',b']):=.tup rfl λi d d' hd hd'=>by
 match i with
 | 0=>simp at hd hd';subst hd;subst hd';exact h1
 | 1=>simp at hd hd';subst hd;subst hd';exact h2
 |n+2=>simp at hd
section
variable {C:AZ} {X:EV} {B F:AI} {rd:Option Nat} {s:St} {Q:Exit->AI->St->Prop}
theorem Pi {a b:Code}{α:Type}(S:α->St)(J:α->Prop)(h1:AO C B rd F a s (λe F1 s1=>G9 (F1=F/\∃x,J x/\Wk s1 (S x)) (λe=>Q e F1 s1) e))(h2:∀x,J x->AO C B rd F b (S x) Q):AO C B rd F (.seq a b) s Q:=
 AO.seq (h1.mono λe F1 s1 h=>by
  cases e with
  |normal=>
   obtain⟨h0,x,hx,h3⟩:=(show F1=F/\∃x,J x/\Wk s1 (S x)from h)
   rw[h0];exact AO.weak (S x) h3 (h2 x hx)
  |ret=>exact h
  |exit j=>exact h
  |goto l=>exact h
  |panic c=>exact h
  |outgrown=>exact h)
end
theorem OQ {tt:Nat->Option AL}{xt:Nat->Option XI}{g:Operand->D}{t:Nat}{x ix:Operand}{ok:Bool}{K V:List D}{a b:Nat}{z:Value}{s:ByteArray}{d:D}(h1:xt t=some (.map a b z))(h2:g x=.mp K V)(h3:g ix=.prim (.string s))
  (h4:EX s K V=some (some d)):Dw tt xt g (.lookup t x ix ok)=some (Dh ok d true,True):=by simp only[Dw,h1,h2,h3,h4]
theorem Qs {tt:Nat->Option AL}{xt:Nat->Option XI}{g:Operand->D}{t:Nat}{x ix:Operand}{ok:Bool}{K V:List D}{a b:Nat}{z:Value}{s:ByteArray}(h1:xt t=some (.map a b z))(h2:g x=.mp K V)(h3:g ix=.prim (.string s))
  (h4:EX s K V=some none):Dw tt xt g (.lookup t x ix ok)=some (Dh ok (ofV z) false,True):=by simp only[Dw,h1,h2,h3,h4]
theorem K1 {X:EV}{g:Operand->D}{op:Op}{acc:Prop}{k:Prop->D->Option AK->Prop}{d:D}{p:Prop}(h:Dw X.tt X.xt g op=some (d,p))(hk:k (p/\acc) d none):F6 X g op acc k:=by
 unfold F6;rw[h];exact hk
abbrev sb (l:List UInt8):ByteArray:=⟨l.toArray⟩
theorem Bl (l:List UInt8):(sb l).size=l.length:=by simp[ByteArray.size]
theorem GD (l:List UInt8)(i j:Nat):(sb l).extract i j=sb ((l.take j).drop i):=by
 apply ByteArray.ext;rw[ByteArray.data_extract];simp[List.drop_take]
theorem SD (l:List UInt8):(sb l).toList=l:=by
 rw[ByteArray.toList_eq]
theorem Ce (l m:List UInt8):BL (sb l) (sb m)=decide (l=m):=by
 unfold BL;rw[SD,SD,I1,Fd,decide_eq_true_iff]
def Bb (c:UInt8):Bool:=Nat.ble 48 c.toNat&&Nat.ble c.toNat 57
def FS:D:=.agg ((List.range 256).map λi=>Ai (Nat.ble 48 i&&Nat.ble i 57))
abbrev Nf:List UInt8:=[48,49,50,51,52,53,54,55,56,57]
noncomputable def X4:EV:=⟨Ng,I8.get,J6.get,λ_=>false,λ_ _=>none,λ_ _=>none,LL⟩
theorem PU:CN C0 X4:=⟨T6,DD,HL,λ_ _ _ h=>by simp[X4]at h,by kernel_rfl,λ_ _ _ h=>by simp[X4]at h,Oj⟩
theorem w4:Cb C0 X4:=PU.w
theorem VH:Aa C0 155 [str (sb Nf)] (.tup [FS,Ai true]):=Fy PU 1000 40
def Pd (o:Option D)(b:Bool):Bool:=match o with
 |some (.prim (.bool c))=>c==b
 |_=>false
theorem Vu {o:Option D}{b:Bool}(h:Pd o b=true):o=some (Ai b):=by
 unfold Pd at h;split at h
 ·rw[Fd]at h;subst h;rfl
 ·cases h
theorem Uj:((List.range 256).all λc=>Pd ((FF X4 1000 40).1 230 [.pptr FS,.prim (.int .u8 (c:Nat))]) (Nat.ble 48 c&&Nat.ble c 57))=true:=by kernel_rfl
theorem QE (c:UInt8):Aa C0 230 [.pptr FS,.prim (.int .u8 (c.toNat:Nat))] (Ai (Bb c)):=by
 refine UL PU 1000 40 ?_;have h:=CF.1 Uj c.toNat (List.mem_range.2 c.toNat_lt);exact Vu h
instance:Aj FS:=⟨λc hc=>by
 change c∈(List.range 256).map (λi=>Ai (Nat.ble 48 i&&Nat.ble i 57))at hc;obtain⟨i,_,rfl⟩:=Bw.1 hc;exact .prim _⟩
def EY (l:List UInt8):List UInt8:=(l.reverse.dropWhile Bb).reverse
theorem VR (m:List UInt8)(c:UInt8):EY (m++[c])=if Bb c then EY m else m++[c]:=by
 unfold EY;rw[List.reverse_append,List.reverse_singleton,List.singleton_append,J2];split
 ·rfl
 ·rw[List.reverse_cons,List.reverse_reverse]
theorem Ws (l:List UInt8):((EY l).dropWhile Bb=[])↔l.all Bb=true:=by
 constructor
 ·intro h
  have h1:∀m:List UInt8,m.dropWhile Bb=[]->m.all Bb=true:=λm=>by
   induction m with
   |nil=>intro _;rfl
   |cons c m ih=>
    intro hm;rw[J2]at hm;split at hm
    ·rename_i hc
     rw[Db,hc,ih hm];rfl
    ·cases hm
  have h2:(l.reverse.dropWhile Bb).all Bb=true:=by
   have:=h1 _ h
   unfold EY at this
   rwa [List.all_reverse]at this
  have h3:∀m:List UInt8,(m.dropWhile Bb).all Bb=true->m.all Bb=true:=λm=>by
   induction m with
   |nil=>intro _;rfl
   |cons c m ih=>
    intro hm;rw[J2]at hm;split at hm
    ·rename_i hc
     rw[Db,hc,ih hm];rfl
    ·exact hm
  have:=h3 _ h2
  rwa [List.all_reverse]at this
 ·intro h
  have h1:∀m:List UInt8,m.all Bb=true->m.dropWhile Bb=[]:=λm=>by
   induction m with
   |nil=>intro _;rfl
   |cons c m ih=>
    intro hm;rw[Db,Ag]at hm;rw[J2,AM hm.1];exact ih hm.2
  have hx:=h1 l.reverse (by rw[List.all_reverse];exact h);unfold EY;rw[hx];rfl
theorem VA (l:List UInt8)(hl:l.length<=1000000000):Aa C0 156 [str (sb l),.pptr FS] (str (sb (l.dropWhile Bb))):=by
 refine Ax.walk w1 Sg rfl λF=>?_
 have hps:Aj FS:=An;have hcc:=QE;generalize FS=sd at*;refine sR 0 ?_;refine AO.seq ?_;refine AO.block ?_;refine AO.loop (α:=List UInt8×Nat) (λp=>⟨[(0,str (sb p.1)),(1,.pptr sd)],[],p.2⟩) (λp=>p.1.length) (λp=>p.1.dropWhile Bb=l.dropWhile Bb/\p.1.length<=l.length) (l,_) ⟨rfl,Ad _⟩ Al ?_;rintro⟨m,n⟩ F ⟨h1,h2⟩;dsimp only at h1 h2⊢;refine AO.seq ?_;refine AO.seq ?_;cases m with
 |nil=>
  have e1:decide (((sb []).size:Int)>0)=false:=rfl;refine DJ 100 ?_;refine EK e1 ?_;refine Cy ?_;refine IA ?_;refine sR 400 ?_;refine FH ?_;exact Ac (by rw[<-h1];rfl) AB.out
 |cons c m=>
  have hsz:=Bl (c::m);have e1:decide (((sb (c::m)).size:Int)>0)=true:=BW (by rw[hsz,CD];omega);have hx:(((sb (c::m)).data.toList.getD ((0:Int)).toNat 0).toNat:Int)=(c.toNat:Int):=rfl;have b1:(0:Int)<((sb (c::m)).size:Int):=by rw[hsz,CD];omega
  have b2:(1:Int)<=((sb (c::m)).size:Int):=by omega
  have e3:(sb (c::m)).extract ((1:Int)).toNat (sb (c::m)).size=sb m:=by
   rw[GD,hsz,C3 (Ad _)];rfl
  have cc:=hcc c;refine DJ 100 ?_;refine EK e1 ?_;refine Cy ?_;refine Fh ?_;refine AO.block ?_;refine AO.seq ?_;refine sZ 200 ?_;refine EK hx ?_;refine cI cc ?_;rcases hb:Bb c with _|_
  ·refine Cy ?_
   refine IA ?_;refine sR 400 ?_;refine FH ?_;refine Ac ?_ AB.out;rw[<-h1,J2,AN (by rw[hb];simp)]
  ·refine Cy ?_
   refine Fh ?_;refine DJ 300 ?_;refine EK e3 ?_;refine⟨(m,_),⟨?_,?_⟩,?_,Al⟩
   ·rw[<-h1,J2,AM hb]
   ·rw[CD]at h2;dsimp only;omega
   ·show m.length<m.length+1;omega
theorem Uw (l:List UInt8)(hl:l.length<=1000000000):Aa C0 157 [str (sb l),.pptr FS] (str (sb (EY l))):=by
 refine Ax.walk w1 Sh rfl λF=>?_
 have hps:Aj FS:=An;have hcc:=QE;generalize FS=sd at*;refine sR 0 ?_;refine AO.seq ?_;refine AO.block ?_;refine AO.loop (α:=List UInt8×Nat) (λp=>⟨[(0,str (sb p.1)),(1,.pptr sd)],[],p.2⟩) (λp=>p.1.length) (λp=>EY p.1=EY l/\p.1.length<=l.length) (l,_) ⟨rfl,Ad _⟩ Al ?_;rintro⟨m,n⟩ F ⟨h1,h2⟩;dsimp only at h1 h2⊢;refine AO.seq ?_;refine AO.seq ?_;rcases List.eq_nil_or_concat m with rfl|⟨m,c,rfl⟩
 ·have e1:decide (((sb []).size:Int)>0)=false:=rfl
  refine DJ 100 ?_;refine EK e1 ?_;refine Cy ?_;refine IA ?_;refine sR 400 ?_;refine FH ?_;exact Ac (by rw[<-h1];rfl) AB.out
 ·rw[List.concat_eq_append]at h1 h2⊢
  have hsz:=Bl (m++[c]);rw[B9,HI]at hsz h2;have e1:decide (((sb (m++[c])).size:Int)>0)=true:=BW (by rw[hsz];omega);have wk1:IntKind.i64.wrap (((sb (m++[c])).size:Int)-1)=(m.length:Int):=by rw[hsz,wI];omega
  have hx:(((sb (m++[c])).data.toList.getD (((m.length:Nat):Int)).toNat 0).toNat:Int)=(c.toNat:Int):=by
   show(((m++[c]).getD m.length 0).toNat:Int)=_;simp
  have b1:((m.length:Nat):Int)<((sb (m++[c])).size:Int):=by rw[hsz];omega
  have e3:(sb (m++[c])).extract 0 (((m.length:Nat):Int)).toNat=sb m:=by
   rw[GD];simp
  have cc:=hcc c;have ht:=VR m c;refine DJ 100 ?_;refine EK e1 ?_;refine Cy ?_;refine Fh ?_;refine AO.block ?_;refine AO.seq ?_;refine sZ 200 ?_;refine EK (BJ wk1 hx) ?_;refine cI cc ?_;rcases hb:Bb c with _|_
  ·rw[AN (by rw[hb];simp)]at ht
   refine Cy ?_;refine IA ?_;refine sR 400 ?_;refine FH ?_;exact Ac (by rw[<-h1,ht]) AB.out
  ·rw[AM hb]at ht
   refine Cy ?_;refine Fh ?_;refine DJ 300 ?_;refine EK (BJ wk1 e3) ?_;refine⟨(m,_),⟨by rw[<-h1,ht],by dsimp only;omega⟩,?_,Al⟩;dsimp only;rw[B9,HI];omega
namespace TrimW
theorem w1:Cb C0 X4:=w4
theorem trim_ok (l:List UInt8)(hl:l.length<=1000000000):Aa C0 104 [str (sb l),str (sb Nf)] (str (sb ((EY l).dropWhile Bb))):=by
 refine Ax.walk w1 SR rfl λF=>?_
 have cm:=VH;have c1:=Uw l hl;have hlr:(EY l).length<=1000000000:=by
  unfold EY;rw[List.length_reverse];exact Az (List.dropWhile_sublist _).length_le (by rw[List.length_reverse];exact hl)
 have c2:=VA (EY l) hlr;have hps:Aj FS:=An;have eS:=Ce l [];have e2:(((sb Nf).size:Int)==1)=false:=rfl;have e4:BL (sb Nf) (sb [])=false:=by rw[Ce];exact B4 (by simp)
 have hfit:Cv true 256 FS:=by
  have h:((List.range 256).map λi=>Ai (Nat.ble 48 i&&Nat.ble i 57)).length=256:=by rw[BP,List.length_range]
  have:=Cv.agg (ds:=(List.range 256).map λi=>Ai (Nat.ble 48 i&&Nat.ble i 57))
  rw[h]at this;exact this
 refine sR 0 ?_
 by_cases h0:l=[]
 ·subst h0
  have eS':BL (sb []) (sb [])=true:=by rw[Ce];exact BW rfl
  refine AO.seq ?_;refine sZ 100 ?_;refine EK eS' ?_;refine Ca (BJ eS' kT) ?_;refine Cy ?_;refine sR 200 ?_;refine FH ?_;exact Ac rfl AB.out
 ·rw[B4 h0]at eS
  refine AO.seq ?_;refine sZ 100 ?_;refine EK eS ?_;refine Ca (CK eS e4 kF) ?_;refine Ca (CK eS e4 kF) ?_;refine Cy ?_;refine Fh ?_;refine AO.seq ?_;refine sZ 300 ?_;refine EK e2 ?_;refine Ca e2 ?_;refine Ca e2 ?_;refine Cy ?_;refine Fh ?_;refine AO.seq ?_;refine sR 500 ?_;refine CE.same _ cm An ?_;refine BC ?_;generalize FS=sd at*
  repeat(refine DV rfl rfl ?_;refine GZ (λ_ _=>rfl) ?_)
  refine KU (DG (by repeat'(first|exact hfit|refine DG ?_ ?_|exact Bz)) ?_);refine BC ?_;refine sR 600 ?_;refine Cy ?_;refine sR 700 ?_;refine CE.own _ (UN c1 rfl ?_ An (Cw.prim _)) ?_
  ·intro i x y hx hy
   match i with
   | 0=>simp at hx hy;subst hx;subst hy;exact Gu.refl _ _
   | 1=>simp at hx hy;subst hx;subst hy;exact Gu.ptr rfl rfl rfl rfl
   |i+2=>simp at hx
  rintro d H' n' ⟨rfl,rfl,rfl⟩;refine F5 ?_;refine CE.own _ (UN c2 rfl ?_ An (Cw.prim _)) ?_
  ·intro i x y hx hy
   match i with
   | 0=>simp at hx hy;subst hx;subst hy;exact Gu.refl _ _
   | 1=>simp at hx hy;subst hx;subst hy;exact Gu.ptr rfl rfl rfl rfl
   |i+2=>simp at hx
  rintro d H' n' ⟨rfl,rfl,rfl⟩;refine F5 ?_;refine FH ?_;exact Ac rfl AB.out
end TrimW
def Ff (a:Nat)(l:List UInt8):Nat:=l.foldl (λa c=>a*10+(c.toNat-48)) a
def dv (l:List UInt8):Nat:=Ff 0 l
theorem SJ (l:List UInt8):∀a,Ff a l=a*10^l.length+dv l:=by
 induction l with
 |nil=>intro a;simp[Ff,dv]
 |cons c l ih=>
  intro a;have h1:∀b,Ff b (c::l)=Ff (b*10+(c.toNat-48)) l:=λb=>rfl
  have h2:dv (c::l)=Ff (0*10+(c.toNat-48)) l:=rfl;rw[h1,h2,ih,ih (0*10+(c.toNat-48)),CD,Nat.pow_succ];rw[Ba,GQ,B5,Nat.mul_assoc,J0 10];omega
theorem Qp (l m:List UInt8):dv (l++m)=dv l*10^m.length+dv m:=by
 have:dv (l++m)=Ff (dv l) m:=by unfold dv Ff;rw[List.foldl_append]
 rw[this,SJ]
theorem Up (l:List UInt8):∀a,l.all Bb=true->Lib.decFrom a l=some (Ff a l):=by
 induction l with
 |nil=>intro a _;rfl
 |cons c l ih=>
  intro a h;rw[Db,Ag]at h;have hd:Lib.digitVal c=some (c.toNat-48):=by
   have h1:=h.1;unfold Bb at h1;rw[Ag]at h1;unfold Lib.digitVal;rw[AM ⟨BD h1.1,BD h1.2⟩]
  rw[Lib.decFrom,hd];exact ih _ h.2
theorem IL {c:UInt8}(h:Bb c=true):48<=c.toNat/\c.toNat<=57:=by
 unfold Bb at h;rw[Ag]at h;exact⟨BD h.1,BD h.2⟩
theorem WE {l:List UInt8}(h0:l≠[])(h:l.all Bb=true):Lib.atoi l=some (dv l:Int):=by
 cases l with
 |nil=>exact AW rfl h0
 |cons c l=>
  have hc:Bb c=true:=by rw[Db,Ag]at h;exact h.1
  obtain⟨c1,c2⟩:=IL hc;have e1:(c==45)=false:=by
   rw[Bi];intro hh;subst hh;simp at c1
  have e2:(c==43)=false:=by
   rw[Bi];intro hh;subst hh;simp at c1
  unfold Lib.atoi;dsimp only;rw[e1,e2];simp only[LS,if_false];unfold Lib.decNat;simp only[List.isEmpty_cons,LS,if_false];rw[Up _ _ h];rfl
theorem d3 (l:List UInt8)(h:l.all Bb=true):dv l<10^l.length:=by
 induction l with
 |nil=>decide
 |cons c l ih=>
  rw[Db,Ag]at h;have h1:dv (c::l)=Ff (0*10+(c.toNat-48)) l:=rfl;have h2:=ih h.2;obtain⟨c1,c2⟩:=IL h.1;rw[h1,SJ,GQ,B5,CD,Nat.pow_succ,J0 _ 10];have h3:(c.toNat-48)*10^l.length<=9*10^l.length:=Br _ (by omega);omega
abbrev JK:Dr:=[(4,[0,1,2,3],[4])]
open Go.Proofs Go.RowKit
set_option maxRecDepth 20000
set_option maxHeartbeats 2000000
def BH (l:List UInt8):Bool:=(decide (1<=l.length)&&decide (l.length<=9))&&l.all Bb && !(decide (2<=l.length)&&(l.headD 0==48))
def Bg (l:List UInt8):Nat:=if BH l then dv l else 0
theorem KY (l:List UInt8)(hl:l.length<=1000000):Aa C0 52 [str (sb l)] (.tup [i64 (Bg l:Nat),Ai (BH l)]):=by
 refine Ax.walk w1 TQ rfl λF=>?_
 have ct:=TrimW.trim_ok l (by omega);have hsz:=Bl l;have eS:=Ce l [];have eT:BL (sb ((EY l).dropWhile Bb)) (sb [])=decide (l.all Bb=true):=by
  rw[Ce,I1,decide_eq_true_iff,decide_eq_true_iff];exact Ws l
 have e2:BL (sb l) (sb [48])=decide (l=[48]):=Ce l [48];have hch:(((sb l).data.toList.getD ((0:Int)).toNat 0).toNat:Int)=((l.headD 0).toNat:Int):=by
  show((l.getD 0 0).toNat:Int)=_;cases l<;>rfl
 rcases Aq 9 l.length with h9|h9
 ·have hne:l≠[]:=λh=>by subst h;simp at h9
  have e9:decide (((sb l).size:Int)>9)=true:=BW (by rw[hsz];omega);rw[B4 hne]at eS;have hI:BH l=false:=by unfold BH;rw[B4 (show ¬l.length<=9 by omega)];simp
  refine AJ JK (BJ eS e9) AA AA AA AA AA AA ?_;refine Ac ?_ AB.out;unfold Bg;rw[hI];rfl
 have e9:decide (((sb l).size:Int)>9)=false:=B4 (by rw[hsz];omega)
 by_cases h0:l=[]
 ·subst h0
  rw[BW rfl]at eS;refine AJ JK (BJ eS e9) AA AA AA AA AA AA ?_;exact Ac rfl AB.out
 rw[B4 h0]at eS;have hl1:1<=l.length:=by cases l<;>simp at h0⊢
 cases hall:l.all Bb with
 |false=>
  rw[hall]at eT;have eT':BL (sb ((EY l).dropWhile Bb)) (sb [])=false:=eT;have hI:BH l=false:=by unfold BH;rw[hall];simp
  refine AJ JK (CK eS e9 eT') ct AA AA AA AA AA ?_;refine Ac ?_ AB.out;unfold Bg;rw[hI];rfl
 |true=>
  rw[hall]at eT;have eT':BL (sb ((EY l).dropWhile Bb)) (sb [])=true:=eT;have cA:=Rq (sb l) (dv l) (by rw[hsz];omega) (WE h0 hall);have hb0:((0:Int))<((sb l).size:Int):=by rw[hsz];omega
  cases hz:l.headD 0==48 with
  |false=>
   have hch2:((((l.headD 0).toNat:Int))==48)=false:=by
    rw[Bi]at hz⊢;intro h;apply hz
    have:(l.headD 0).toNat=48:=by omega
    exact UInt8.toNat_inj.1 this
   have hI:BH l=true:=by
    unfold BH;rw[hall,hz,BW hl1,BW h9];simp
   refine AJ JK (CW eS e9 eT' hch hch2) ct cA AA AA AA AA ?_;refine Ac ?_ AB.out;unfold Bg;rw[hI];rfl
  |true=>
   have hch2:((((l.headD 0).toNat:Int))==48)=true:=by
    rw[Fd]at hz⊢;rw[hz];rfl
   by_cases h1:l=[48]
   ·rw[BW h1]at e2
    have hI:BH l=true:=by rw[h1];rfl
    refine AJ JK (D7 eS e9 eT' hch hch2 e2) ct cA AA AA AA AA ?_;refine Ac ?_ AB.out;unfold Bg;rw[hI];rfl
   ·rw[B4 h1]at e2
    have hI:BH l=false:=by
     have:2<=l.length:=by
      rcases l with _|⟨a,_|⟨b,t⟩⟩
      ·simp at hl1
      ·simp at hz;subst hz;exact AW rfl h1
      ·simp
     unfold BH;rw[hz,BW this];simp
    refine AJ JK (D7 eS e9 eT' hch hch2 e2) ct AA AA AA AA AA ?_;refine Ac ?_ AB.out;unfold Bg;rw[hI];rfl
def Ar (c:UInt8)(l:List UInt8):Nat:=(l.takeWhile (· != c)).length
theorem cu (c:UInt8)(l:List UInt8):Ar c l<=l.length:=by
 unfold Ar;exact(List.takeWhile_sublist _).length_le
theorem JI (c b:UInt8)(l:List UInt8):Ar c (b::l)=if b=c then 0 else Ar c l+1:=by
 unfold Ar;rw[NJ]
 by_cases h:b=c
 ·rw[AN (by simpa using h),AM h];rfl
 ·rw[AM (by simpa using h),AN h,CD]
def E8 (c:UInt8)(l:List UInt8):Int:=if Ar c l<l.length then(Ar c l:Int)else -1
theorem Uu (c:UInt8)(l:List UInt8):Lib.indexByte l c=E8 c l:=by
 unfold E8
 induction l with
 |nil=>rfl
 |cons b l ih=>
  unfold Lib.indexByte;rw[JI,CD]
  by_cases h:b=c
  ·subst h
   simp
  ·have hb:(b==c)=false:=by simpa using h
   rw[hb,ih,AN h]
   by_cases h2:Ar c l<l.length
   ·have h3:Ar c l+1<l.length+1:=by omega
    have h4:(((Ar c l:Nat):Int) == -1)=false:=Bi.2 (by omega);simp only[h2,h3,h4,if_true,LS,if_false];omega
   ·have h3:¬Ar c l+1<l.length+1:=by omega
    simp only[h2,h3,LS,if_false];rfl
theorem VE (c:UInt8)(l:List UInt8):Aa C0 149 [str (sb l),.prim (.int .u8 (c.toNat:Nat))] (i64 (E8 c l)):=by
 refine Ax.walk w1 Sf rfl λF=>?_
 have e1:firstIdx (sb l) ((((c.toNat:Nat):Int)).toNat.toUInt8)=E8 c l:=by
  rw[Lib.firstIdx_eq,H6,show c.toNat.toUInt8=c from UInt8.ofNat_toNat];exact Uu c l
 generalize E8 c l=r at*;refine sR 0 ?_;refine sZ 100 ?_;refine EK e1 ?_;refine FH ?_;exact Ac rfl AB.out
theorem Sp (c:UInt8)(l:List UInt8):Aa C0 103 [str (sb l),str (sb [c])] (i64 (E8 c l)):=by
 refine Ax.walk w1 SQ rfl λF=>?_
 have c1:=VE c l;have eS:=Ce [c] l;have hr:[c]=l->E8 c l=0:=λh=>by subst h;unfold E8;rw[JI];simp
 generalize E8 c l=r at*;have e0:(((sb [c]).size:Int)==0)=false:=rfl;have e1:(((sb [c]).size:Int)==1)=true:=rfl;have hs1:(0:Int)<((sb [c]).size:Int):=Int.one_pos;have hx:(((sb [c]).data.toList.getD ((0:Int)).toNat 0).toNat:Int)=(c.toNat:Int):=rfl
 by_cases h:[c]=l
 ·rw[BW h]at eS
  have hr:=hr h;subst hr;refine AJ AU (CK e0 kF eS) AA AA AA AA AA AA ?_;exact Ac rfl AB.out
 ·rw[B4 h]at eS
  refine AJ AU (CW e0 kF eS e1 hx) c1 AA AA AA AA AA ?_;exact Ac rfl AB.out
theorem Uf (c:UInt8)(l:List UInt8):Aa C0 85 [str (sb l),str (sb [c])] (i64 (E8 c l)):=by
 refine Ax.walk w1 TZ rfl λF=>?_
 have c1:=Sp c l;generalize E8 c l=r at*;refine AJ AU kB c1 AA AA AA AA AA ?_;exact Ac rfl AB.out
noncomputable def X5:EV:=⟨KE.get,I8.get,J6.get,λ_=>false,λ_ _=>none,λ_ _=>none,M4⟩
theorem gi:CN C0 X5:=⟨A9,DD,HL,λ_ _ _ h=>by simp[X5]at h,by kernel_rfl,λ_ _ _ h=>by simp[X5]at h,R8⟩
theorem w5:Cb C0 X5:=gi.w
namespace CntW
theorem w1:Cb C0 X5:=w5
theorem countC (c:UInt8)(l:List UInt8):Aa C0 130 [str (sb l),str (sb [c])] (i64 (l.count c:Nat)):=by
 refine Ax.walk w1 Se rfl λF=>?_
 have e0:(((sb [c]).size:Int)==0)=false:=rfl;have e1:(((sb [c]).size:Int)==1)=true:=rfl;have hs1:(0:Int)<((sb [c]).size:Int):=Int.one_pos;have hx:(((sb [c]).data.toList.getD ((0:Int)).toNat 0).toNat:Int)=(c.toNat:Int):=rfl;have hn:Lib.countByte l (((c.toNat:Nat):Int)).toNat.toUInt8=l.count c:=by
  rw[H6,show c.toNat.toUInt8=c from UInt8.ofNat_toNat];rfl
 generalize l.count c=r at*;refine AJ AU (CK e0 e1 hx) AA AA AA AA AA AA ?_;exact Ac (by rw[<-hn]) AB.out
end CntW
def A8 (c:UInt8):List UInt8->List (List UInt8)
 | []=>[[]]
 |b::l=>if b=c then[]::A8 c l else match A8 c l with
  |w::ws=>(b::w)::ws
  | []=>[[b]]
theorem KS (c:UInt8):∀l:List UInt8,A8 c l≠[]
 | []=>by simp[A8]
 |b::l=>by
  unfold A8;split
  ·simp
  ·split<;>simp
theorem JH (c b:UInt8)(l:List UInt8):A8 c (b::l)=if b=c then[]::A8 c l else match A8 c l with
  |w::ws=>(b::w)::ws
  | []=>[[b]]:=rfl
theorem Nx (c:UInt8):∀l:List UInt8,Ar c l<l.length->A8 c l=l.take (Ar c l)::A8 c (l.drop (Ar c l+1))
 | [],h=>by simp at h
 |b::l,h=>by
  rw[JI]at h⊢;rw[JH]
  by_cases hb:b=c
  ·rw[AM hb,AM hb];rfl
  ·rw[AN hb,AN hb]
   rw[AN hb,CD]at h;rw[Nx c l (by omega)];rfl
theorem Lj (c:UInt8):∀l:List UInt8,l.count c=0->A8 c l=[l]
 | [],_=>rfl
 |b::l,h=>by
  have hb:b≠c:=λe=>by subst e;simp at h
  rw[List.count_cons_of_ne hb]at h;unfold A8;rw[AN hb,Lj c l h]
theorem PA (c:UInt8):∀l:List UInt8,0<l.count c->Ar c l<l.length
 | [],h=>by simp at h
 |b::l,h=>by
  rw[JI,CD]
  by_cases hb:b=c
  ·rw[AM hb];omega
  ·rw[AN hb]
   rw[List.count_cons_of_ne hb]at h
   have:=PA c l h
   omega
theorem QB (c:UInt8):∀l:List UInt8,Ar c l<l.length->l.count c=(l.drop (Ar c l+1)).count c+1
 | [],h=>by simp at h
 |b::l,h=>by
  rw[JI,CD]at h;rw[JI]
  by_cases hb:b=c
  ·subst hb;simp
  ·rw[AN hb]at h⊢
   rw[List.count_cons_of_ne hb,List.drop_succ_cons];exact QB c l (by omega)
theorem GW (c:UInt8):∀l:List UInt8,(A8 c l).length=l.count c+1
 | []=>rfl
 |b::l=>by
  unfold A8
  by_cases hb:b=c
  ·rw[AM hb,CD,GW c l,hb,List.count_cons_self]
  ·rw[AN hb,List.count_cons_of_ne hb,<-GW c l]
   have:=KS c l
   split
   ·rename_i w ws h;rw[h];rfl
   ·rename_i h;exact AW h this
abbrev AH (l:List UInt8):D:=str (sb l)
theorem Uq (c:UInt8)(l:List UInt8)(hl:l.length<=100000):Aa C0 84 [str (sb l),str (sb [c]),i64 0,i64 (-1)] (.sl false 1 ((A8 c l).map AH)):=by
 refine Ax.walk w1 TY rfl λF=>?_
 have cC:=CntW.countC c l;have hcl:l.count c<=l.length:=List.count_le_length;have hsz:=Bl l;have eS:BL (sb [c]) (sb [])=false:=by rw[Ce];simp
 have w1':IntKind.i64.wrap (((l.count c:Nat):Int)+1)=((l.count c+1:Nat):Int):=by rw[wI];omega
 have w2':IntKind.i64.wrap (((sb l).size:Int)+1)=((l.length+1:Nat):Int):=by rw[hsz,wI];omega
 have f1:((-1:Int)==0)=false:=rfl;have f2:decide ((-1:Int)<0)=true:=rfl;have w3':min (((l.count c+1:Nat):Int)) ((l.length+1:Nat):Int)=((l.count c+1:Nat):Int):=by omega
 have w4':IntKind.i64.wrap (((l.count c+1:Nat):Int)-1)=((l.count c:Nat):Int):=by rw[wI];omega
 have r3:List.replicate (l.count c+1) (D.prim BO)=(List.replicate (l.count c+1) []).map AH:=by rw[List.map_replicate]
 generalize hN:l.count c=N0 at*;refine AJ AU (CL eS w1' w2' f1 f2 w3' (CK w4' kN r3)) cC AA AA AA AA AA ?_;refine AO.loop (α:=List (List UInt8)×List UInt8×Nat) (λp=>⟨[(0,AH p.2.1),(1,AH [c]),(2,i64 0),(3,i64 N0),(8,BA),(9,.osl 801 19 1 0 (N0+1)),(10,i64 p.1.length)],[⟨801,19,9,1,(p.1++List.replicate (N0+1-p.1.length) []).map AH⟩],p.2.2⟩) (λp=>N0-p.1.length)
  (λp=>A8 c l=p.1++A8 c p.2.1/\p.1.length+p.2.1.count c=N0/\p.2.1.length<=l.length) ([],l,_) ⟨rfl,by simp[hN],Ad _⟩ Al ?_
 rintro⟨dn,m,n1⟩ F ⟨h1,h2,h3⟩;dsimp only at h1 h2 h3⊢;clear r3 cC;have hszm:=Bl m;rcases Aq dn.length N0 with h4|h4
 ·have t1:decide (((dn.length:Nat):Int)<((N0:Nat):Int))=true:=Av
  have hpl:=PA c m (by omega);have cI':=Uf c m;have hpI:E8 c m=((Ar c m:Nat):Int):=by unfold E8;rw[AM hpl]
  rw[hpI]at cI';have t2:decide ((((Ar c m:Nat):Int))<0)=false:=Ap;have wa:IntKind.i64.wrap (((Ar c m:Nat):Int)+0)=((Ar c m:Nat):Int):=by rw[wI];omega
  have e2:(sb m).extract 0 (Ar c m)=sb (m.take (Ar c m)):=by rw[GD];rfl
  have wb:IntKind.i64.wrap (((Ar c m:Nat):Int)+((sb [c]).size:Int))=((Ar c m+1:Nat):Int):=by
   show IntKind.i64.wrap (((Ar c m:Nat):Int)+1)=_;rw[wI];omega
  have e3:(sb m).extract (Ar c m+1) (sb m).size=sb (m.drop (Ar c m+1)):=by
   rw[GD,hszm,C3 (Ad _)]
  obtain⟨d2,hd2⟩:∃d2,dn++[m.take (Ar c m)]=d2:=⟨_,rfl⟩
  have hdl:d2.length=dn.length+1:=by rw[<-hd2,B9,HI]
  have wc:IntKind.i64.wrap (((dn.length:Nat):Int)+1)=((d2.length:Nat):Int):=by rw[hdl];exact wS (by omega)
  have hk1:N0+1-dn.length=(N0-dn.length)+1:=by omega
  have hE:((dn++List.replicate (N0+1-dn.length) []).map AH)[dn.length]?=some (AH []):=by
   rw[Bf,B8 (Ad _),Nat.sub_self,hk1];rfl
  have hset:((dn++List.replicate (N0+1-dn.length) []).map AH).set dn.length (AH (m.take (Ar c m)))=(d2++List.replicate (N0+1-d2.length) []).map AH:=by
   rw[hdl,<-hd2,hk1,show N0+1-(dn.length+1)=N0-dn.length by omega,<-List.map_set]
   congr 1
   rw[List.set_append_right _ _ (Ad _),Nat.sub_self,List.replicate_succ,List.set_cons_zero,Cr];rfl
  have hle2:Ar c m+1<=m.length:=hpl;refine AJ AU (CL t1 t2 wa e2 kN B5 (CW hE hset wb e3 wc)) cI' AA AA AA AA AA ?_;exact⟨(d2,m.drop (Ar c m+1),_),⟨by rw[h1,Nx c m hpl,<-hd2,Cr];rfl,by dsimp only;rw[hdl,<-h2,QB c m hpl];omega,by dsimp only;rw[Et];omega⟩,by dsimp only;rw[hdl];omega,Al⟩
 ·have hd:dn.length=N0:=by omega
  have t1:decide (((dn.length:Nat):Int)<((N0:Nat):Int))=false:=Ap;have hc0:m.count c=0:=by omega
  have hE:((dn++List.replicate (N0+1-dn.length) []).map AH)[dn.length]?=some (AH []):=by
   rw[Bf,B8 (Ad _),Nat.sub_self,hd,show N0+1-N0=1 by omega];rfl
  have hset:((dn++List.replicate (N0+1-dn.length) []).map AH).set dn.length (AH m)=(dn++[m]).map AH:=by
   rw[hd,show N0+1-N0=1 by omega,<-hd,<-List.map_set,List.set_append_right _ _ (Ad _),Nat.sub_self];rfl
  have wc:IntKind.i64.wrap (((dn.length:Nat):Int)+1)=((dn.length+1:Nat):Int):=wS (by omega);refine AJ AU (D7 t1 kN B5 hE hset wc) AA AA AA AA AA AA ?_;have hfz:=Fk 801 19 9 1 ((dn++[m]).map AH) [];rw[BP,B9,HI]at hfz;rw[h1,Lj c m hc0];exact⟨_,hfz,AB.out,rfl⟩
theorem Wo (c:UInt8)(l:List UInt8)(hl:l.length<=100000):Aa C0 45 [str (sb l),str (sb [c])] (.sl false 1 ((A8 c l).map AH)):=by
 refine Ax.walk w1 TO rfl λF=>?_
 have cG:=Uq c l hl;have hp:AB (.sl false 1 ((A8 c l).map AH)):=An;generalize(A8 c l).map AH=r at*;refine AJ AU kB cG AA AA AA AA AA ?_;exact Ac rfl AB.out
def Bs (l:List UInt8):Nat:=l.foldl (λn b=>(131*n+b.toNat)%1000003) 7
theorem Ib (l:List UInt8):Bs l<1000003:=by
 have h:∀(l:List UInt8) (a:Nat),a<1000003->l.foldl (λn b=>(131*n+b.toNat)%1000003) a<1000003:=λl=>by
  induction l with
  |nil=>exact λa h=>h
  |cons b l ih=>exact λa _=>ih _ (Gn _ (by decide))
 exact h l 7 (by decide)
theorem RP {l:List UInt8}{i:Nat}{b:UInt8}(h:l[i]?=some b):Bs (l.take (i+1))=(131*Bs (l.take i)+b.toNat)%1000003:=by
 have:l.take (i+1)=l.take i++[b]:=by rw[EG,h];rfl
 unfold Bs;rw[this,List.foldl_append];rfl
theorem MW {l:List UInt8}{i:Nat}{b:UInt8}(h:l[i]?=some b):((sb l).data.toList.getD i 0)=b:=by
 show l.getD i 0=b;rw[GN,h];rfl
theorem Rs {q b:Nat}(hq:q<1000003)(hb:b<256):(IntKind.i64.wrap (IntKind.i64.wrap (131*(q:Int))+IntKind.i64.wrap (b:Int))).tmod 1000003=(((131*q+b)%1000003:Nat):Int):=by
 rw[wI (z:=131*(q:Int)) (by omega) (by omega),wI (z:=(b:Int)) (by omega) (by omega),wI];rw[show 131*(q:Int)+(b:Int)=((131*q+b:Nat):Int) by omega];exact(Int.ofNat_tmod _ _).symm
theorem PV (b:UInt8):b.toNat<256:=b.toNat_lt
theorem So:∀ {l:List (List UInt8)} {i:Nat} {s:List UInt8},l[i]?=some s->(l.take i).contains s=false->l.idxOf s=i
 | [],_,_,h,_=>by simp at h
 |a::l,0,s,h,_=>by simp at h;subst h;simp
 |a::l,i+1,s,h,h0=>by
  rw[List.take_succ_cons,List.contains_cons,LY]at h0;have ha:a≠s:=λe=>by rw[e]at h0;simp at h0
  have hb:(a==s)=false:=by simpa using ha
  rw[List.idxOf_cons,hb,So (by simpa using h) h0.2];rfl
theorem Rt {l:List (List UInt8)}{i:Nat}{s:List UInt8}(h:l[i]?=some s):l.contains s=true:=by
 rw[List.contains_iff_mem];exact Bh h
theorem Qn {l:List (List UInt8)}{i:Nat}{s x:List UInt8}(h:l[i]?=some x)(h0:(l.take i).contains s=false)(hx:¬s=x):(l.take (i+1)).contains s=false:=by
 rw[EG,h];simp only[Option.toList_some,List.contains_eq_mem,BR,Eb,Pl]at h0⊢;rintro(h1|h1)
 ·exact h0 h1
 ·exact hx h1
theorem HY {l:List (List UInt8)}{i:Nat}{x:List UInt8}(h:l[i]?=some x):(l.map AH)[i]?=some (AH x):=by rw[Bf,h];rfl
theorem SV (l:List UInt8)(hl:l.length<=100000):Aa C0 53 [str (sb l)] (str (sb (Lib.itoa (Bs l:Nat)))):=by
 refine Ax.walk w1 eE rfl λF=>?_
 have hsz:=Bl l;have hck:=Ib l;have cT:=Kp (Bs l:Nat) (by omega) (by omega);refine AJ AU kB AA AA AA AA AA AA ?_;refine AO.loop (α:=Nat×Nat) (λp=>⟨[(0,str (sb l)),(2,AH []),(3,i64 (Bs (l.take p.1):Nat)),(6,i64 l.length),(7,i64 p.1)],[],p.2⟩) (λp=>l.length-p.1) (λp=>p.1<=l.length) (0,_) (Bu _) (by rw[hsz];exact Al) ?_;rintro⟨i,n1⟩ F h1;dsimp only at h1⊢;rcases Aq i l.length with h2|h2
 ·obtain⟨b,hb⟩:∃b,l[i]?=some b:=⟨l[i],BI h2⟩
  have t1:decide (((i:Nat):Int)<((l.length:Nat):Int))=true:=Av;have hx:=MW hb;have hbl:=PV b;have hc:=Ib (l.take i);have ht:=RP hb;have wc:=wS (n:=i) (by omega);have hi2:((i:Nat):Int)<((sb l).size:Int):=by rw[hsz];omega
  generalize Bs (l.take i)=q at*;obtain⟨q2,hq2⟩:∃q,Bs (l.take (i+1))=q:=⟨_,rfl⟩
  rw[hq2]at ht;have hst:=Rs hc hbl;rw[<-ht]at hst;refine AJ AU (CW t1 kN hx wc hst) AA AA AA AA AA AA ?_;exact⟨(i+1,_),by dsimp only;omega,by dsimp only;omega,(by dsimp only;rw[hq2];exact Al)⟩
 ·have hi:i=l.length:=by omega
  subst hi;have t1:decide (((l.length:Nat):Int)<((l.length:Nat):Int))=false:=Ap;have hta:Bs (l.take l.length)=Bs l:=by rw[C3 (Ad _)]
  rw[hta];generalize Bs l=q at*;refine AJ AU t1 cT AA AA AA AA AA ?_;exact Ac rfl AB.out
theorem VF (l:List (List UInt8))(s:List UInt8)(nn:Bool)(hl:l.length<=100000):Aa C0 71 [.sl nn 1 (l.map AH),AH s] (i64 (if l.contains s then(l.idxOf s:Nat)else -1)):=by
 refine Ax.walk w1 TT rfl λF=>?_
 have hml:(l.map AH).length=l.length:=BP ..;refine AJ AU kB AA AA AA AA AA AA ?_;refine AO.loop (α:=Nat×Nat) (λp=>⟨[(0,.sl nn 1 (l.map AH)),(1,AH s),(4,i64 0),(7,i64 l.length),(8,i64 p.1)],[],p.2⟩) (λp=>l.length-p.1) (λp=>p.1<=l.length/\(l.take p.1).contains s=false) (0,_) ⟨Bu _,rfl⟩ (by rw[hml];exact Al) ?_;rintro⟨i,n1⟩ F ⟨h1,h0⟩;dsimp only at h1 h0⊢;rcases Aq i l.length with h2|h2
 ·obtain⟨x,hx⟩:∃x,l[i]?=some x:=⟨l[i],BI h2⟩
  have t1:decide (((i:Nat):Int)<((l.length:Nat):Int))=true:=Av;have hx':=HY hx;have eS:=Ce s x;have wc:=wS (n:=i) (by omega)
  by_cases hsx:s=x
  ·rw[BW hsx]at eS
   have e1:=Rt (hsx ▸ hx);have e2:=So (hsx ▸ hx) h0;refine AJ AU (BJ t1 eS) hx' AA AA AA AA AA ?_;exact Ac (by rw[e1,e2];rfl) AB.out
  ·rw[B4 hsx]at eS
   have h3:=Qn hx h0 hsx;refine AJ AU (CK t1 eS wc) hx' AA AA AA AA AA ?_;exact⟨(i+1,_),⟨by dsimp only;omega,h3⟩,by dsimp only;omega,Al⟩
 ·have hi:i=l.length:=by omega
  subst hi;have t1:decide (((l.length:Nat):Int)<((l.length:Nat):Int))=false:=Ap;rw[C3 (Ad _)]at h0;refine AJ AU t1 AA AA AA AA AA AA ?_;exact Ac (by rw[h0];rfl) AB.out
theorem Ug (l:List (List UInt8))(s:List UInt8)(nn:Bool)(hl:l.length<=100000):Aa C0 37 [.sl nn 1 (l.map AH),AH s] (Ai (l.contains s)):=by
 refine Ax.walk w1 TM rfl λF=>?_
 have cI:=VF l s nn hl;have e1:decide ((if l.contains s then((l.idxOf s:Nat):Int)else -1)>=0)=l.contains s:=by
  cases l.contains s
  ·rfl
  ·exact BW (by rw[AM rfl];omega)
 generalize(if l.contains s then((l.idxOf s:Nat):Int)else -1)=r at*;generalize l.contains s=b at*;have hp:AB (D.sl nn 1 (l.map AH)):=An;generalize l.map AH=q at*;refine AJ AU e1 cI AA AA AA AA AA ?_;exact Ac rfl AB.out
end Go.Ide
