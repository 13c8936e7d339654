/- The layer of own lemmas and contracts, part 7. -/
import Derived.Test.YtmpdcldckjeklabGreatDoorAD5
import Derived.Test.YtmpdcldckjeklabGreatDoorAD4
import Derived.Test.YtmpdcldckjeklabGreatDoorAD6
import Derived.Lib.AppendIntMem
import Derived.Lib.SmallJoins
import Derived.Shelf.Spec.BitsCarry
import Derived.Laws.StandIn
import Derived.Lib.Bytealg
set_option linter.unusedVariables false
set_option linter.unusedSimpArgs false
namespace Go.Ide
open Go Go.Ide Go.Proofs Go.RowKit
set_option maxRecDepth 100000
def G0 (w:World):Prop:=Lib.TabIs Tryz.prog w "internal/strconv.uint64pow10" .u64 Lib.pow10Tab
theorem WH:Tryz.prog.globalNamed "internal/strconv.uint64pow10" = some 3:=by kernel_rfl
theorem VP {w w':World}(h:G0 w)(b:Below (3+1) w w'):G0 w':=by
 unfold G0 Lib.TabIs World.var? at h⊢;rw[WH]at h⊢;simp only[Option.bind_some]at h⊢;rw[b.block _ (by decide)];exact h
noncomputable def C0:AX:={P:=Tryz.prog,G:=G0,nG:=3+1,hG:=λ_ _=>VP}
theorem SY {ρ:Lk}{O:Nat->Prop}{w:World}{a b c:Value}{vs:Array Value}(hn:vs.size=3)(h:∀(i:Nat) (x:D),[D.prim a,.prim b,.prim c][i]?=some x->AF ρ O w x (vs.getD i undef)):vs = #[a,b,c]:=by
 match vs,hn with
 |⟨[u,v,x]⟩,_=>
  have h0:=h 0 _ rfl;have h1:=h 1 _ rfl;have h2:=h 2 _ rfl;simp at h0 h1 h2;cases h0;cases h1;cases h2;rfl
theorem U2 (x y c:Nat)(hc:c<=1):F7 C0 265 [.prim (.int .u64 x),.prim (.int .u64 y),.prim (.int .u64 c)]
  (.tup [.prim (.int .u64 (((x+y+c)%18446744073709551616:Nat):Int)),.prim (.int .u64 (((x+y+c)/18446744073709551616:Nat):Int))]):=.inl λρ O w vs hn h=>by
 have:=SY hn h
 subst this;refine⟨.tuple #[.int .u64 (((x+y+c)%18446744073709551616:Nat):Int),.int .u64 (((x+y+c)/18446744073709551616:Nat):Int)],?_,.tup rfl λi d hd=>?_⟩
 ·show(callFunc 265 _).run Tryz.prog w=_
  rw[run_callFunc_extern Tryz.func265 (by kernel_rfl) (by kernel_rfl) (by kernel_rfl) (e:=add64Entry) (by kernel_rfl),run_add64 x y c (by omega) (by omega) (by omega) (by omega)];simp only[Result.andThen]
  congr 5<;>omega
 ·match i with
  | 0=>simp at hd;subst hd;exact .prim _
  | 1=>simp at hd;subst hd;exact .prim _
  |n+2=>simp at hd
theorem SX {ρ:Lk}{O:Nat->Prop}{w:World}{a b:Value}{vs:Array Value}(hn:vs.size=2)(h:∀(i:Nat) (x:D),[D.prim a,.prim b][i]?=some x->AF ρ O w x (vs.getD i undef)):vs = #[a,b]:=by
 match vs,hn with
 |⟨[u,v]⟩,_=>
  have h0:=h 0 _ rfl;have h1:=h 1 _ rfl;simp at h0 h1;cases h0;cases h1;rfl
theorem Ty (s:ByteArray)(c:Int):F7 C0 280 [.prim (.string s),.prim (.int .u8 c)] (.prim (.int .i64 (firstIdx s c.toNat.toUInt8))):=.inl λρ O w vs hn h=>by
 have:=SX hn h
 subst this;refine⟨_,?_,.prim _⟩;show(callFunc 280 _).run Tryz.prog w=_;rw[run_callFunc_indexByte Tryz.func280 (by kernel_rfl) (by kernel_rfl) (by kernel_rfl) (by kernel_rfl),run_indexByte_string];rfl
theorem Vl (x y b:Nat)(hb:b<=1):F7 C0 267 [.prim (.int .u64 x),.prim (.int .u64 y),.prim (.int .u64 b)]
  (.tup [.prim (.int .u64 (((x+18446744073709551616-y-b)%18446744073709551616:Nat):Int)),.prim (.int .u64 ((if x<y+b then 1 else 0:Nat):Int))]):=.inl λρ O w vs hn h=>by
 have:=SY hn h
 subst this;refine⟨.tuple #[.int .u64 (((x+18446744073709551616-y-b)%18446744073709551616:Nat):Int),.int .u64 ((if x<y+b then 1 else 0:Nat):Int)],?_,.tup rfl λi d hd=>?_⟩
 ·show(callFunc 267 _).run Tryz.prog w=_
  rw[run_callFunc_extern Tryz.func267 (by kernel_rfl) (by kernel_rfl) (by kernel_rfl) (e:=sub64Entry) (by kernel_rfl),run_sub64 x y b hb];rfl
 ·match i with
  | 0=>simp at hd;subst hd;exact .prim _
  | 1=>simp at hd;subst hd;exact .prim _
  |n+2=>simp at hd
theorem Qn {O:Nat->Prop}{w:World}{v:Value}{vs:Array Value}(hn:vs.size=1)(h:∀(i:Nat) (x:D),[D.prim v][i]?=some x->AF nol O w x (vs.getD i undef)):vs = #[v]:=by
 match vs,hn with
 |⟨[u]⟩,_=>
  have h0:=h 0 _ rfl;simp at h0;cases h0;rfl
theorem KQ (n:Int)(h0 : -9223372036854775808<=n)(h1:n<=9223372036854775807):Aa C0 57 [i64 n] (str ⟨(Lib.itoa n).toArray⟩):=by
 refine⟨⟨_,_,Tryz.func57,rfl,by kernel_rfl⟩,λY w vs hG hnG hX hvs hr=>?_⟩
 have:=Qn hvs hr
 subst this;refine(Tryz.strconv_Itoa n h0 h1 w hG).mono ?_;rintro e w' ⟨rfl,k,os,rfl⟩;exact⟨_,_,rfl,Lib.below_grow _ _ (Ah _) _ _,rfl,.prim _⟩
theorem RB (s:ByteArray)(n:Int)(hl:s.size<=18)(h:Lib.atoi s.data.toList=some n):Aa C0 73 [str s] (.tup [i64 n,.prim .nilIface]):=by
 refine⟨⟨_,_,Tryz.func73,rfl,by kernel_rfl⟩,λY w vs hG hnG hX hvs hr=>?_⟩
 have:=Qn hvs hr
 subst this;refine(Tryz.strconv_Atoi s n hl h w).mono ?_;rintro e w' ⟨rfl,t,rfl⟩;exact⟨_,_,rfl,Joins.below_bytesWorld _ _ _ _ (Ah _),rfl,.tup rfl λi d hd=>by
  match i with
  | 0=>simp at hd;subst hd;exact .prim _
  | 1=>simp at hd;subst hd;exact .prim _
  |n+2=>simp at hd⟩
def Kz (f:Nat)(ds:List D):Option D:=match Nat.beq f 265 with
 |true=>match ds with
  | [.prim (.int .u64 (.ofNat a)),.prim (.int .u64 (.ofNat b)),.prim (.int .u64 (.ofNat c))]=>match Nat.ble c 1 with
   |true=>some (.tup [.prim (.int .u64 (((a+b+c)%18446744073709551616:Nat):Int)),.prim (.int .u64 (((a+b+c)/18446744073709551616:Nat):Int))])
   |false=>none
  |_=>none
 |false=>match Nat.beq f 267 with
  |true=>match ds with
   | [.prim (.int .u64 (.ofNat a)),.prim (.int .u64 (.ofNat b)),.prim (.int .u64 (.ofNat c))]=>match Nat.ble c 1 with
    |true=>some (.tup [.prim (.int .u64 (((a+18446744073709551616-b-c)%18446744073709551616:Nat):Int)),.prim (.int .u64 ((if a<b+c then 1 else 0:Nat):Int))])
    |false=>none
   |_=>none
  |false=>match Nat.beq f 280 with
   |true=>match ds with
    | [.prim (.string s),.prim (.int .u8 c)]=>some (.prim (.int .i64 (firstIdx s c.toNat.toUInt8)))
    |_=>none
   |false=>none
theorem OL (f:Nat)(ds:List D)(d:D)(h:Kz f ds=some d):F7 C0 f ds d:=by
 unfold Kz at h;split at h
 ·rename_i hf
  obtain rfl:=Ab hf;split at h<;>try(cases h;done)
  split at h<;>try(cases h;done)
  rename_i hc;cases h;exact U2 _ _ _ (A7 hc)
 ·split at h
  ·rename_i hf
   obtain rfl:=Ab hf;split at h<;>try(cases h;done)
   split at h<;>try(cases h;done)
   rename_i hc;cases h;exact Vl _ _ _ (A7 hc)
  ·split at h
   ·rename_i hf
    obtain rfl:=Ab hf;split at h<;>try(cases h;done)
    cases h;exact Ty _ _
   ·cases h
noncomputable def X1:EV:=⟨Jk.get,Ie.get,Je.get,λ_=>false,λ_ _=>none,λ_ _=>none,Kz⟩
theorem FN:CD C0 X1:=⟨Ay,C3,Gz,λ_ _ _ h=>by simp[X1]at h,by kernel_rfl,λ_ _ _ h=>by simp[X1]at h,OL⟩
theorem w1:CR C0 X1:=FN.w
theorem C8 {B:AH}{rd:Option Nat}{F:AH}{ops:Array Oper}{s:St}{Q:Exit->AH->St->Prop}{i:Nat}(kb:Nat)(h:CA C0 X1 kb ops (List.range ops.size) s True λacc s=>acc/\Q .normal F s)(hnd:DB ops.toList=true:=by kernel_rfl):AN C0 B rd F (.region i ops false) s Q:=AN.reg w1 kb hnd h
theorem FW {C:AX}{X:EV}(hX:CD C X)(n k:Nat){f:Nat}{ds:List D}{d:D}(h:(Et X n k).1 f ds=some d:=by kernel_rfl):Aa C f ds d:=Ta hX n k h
theorem wI {z:Int}(h1 : -9223372036854775808<=z:=by omega)(h2:z<=9223372036854775807:=by omega):IntKind.i64.wrap z=z:=by
 have e1:(2:Int)^IntKind.i64.bits=18446744073709551616:=rfl;have e2:(2:Int)^(IntKind.i64.bits-1)=9223372036854775808:=rfl;unfold IntKind.wrap;simp only[e1,e2];have e3:IntKind.i64.signed=true:=rfl;rw[e3];simp only[Ms,FQ];split<;>omega
theorem wN {n:Nat}(h:n<=9223372036854775807):IntKind.i64.wrap (n:Int)=n:=wI
set_option maxRecDepth 20000
def Bk (b:Nat):Bool:=((decide (97<=b)&&decide (b<=122))||(decide (65<=b)&&decide (b<=90)))||(decide (48<=b)&&decide (b<=57))||b==45||b==95||b==46
def DY (l:List UInt8):Bool:=l.all (λb=>Bk b.toNat)&&(decide (1<=l.length)&&decide (l.length<=24))
theorem S5 (s:ByteArray)(p:Nat)(hp:p<s.size):s.data.toList[p]?=some (s.get! p):=by
 have hp':p<s.data.size:=hp;rw[Er,A9 hp']
 congr 1
 show _=s.data[p]!;rw[getElem!_pos s.data p hp']
theorem Q2 (s:ByteArray)(p:Nat)(h:(s.get! p).toNat<128):Utf8.decode s p=((s.get! p).toNat,1):=by
 unfold Utf8.decode;exact AQ h
theorem VX (s:ByteArray)(p:Nat)(h:¬(s.get! p).toNat<128):128<=(Utf8.decode s p).1:=by
 unfold Utf8.decode;dsimp only;simp only[FE];rw[AP h];have hv:128<=Utf8.runeError:=by decide
 repeat' split
 all_goals first|exact hv|(rename_i h1;simp only[ge_iff_le,Aj,FQ]at h1;dsimp only;omega)
theorem QI (s:ByteArray):Aa C0 31 [str s] (Am (DY s.data.toList)):=by
 refine A0.walk w1 SQ rfl λB=>?_
 have hsz:s.data.toList.length=s.size:=Fq;refine fR 0 ?_;refine AN.seq ?_;refine AN.seq ?_;refine fX w1 100 [0] 1 rfl (by kernel_rfl) rfl ?_;refine Fw ?_;intro F hF;refine BG ?_;refine AN.block ?_;refine O9 (α:=Nat×Nat) (λp=>⟨[(0,str s),(7,.optr 101 2 0 0 0)],[],p.2⟩) (λp=>s.size-p.1) (λp F=>I5 C0 B F 101 2 s p.1/\p.1<=s.size/\(s.data.toList.take p.1).all (λb=>Bk b.toNat)=true) (0,3) ⟨hF,Cv _,rfl⟩ Ap ?_;rintro⟨p,n⟩ F ⟨hIt,hp,hall⟩;dsimp only at hIt hp hall⊢;refine AN.seq ?_;refine fW w1 200 0 [1] rfl (by kernel_rfl) s p ?_;refine DO hIt (DO (λhlt F hIt=>?_) (λhge=>?_))
 ·refine Fw ?_
  generalize hc:(Utf8.decode s p).1=c;refine AN.seq ?_;refine Cq ?_;refine FG ?_;refine AN.block ?_;refine fR 300 ?_;refine Ml ⟨[(0,str s),(7,.optr 101 2 0 0 0),(4,.prim (.int .i32 c)),(5,Am ((decide ((c:Int)>=97)&&decide ((c:Int)<=122))||(decide ((c:Int)>=65)&&decide ((c:Int)<=90))))],[],n+30⟩ (C8 400 ?_) ?_
  ·repeat'(first|(refine DO (by exact Bv) ?_;refine BG ?_)|((refine IN (λhb=>?_) (λhb=>?_))<;>(try simp only[EZ,IV]at hb)<;>(try simp only[hb])<;>(refine BG ?_)))
   all_goals exact Ap
  generalize hL:((decide ((c:Int)>=97)&&decide ((c:Int)<=122))||(decide ((c:Int)>=65)&&decide ((c:Int)<=90)))=L;refine Ml ⟨[(0,str s),(7,.optr 101 2 0 0 0),(47,Am ((((!L && !(decide ((c:Int)>=48)&&decide ((c:Int)<=57)))&&((c:Int) != 45))&&((c:Int) != 95))&&((c:Int) != 46)))],[],n+60⟩ (C8 500 ?_) ?_
  ·repeat'(first|(refine DO (by exact Bv) ?_;refine BG ?_)|((refine IN (λhb=>?_) (λhb=>?_))<;>(try simp only[EZ,IV]at hb)<;>(try simp only[hb])<;>(refine BG ?_)))
   all_goals exact Ap
  have hbad:((((!L && !(decide ((c:Int)>=48)&&decide ((c:Int)<=57)))&&((c:Int) != 45))&&((c:Int) != 95))&&((c:Int) != 46)) = !(Bk c):=by
   subst hL;rw[IX];simp only[Bk,Aj,EZ,K8,Bool.and_eq_false_iff,PE,bne_iff_ne,ne_eq,Bx];omega
  rw[hbad];refine Cq ?_
  (refine IN (λhb=>?_) (λhb=>?_))<;>(try simp only[EZ,IV]at hb)<;>(try simp only[hb])
  ·have hbf:Bk c=false:=by simpa using hb
   refine fR 600 ?_;refine Ev ?_;refine Ak ?_ AB.out;have hb8:Bk (s.get! p).toNat=false:=by
    by_cases hlow:(s.get! p).toNat<128
    ·rw[Q2 s p hlow]at hc
     rw[show(s.get! p).toNat=c from hc];exact hbf
    ·unfold Bk;simp;omega
   have:DY s.data.toList=false:=by
    unfold DY
    have:s.data.toList.all (λb=>Bk b.toNat)=false:=by
     rw[List.all_eq_false];exact⟨_,Bf (S5 s p hlt),by rw[hb8];simp⟩
    rw[this];rfl
   rw[this]
  ·have hbt:Bk c=true:=by simpa using hb
   have hclt:c<128:=by
    unfold Bk at hbt;simp only[K4,Aj,FQ,Gv]at hbt;omega
   have hlow:(s.get! p).toNat<128:=by
    apply Db;intro h
    have:=VX s p h
    omega
   rw[Q2 s p hlow]at hc hIt;refine FG ?_;refine⟨(p+1,n+60),⟨hIt,hlt,?_⟩,by dsimp only;omega,Ap⟩;rw[Fr,S5 s p hlt,K5,hall];simp;rw[show(s.get! p).toNat=c from hc];exact hbt
 ·have hpe:p=s.size:=by omega
  refine Fw ?_;refine AN.seq ?_;refine Cq ?_;refine Hc ?_;refine Ml ⟨[(2,Am (decide (1<=(s.size:Int))&&decide ((s.size:Int)<=24)))],[],n+60⟩ (C8 700 ?_) ?_
  ·repeat'(first|(refine DO (by exact Bv) ?_;refine BG ?_)|((refine IN (λhb=>?_) (λhb=>?_))<;>(try simp only[EZ,IV]at hb)<;>(try simp only[hb])<;>(refine BG ?_)))
   all_goals exact Ap
  refine Ev ?_;refine Ak ?_ AB.out;have hall':s.data.toList.all (λb=>Bk b.toNat)=true:=by rw[<-hall,hpe,<-hsz,List.take_length]
  unfold DY;rw[hall',Ms,hsz];have e:(decide (1<=(s.size:Int))&&decide ((s.size:Int)<=24))=(decide (1<=s.size)&&decide (s.size<=24)):=by
   rw[IX];simp only[Aj,FQ];omega
  rw[<-e]
theorem Ui (s:ByteArray)(c:Int):F7 C0 187 [.prim (.string s),.prim (.int .u8 c)] (.prim (.int .i64 (Lib.countByte s.data.toList c.toNat.toUInt8:Nat))):=.inl λρ O w vs hn h=>by
 have:=SX hn h
 subst this;refine⟨_,?_,.prim _⟩;show(callFunc 187 _).run Tryz.prog w=_;rw[run_callFunc_extern Tryz.func187 (by kernel_rfl) (by kernel_rfl) (by kernel_rfl) (e:=Extern.BytealgCount.count) (by kernel_rfl),Lib.run_countString];rfl
theorem Cx (a b:Int)(fn:Fn)(v:Value):Cm (.agg [i64 a,i64 b,.clo fn [.prim v] []]):=Cm.agg λd hd=>by
 simp only[Ae,Mq,or_false]at hd;rcases hd with rfl|rfl|rfl
 ·exact .prim _
 ·exact .prim _
 ·exact λ_ _ _ _ _ _ _ h=>by
   cases h with
   |clo hf hc h1 h2=>exact .clo hf hc (λi x hx=>by
     match i with
     | 0=>
      have:=h1 0 x hx
      simp at hx;subst hx;exact Cm.prim _ _ _ _ _ _ _ _ this
     |i+1=>simp at hx) (λi x hx=>by simp at hx)
theorem DW (fn:Fn)(v:Value):Cm (.clo fn [.prim v] []):=λ_ _ _ _ _ _ _ h=>by
 cases h with
 |clo hf hc h1 h2=>exact .clo hf hc (λi x hx=>by
   match i with
   | 0=>
    have:=h1 0 x hx
    simp at hx;subst hx;exact Cm.prim _ _ _ _ _ _ _ _ this
   |i+1=>simp at hx) (λi x hx=>by simp at hx)
def Fh:List D:=[.prim (.string ⟨#[98,105,110]⟩),.prim (.string ⟨#[97,114,114,105,118,101]⟩),.prim (.string ⟨#[115,116,111,114,101]⟩),.prim (.string ⟨#[109,111,118,101]⟩),.prim (.string ⟨#[100,114,121]⟩),.prim (.string ⟨#[115,104,105,112]⟩),.prim (.string ⟨#[98,108,101,110,100]⟩),.prim (.string ⟨#[108,111,97,100]⟩),.prim (.string ⟨#[99,108,111,115,101]⟩),.prim (.string ⟨#[105,115,115,117,101]⟩),.prim (.string ⟨#[99,97,110,99,101,108]⟩)]
def Fi (d:D):List D:=[.agg [i64 2,i64 4,.clo (.func 59) [d] []],.agg [i64 2,i64 1,.clo (.func 60) [d] []],.agg [i64 2,i64 2,.clo (.func 61) [d] []],.agg [i64 2,i64 3,.clo (.func 62) [d] []],.agg [i64 2,i64 4,.clo (.func 62) [d] []],.agg [i64 2,i64 1,.clo (.func 63) [d] []],.agg [i64 2,i64 1,.clo (.func 63) [d] []],.agg [i64 2,i64 2,.clo (.func 64) [d] []],.agg [i64 1,i64 0,.clo (.func 65) [d] []],.agg [i64 2,i64 1,.clo (.func 66) [d] []],.agg [i64 2,i64 1,.clo (.func 67) [d] []]]
theorem Od (a:Option Addr):Aa C0 28 [.prim (.pointer a)] (.mp Fh (Fi (.prim (.pointer a)))):=by
 refine A0.intro Ay Tryz.func28 rfl (by kernel_rfl) (by kernel_rfl) (by kernel_rfl) λF=>?_
 refine Ok.seq (Ok.region ?_);refine AM.p Ay rfl rfl AA ?_;refine AM.nil ?_;refine Ok.seq (Ok.region ?_);refine D6.start (m:=3) rfl rfl rfl ?_;refine BF (C:=C0) Ay (.prim (.pointer a)) rfl rfl (.prim _) rfl (by decide) ?_;refine BF (C:=C0) Ay (.clo (.func 59) [.prim (.pointer a)] []) rfl rfl (DW _ _) rfl (by decide) ?_;refine BF (C:=C0) Ay (.agg [i64 2,i64 4,.clo (.func 59) [.prim (.pointer a)] []]) rfl (by kernel_rfl) (Cx _ _ _ _) rfl (by decide) ?_;refine Dm (C:=C0) (k:=9) (e:=81) (z:=.agg #[.int .i64 0,.int .i64 0,.nilFunc]) C3 (by kernel_rfl) rfl rfl rfl (by kernel_rfl) rfl (λ_ _ _ _ h _ _ _=>Cx _ _ _ _ _ _ _ _ _ _ _ h) ?_;refine BF (C:=C0) Ay (.prim (.pointer a)) rfl rfl (.prim _) rfl (by decide) ?_;refine BF (C:=C0) Ay (.clo (.func 60) [.prim (.pointer a)] []) rfl rfl (DW _ _) rfl (by decide) ?_;refine BF (C:=C0) Ay (.agg [i64 2,i64 1,.clo (.func 60) [.prim (.pointer a)] []]) rfl (by kernel_rfl) (Cx _ _ _ _) rfl (by decide) ?_;refine Dm (C:=C0) (k:=9) (e:=81) (z:=.agg #[.int .i64 0,.int .i64 0,.nilFunc]) C3 (by kernel_rfl) rfl rfl rfl (by kernel_rfl) rfl (λ_ _ _ _ h _ _ _=>Cx _ _ _ _ _ _ _ _ _ _ _ h) ?_;refine BF (C:=C0) Ay (.prim (.pointer a)) rfl rfl (.prim _) rfl (by decide) ?_;refine BF (C:=C0) Ay (.clo (.func 61) [.prim (.pointer a)] []) rfl rfl (DW _ _) rfl (by decide) ?_;refine BF (C:=C0) Ay (.agg [i64 2,i64 2,.clo (.func 61) [.prim (.pointer a)] []]) rfl (by kernel_rfl) (Cx _ _ _ _) rfl (by decide) ?_;refine Dm (C:=C0) (k:=9) (e:=81) (z:=.agg #[.int .i64 0,.int .i64 0,.nilFunc]) C3 (by kernel_rfl) rfl rfl rfl (by kernel_rfl) rfl (λ_ _ _ _ h _ _ _=>Cx _ _ _ _ _ _ _ _ _ _ _ h) ?_;refine BF (C:=C0) Ay (.prim (.pointer a)) rfl rfl (.prim _) rfl (by decide) ?_;refine BF (C:=C0) Ay (.clo (.func 62) [.prim (.pointer a)] []) rfl rfl (DW _ _) rfl (by decide) ?_;refine BF (C:=C0) Ay (.agg [i64 2,i64 3,.clo (.func 62) [.prim (.pointer a)] []]) rfl (by kernel_rfl) (Cx _ _ _ _) rfl (by decide) ?_;refine Dm (C:=C0) (k:=9) (e:=81) (z:=.agg #[.int .i64 0,.int .i64 0,.nilFunc]) C3 (by kernel_rfl) rfl rfl rfl (by kernel_rfl) rfl (λ_ _ _ _ h _ _ _=>Cx _ _ _ _ _ _ _ _ _ _ _ h) ?_;refine BF (C:=C0) Ay (.prim (.pointer a)) rfl rfl (.prim _) rfl (by decide) ?_;refine BF (C:=C0) Ay (.clo (.func 62) [.prim (.pointer a)] []) rfl rfl (DW _ _) rfl (by decide) ?_;refine BF (C:=C0) Ay (.agg [i64 2,i64 4,.clo (.func 62) [.prim (.pointer a)] []]) rfl (by kernel_rfl) (Cx _ _ _ _) rfl (by decide) ?_;refine Dm (C:=C0) (k:=9) (e:=81) (z:=.agg #[.int .i64 0,.int .i64 0,.nilFunc]) C3 (by kernel_rfl) rfl rfl rfl (by kernel_rfl) rfl (λ_ _ _ _ h _ _ _=>Cx _ _ _ _ _ _ _ _ _ _ _ h) ?_;refine BF (C:=C0) Ay (.prim (.pointer a)) rfl rfl (.prim _) rfl (by decide) ?_;refine BF (C:=C0) Ay (.clo (.func 63) [.prim (.pointer a)] []) rfl rfl (DW _ _) rfl (by decide) ?_;refine BF (C:=C0) Ay (.agg [i64 2,i64 1,.clo (.func 63) [.prim (.pointer a)] []]) rfl (by kernel_rfl) (Cx _ _ _ _) rfl (by decide) ?_;refine Dm (C:=C0) (k:=9) (e:=81) (z:=.agg #[.int .i64 0,.int .i64 0,.nilFunc]) C3 (by kernel_rfl) rfl rfl rfl (by kernel_rfl) rfl (λ_ _ _ _ h _ _ _=>Cx _ _ _ _ _ _ _ _ _ _ _ h) ?_;refine BF (C:=C0) Ay (.prim (.pointer a)) rfl rfl (.prim _) rfl (by decide) ?_;refine BF (C:=C0) Ay (.clo (.func 63) [.prim (.pointer a)] []) rfl rfl (DW _ _) rfl (by decide) ?_;refine BF (C:=C0) Ay (.agg [i64 2,i64 1,.clo (.func 63) [.prim (.pointer a)] []]) rfl (by kernel_rfl) (Cx _ _ _ _) rfl (by decide) ?_;refine Dm (C:=C0) (k:=9) (e:=81) (z:=.agg #[.int .i64 0,.int .i64 0,.nilFunc]) C3 (by kernel_rfl) rfl rfl rfl (by kernel_rfl) rfl (λ_ _ _ _ h _ _ _=>Cx _ _ _ _ _ _ _ _ _ _ _ h) ?_;refine BF (C:=C0) Ay (.prim (.pointer a)) rfl rfl (.prim _) rfl (by decide) ?_;refine BF (C:=C0) Ay (.clo (.func 64) [.prim (.pointer a)] []) rfl rfl (DW _ _) rfl (by decide) ?_;refine BF (C:=C0) Ay (.agg [i64 2,i64 2,.clo (.func 64) [.prim (.pointer a)] []]) rfl (by kernel_rfl) (Cx _ _ _ _) rfl (by decide) ?_;refine Dm (C:=C0) (k:=9) (e:=81) (z:=.agg #[.int .i64 0,.int .i64 0,.nilFunc]) C3 (by kernel_rfl) rfl rfl rfl (by kernel_rfl) rfl (λ_ _ _ _ h _ _ _=>Cx _ _ _ _ _ _ _ _ _ _ _ h) ?_;refine BF (C:=C0) Ay (.prim (.pointer a)) rfl rfl (.prim _) rfl (by decide) ?_;refine BF (C:=C0) Ay (.clo (.func 65) [.prim (.pointer a)] []) rfl rfl (DW _ _) rfl (by decide) ?_;refine BF (C:=C0) Ay (.agg [i64 1,i64 0,.clo (.func 65) [.prim (.pointer a)] []]) rfl (by kernel_rfl) (Cx _ _ _ _) rfl (by decide) ?_;refine Dm (C:=C0) (k:=9) (e:=81) (z:=.agg #[.int .i64 0,.int .i64 0,.nilFunc]) C3 (by kernel_rfl) rfl rfl rfl (by kernel_rfl) rfl (λ_ _ _ _ h _ _ _=>Cx _ _ _ _ _ _ _ _ _ _ _ h) ?_;refine BF (C:=C0) Ay (.prim (.pointer a)) rfl rfl (.prim _) rfl (by decide) ?_;refine BF (C:=C0) Ay (.clo (.func 66) [.prim (.pointer a)] []) rfl rfl (DW _ _) rfl (by decide) ?_;refine BF (C:=C0) Ay (.agg [i64 2,i64 1,.clo (.func 66) [.prim (.pointer a)] []]) rfl (by kernel_rfl) (Cx _ _ _ _) rfl (by decide) ?_;refine Dm (C:=C0) (k:=9) (e:=81) (z:=.agg #[.int .i64 0,.int .i64 0,.nilFunc]) C3 (by kernel_rfl) rfl rfl rfl (by kernel_rfl) rfl (λ_ _ _ _ h _ _ _=>Cx _ _ _ _ _ _ _ _ _ _ _ h) ?_;refine BF (C:=C0) Ay (.prim (.pointer a)) rfl rfl (.prim _) rfl (by decide) ?_;refine BF (C:=C0) Ay (.clo (.func 67) [.prim (.pointer a)] []) rfl rfl (DW _ _) rfl (by decide) ?_;refine BF (C:=C0) Ay (.agg [i64 2,i64 1,.clo (.func 67) [.prim (.pointer a)] []]) rfl (by kernel_rfl) (Cx _ _ _ _) rfl (by decide) ?_;refine Dm (C:=C0) (k:=9) (e:=81) (z:=.agg #[.int .i64 0,.int .i64 0,.nilFunc]) C3 (by kernel_rfl) rfl rfl rfl (by kernel_rfl) rfl (λ_ _ _ _ h _ _ _=>Cx _ _ _ _ _ _ _ _ _ _ _ h) ?_;refine D6.done ?_;refine AM.p Ay rfl rfl AA ?_;refine AM.p Ay rfl rfl AA ?_;refine AM.nil ?_;refine Ok.ret ?_;exact⟨.inr rfl,_,_,rfl,⟨trivial,trivial⟩,_,.refl _,DA (n:=20) (by kernel_rfl),rfl⟩
def MY:List D:=[.prim (.string ⟨#[115,116,111,99,107]⟩),.prim (.string ⟨#[116,114,97,99,101]⟩),.prim (.string ⟨#[114,101,97,99,104]⟩),.prim (.string ⟨#[114,101,99,97,108,108]⟩),.prim (.string ⟨#[106,111,117,114,110,101,121]⟩),.prim (.string ⟨#[98,97,108,97,110,99,101]⟩),.prim (.string ⟨#[114,101,112,111,114,116]⟩)]
def MZ (d:D):List D:=[.agg [i64 (1),.clo (.func 93) [d] []],.agg [i64 (1),.clo (.func 94) [d] []],.agg [i64 (1),.clo (.func 95) [d] []],.agg [i64 (-1),.clo (.func 96) [d] []],.agg [i64 (1),.clo (.func 97) [d] []],.agg [i64 (0),.clo (.func 98) [d] []],.agg [i64 (0),.clo (.func 99) [d] []]]
theorem Eh (a:Int)(fn:Fn)(v:Value):Cm (.agg [i64 a,.clo fn [.prim v] []]):=Cm.agg λd hd=>by
 simp only[Ae,Mq,or_false]at hd;rcases hd with rfl|rfl
 ·exact .prim _
 ·exact DW _ _
theorem dj (a:Option Addr):Aa C0 56 [.prim (.pointer a)] (.mp MY (MZ (.prim (.pointer a)))):=by
 refine A0.intro Ay Tryz.func56 rfl (by kernel_rfl) (by kernel_rfl) (by kernel_rfl) λF=>?_
 refine Ok.seq (Ok.region ?_);refine AM.p Ay rfl rfl AA ?_;refine AM.nil ?_;refine Ok.seq (Ok.region ?_);refine D6.start (m:=3) rfl rfl rfl ?_;refine BF (C:=C0) Ay (.prim (.pointer a)) rfl rfl (.prim _) rfl (by decide) ?_;refine BF (C:=C0) Ay (.clo (.func 93) [.prim (.pointer a)] []) rfl rfl (DW _ _) rfl (by decide) ?_;refine BF (C:=C0) Ay (.agg [i64 (1),.clo (.func 93) [.prim (.pointer a)] []]) rfl (by kernel_rfl) (Eh _ _ _) rfl (by decide) ?_;refine Dm (C:=C0) (k:=9) (e:=129) (z:=.agg #[.int .i64 0,.nilFunc]) C3 (by kernel_rfl) rfl rfl rfl (by kernel_rfl) rfl (λ_ _ _ _ h _ _ _=>Eh _ _ _ _ _ _ _ _ _ _ h) ?_;refine BF (C:=C0) Ay (.prim (.pointer a)) rfl rfl (.prim _) rfl (by decide) ?_;refine BF (C:=C0) Ay (.clo (.func 94) [.prim (.pointer a)] []) rfl rfl (DW _ _) rfl (by decide) ?_;refine BF (C:=C0) Ay (.agg [i64 (1),.clo (.func 94) [.prim (.pointer a)] []]) rfl (by kernel_rfl) (Eh _ _ _) rfl (by decide) ?_;refine Dm (C:=C0) (k:=9) (e:=129) (z:=.agg #[.int .i64 0,.nilFunc]) C3 (by kernel_rfl) rfl rfl rfl (by kernel_rfl) rfl (λ_ _ _ _ h _ _ _=>Eh _ _ _ _ _ _ _ _ _ _ h) ?_;refine BF (C:=C0) Ay (.prim (.pointer a)) rfl rfl (.prim _) rfl (by decide) ?_;refine BF (C:=C0) Ay (.clo (.func 95) [.prim (.pointer a)] []) rfl rfl (DW _ _) rfl (by decide) ?_;refine BF (C:=C0) Ay (.agg [i64 (1),.clo (.func 95) [.prim (.pointer a)] []]) rfl (by kernel_rfl) (Eh _ _ _) rfl (by decide) ?_;refine Dm (C:=C0) (k:=9) (e:=129) (z:=.agg #[.int .i64 0,.nilFunc]) C3 (by kernel_rfl) rfl rfl rfl (by kernel_rfl) rfl (λ_ _ _ _ h _ _ _=>Eh _ _ _ _ _ _ _ _ _ _ h) ?_;refine BF (C:=C0) Ay (.prim (.pointer a)) rfl rfl (.prim _) rfl (by decide) ?_;refine BF (C:=C0) Ay (.clo (.func 96) [.prim (.pointer a)] []) rfl rfl (DW _ _) rfl (by decide) ?_;refine BF (C:=C0) Ay (.agg [i64 (-1),.clo (.func 96) [.prim (.pointer a)] []]) rfl (by kernel_rfl) (Eh _ _ _) rfl (by decide) ?_;refine Dm (C:=C0) (k:=9) (e:=129) (z:=.agg #[.int .i64 0,.nilFunc]) C3 (by kernel_rfl) rfl rfl rfl (by kernel_rfl) rfl (λ_ _ _ _ h _ _ _=>Eh _ _ _ _ _ _ _ _ _ _ h) ?_;refine BF (C:=C0) Ay (.prim (.pointer a)) rfl rfl (.prim _) rfl (by decide) ?_;refine BF (C:=C0) Ay (.clo (.func 97) [.prim (.pointer a)] []) rfl rfl (DW _ _) rfl (by decide) ?_;refine BF (C:=C0) Ay (.agg [i64 (1),.clo (.func 97) [.prim (.pointer a)] []]) rfl (by kernel_rfl) (Eh _ _ _) rfl (by decide) ?_;refine Dm (C:=C0) (k:=9) (e:=129) (z:=.agg #[.int .i64 0,.nilFunc]) C3 (by kernel_rfl) rfl rfl rfl (by kernel_rfl) rfl (λ_ _ _ _ h _ _ _=>Eh _ _ _ _ _ _ _ _ _ _ h) ?_;refine BF (C:=C0) Ay (.prim (.pointer a)) rfl rfl (.prim _) rfl (by decide) ?_;refine BF (C:=C0) Ay (.clo (.func 98) [.prim (.pointer a)] []) rfl rfl (DW _ _) rfl (by decide) ?_;refine BF (C:=C0) Ay (.agg [i64 (0),.clo (.func 98) [.prim (.pointer a)] []]) rfl (by kernel_rfl) (Eh _ _ _) rfl (by decide) ?_;refine Dm (C:=C0) (k:=9) (e:=129) (z:=.agg #[.int .i64 0,.nilFunc]) C3 (by kernel_rfl) rfl rfl rfl (by kernel_rfl) rfl (λ_ _ _ _ h _ _ _=>Eh _ _ _ _ _ _ _ _ _ _ h) ?_;refine BF (C:=C0) Ay (.prim (.pointer a)) rfl rfl (.prim _) rfl (by decide) ?_;refine BF (C:=C0) Ay (.clo (.func 99) [.prim (.pointer a)] []) rfl rfl (DW _ _) rfl (by decide) ?_;refine BF (C:=C0) Ay (.agg [i64 (0),.clo (.func 99) [.prim (.pointer a)] []]) rfl (by kernel_rfl) (Eh _ _ _) rfl (by decide) ?_;refine Dm (C:=C0) (k:=9) (e:=129) (z:=.agg #[.int .i64 0,.nilFunc]) C3 (by kernel_rfl) rfl rfl rfl (by kernel_rfl) rfl (λ_ _ _ _ h _ _ _=>Eh _ _ _ _ _ _ _ _ _ _ h) ?_;refine D6.done ?_;refine AM.p Ay rfl rfl AA ?_;refine AM.p Ay rfl rfl AA ?_;refine AM.nil ?_;refine Ok.ret ?_;exact⟨.inr rfl,_,_,rfl,⟨trivial,trivial⟩,_,.refl _,DA (n:=20) (by kernel_rfl),rfl⟩
theorem VR (d:D)(h:JQ d=true):KK C0 56 [d] (.mp MY (MZ d)):=
 ⟨d,.mp MY (MZ .any),4,rfl,rfl,RE h,λa=>⟨dj a,⟨_,_,Tryz.func56,rfl,by kernel_rfl⟩⟩⟩
theorem VL (d:D)(h:JQ d=true):KK C0 28 [d] (.mp Fh (Fi d)):=
 ⟨d,.mp Fh (Fi .any),4,rfl,rfl,RE h,λa=>⟨Od a,⟨_,_,Tryz.func28,rfl,by kernel_rfl⟩⟩⟩
def Mc (f:Nat)(ds:List D):Option D:=match Nat.beq f 28 with
 |true=>match ds with
  | [d]=>match JQ d with
   |true=>some (.mp Fh (Fi d))
   |false=>none
  |_=>none
 |false=>match Nat.beq f 187 with
  |true=>match ds with
   | [.prim (.string s),.prim (.int .u8 c)]=>some (.prim (.int .i64 (Lib.countByte s.data.toList c.toNat.toUInt8:Nat)))
   |_=>none
  |false=>match Nat.beq f 56 with
   |true=>match ds with
    | [d]=>match JQ d with
     |true=>some (.mp MY (MZ d))
     |false=>none
    |_=>none
   |false=>Kz f ds
theorem RO (f:Nat)(ds:List D)(d:D)(h:Mc f ds=some d):F7 C0 f ds d:=by
 unfold Mc at h;split at h
 ·rename_i hf
  obtain rfl:=Ab hf;split at h<;>try(cases h;done)
  split at h<;>try(cases h;done)
  rename_i hp;cases h;exact .inr (VL _ hp)
 ·split at h
  ·rename_i hf
   obtain rfl:=Ab hf;split at h<;>try(cases h;done)
   cases h;exact Ui _ _
  split at h
  ·rename_i hf
   obtain rfl:=Ab hf;split at h<;>try(cases h;done)
   split at h<;>try(cases h;done)
   rename_i hp;cases h;exact .inr (VR _ hp)
  ·exact OL _ _ _ h
def Oo:Value->Value->Bool
 | .int .i64 a,.int .i64 b=>a==b
 | .string a,.string b=>a.data.toList==b.data.toList
 | .bool a,.bool b=>a==b
 | .slice none 0 0,.slice none 0 0=>true
 | .pointer none,.pointer none=>true
 | .nilFunc,.nilFunc=>true
 |_,_=>false
theorem Vb {a b:Value}(h:Oo a b=true):a=b:=by
 unfold Oo at h;split at h
 ·rw[eq_of_beq h]
 ·rename_i a b
  have:=eq_of_beq h
  congr 1
  exact ByteArray.ext (Array.toList_inj.1 this)
 ·rw[eq_of_beq h]
 ·rfl
 ·rfl
 ·rfl
 ·cases h
def GQ (f:D->D->Bool):List D->List D->Bool
 | [],[]=>true
 |a::l,b::m=>f a b&&GQ f l m
 |_,_=>false
theorem Iu {f:D->D->Bool}(hf:∀a b,f a b=true->a=b):∀ {l m:List D},GQ f l m=true->l=m
 | [],[],_=>rfl
 |a::l,b::m,h=>by
  simp only[GQ,Aj]at h;rw[hf a b h.1,Iu hf h.2]
 | [],_::_,h=>by simp[GQ]at h
 |_::_,[],h=>by simp[GQ]at h
def Gx:Nat->D->D->Bool
 | 0,_,_=>false
 |n+1,a,b=>match a,b with
  | .prim a,.prim b=>Oo a b
  | .agg l,.agg m=>GQ (Gx n) l m
  | .sl x y l,.sl x' y' m=>(x==x')&&Nat.beq y y'&&GQ (Gx n) l m
  | .pptr a,.pptr b=>Gx n a b
  | .mp a b,.mp a' b'=>GQ (Gx n) a a'&&GQ (Gx n) b b'
  |_,_=>false
theorem It:∀(n:Nat) (a b:D),Gx n a b=true->a=b
 | 0,_,_,h=>by simp[Gx]at h
 |n+1,a,b,h=>by
  unfold Gx at h;split at h
  ·rw[Vb h]
  ·rw[Iu (It n) h]
  ·simp only[Aj]at h
   rw[eq_of_beq h.1.1,Ab h.1.2,Iu (It n) h.2]
  ·rw[It n _ _ h]
  ·simp only[Aj]at h
   rw[Iu (It n) h.1,Iu (It n) h.2]
  ·cases h
def Ki:List (Nat×List D×D)->Nat->List D->Option D
 | [],_,_=>none
 |(g,a,d)::r,f,ds=>match Nat.beq f g&&GQ (Gx 30) ds a with
  |true=>some d
  |false=>Ki r f ds
abbrev IG (t:List (Nat×List D×D)):Prop:=∀e∈t,Aa C0 e.1 e.2.1 e.2.2/\AO e.2.1
theorem Qc:∀(t:List (Nat×List D×D)),IG t->∀(f:Nat) (ds:List D) (d:D),Ki t f ds=some d->Aa C0 f ds d/\AO ds
 | [],_,f,ds,d,h=>by simp[Ki]at h
 |(g,a,d0)::r,ht,f,ds,d,h=>by
  unfold Ki at h;split at h
  ·rename_i hb
   simp only[Aj]at hb;obtain rfl:=Ab hb.1;obtain rfl:=Iu (It _) hb.2;cases h;exact ht _ C5
  ·exact Qc r (λe he=>ht e (De _ he)) f ds d h
theorem DL:IG []:=λ_ h=>by cases h
theorem DV {f:Nat}{ds:List D}{d:D}{t:List (Nat×List D×D)}(h:Aa C0 f ds d)(hp:AO ds)(ht:IG t):IG ((f,ds,d)::t):=λe he=>by
 rcases Ae.1 he with rfl|he
 ·exact⟨h,hp⟩
 ·exact ht e he
theorem DX {ds:List D}(h:Dk (DZ 30) ds=true):AO ds:=⟨λx hx=>DA (Dj h x hx)⟩
def O4 (t:List (Nat×List D×D))(f:Nat)(ds:List D):Option D:=match Nat.beq f 31 with
 |true=>match ds with
  | [.prim (.string s)]=>some (Am (DY s.data.toList))
  |_=>none
 |false=>match Nat.beq f 57 with
  |true=>match ds with
   | [.prim (.int .i64 n)]=>match decide (-9223372036854775808<=n)&&decide (n<=9223372036854775807)with
    |true=>some (str ⟨(Lib.itoa n).toArray⟩)
    |false=>none
   |_=>none
  |false=>match Nat.beq f 73 with
   |true=>match ds with
    | [.prim (.string s)]=>match Nat.ble s.size 18 with
     |true=>match Lib.atoi s.data.toList with
      |some n=>some (.tup [i64 n,.prim .nilIface])
      |none=>none
     |false=>none
    |_=>none
   |false=>Ki t f ds
theorem Wx {t:List (Nat×List D×D)}(ht:IG t)(f:Nat)(ds:List D)(d:D)(h:O4 t f ds=some d):Aa C0 f ds d/\AO ds:=by
 unfold O4 at h;split at h
 ·rename_i hf
  obtain rfl:=Ab hf;split at h<;>try(cases h;done)
  cases h;exact⟨QI _,Ao⟩
 split at h
 ·rename_i hf
  obtain rfl:=Ab hf;split at h<;>try(cases h;done)
  split at h<;>try(cases h;done)
  rename_i hb;simp only[Aj,FQ]at hb;cases h;exact⟨KQ _ hb.1 hb.2,Ao⟩
 split at h
 ·rename_i hf
  obtain rfl:=Ab hf;split at h<;>try(cases h;done)
  split at h<;>try(cases h;done)
  rename_i hb;split at h<;>try(cases h;done)
  rename_i ha;cases h;exact⟨RB _ _ (A7 hb) ha,Ao⟩
 ·exact Qc t ht _ _ _ h
def em:AJ:=⟨.arr 256 1 false,256,256,true,.agg (Array.replicate 256 (.bool false))⟩
noncomputable def ND (t:Nat):Option AJ:=match Nat.beq t 186 with
 |true=>some em
 |false=>Jk.get t
theorem TK:Aw C0.P ND:=λt i h=>by
 unfold ND at h;split at h
 ·rename_i ht
  obtain rfl:=Ab ht;cases h
  kernel_rfl
 ·exact Ay t i h
noncomputable def gS (l:List Nat)(f:Nat):Bool:=Mb f l
def DS:List Nat:=[91,244,4000000+51,4000000+52,4000000+53,4000000+54,7000000+248,7000000+292,7000000+109,7000000+338]
def OU:List Nat:=173::249::292::172::DS
def bv:List Nat:=318::(6000000+318)::331::338::293::DS
noncomputable def XT (l:List Nat)(t:List (Nat×List D×D)):EV:=⟨ND,Ie.get,Je.get,gS l,O4 t,λ_ _=>none,Mc⟩
theorem DN (l:List Nat){t:List (Nat×List D×D)}(ht:IG t):CD C0 (XT l t):=⟨TK,C3,Gz,Wx ht,by kernel_rfl,λ_ _ _ h=>by simp[XT]at h,RO⟩
set_option maxHeartbeats 2000000
def IH (K g sz:Nat):List D->D
 | []=>BC
 |_::l=>.osl K g sz 0 (l.length+1)
def Kv (K g T sz:Nat):List D->Hp
 | []=>[]
 |x::l=>[⟨K,g,T,sz,x::l⟩]
theorem KC (K g sz:Nat):IH K g sz []=BC:=rfl
theorem Jz (K g sz:Nat)(x:D)(l:List D):IH K g sz (x::l)=.osl K g sz 0 (l.length+1):=rfl
theorem KE (K g T sz:Nat):Kv K g T sz []=[]:=rfl
theorem J0 (K g T sz:Nat)(x:D)(l:List D):Kv K g T sz (x::l)=[⟨K,g,T,sz,x::l⟩]:=rfl
theorem U1 (K g sz:Nat)(x y:D)(l:List D):IH K g sz (x::l++[y])=.osl K g sz 0 (l.length+1+1):=by simp[IH]
theorem wS {n:Nat}(h:n<9223372036854775807):IntKind.i64.wrap ((n:Int)+1)=((n+1:Nat):Int):=wI
theorem Ix (K g T sz:Nat)(l:List D)(H:Hp):Fz (⟨K,g,T,sz,l⟩::H) [] (.osl K g sz 0 l.length) (.sl false sz l):=by
 refine .osl (e:=⟨K,g,T,sz,l⟩) (by simp[Hp.get]) rfl rfl rfl (by simp) rfl (λj d d' h1 h2=>?_) λj d d' q c c' h1 h2 h3 h4=>?_
 ·rw[B6]at h1;rw[h1]at h2;cases h2;rfl
 ·rw[B6]at h1;rw[h1]at h2;cases h2;rw[h3]at h4;cases h4;exact Fz.refl _
theorem Dv {H Hf:Hp}{a a' b b':D}(h1:Fz H Hf a a')(h2:Fz H Hf b b'):Fz H Hf (.tup [a,b]) (.tup [a',b']):=.tup rfl λi d d' hd hd'=>by
 match i with
 | 0=>simp at hd hd';subst hd;subst hd';exact h1
 | 1=>simp at hd hd';subst hd;subst hd';exact h2
 |n+2=>simp at hd
section
variable {C:AX} {X:EV} {B F:AH} {rd:Option Nat} {s:St} {Q:Exit->AH->St->Prop}
theorem TY {a b:Code}{α:Type}(S:α->St)(J:α->Prop)(h1:AN C B rd F a s (λe F1 s1=>Gl (F1=F/\∃x,J x/\Wk s1 (S x)) (λe=>Q e F1 s1) e))(h2:∀x,J x->AN C B rd F b (S x) Q):AN C B rd F (.seq a b) s Q:=
 AN.seq (h1.mono λe F1 s1 h=>by
  cases e with
  |normal=>
   obtain⟨h0,x,hx,h3⟩:=(show F1=F/\∃x,J x/\Wk s1 (S x)from h)
   rw[h0];exact AN.weak (S x) h3 (h2 x hx)
  |ret=>exact h
  |exit j=>exact h
  |goto l=>exact h
  |panic c=>exact h
  |outgrown=>exact h)
end
theorem Nv {tt:Nat->Option AJ}{xt:Nat->Option XI}{g:Operand->D}{t:Nat}{x ix:Operand}{ok:Bool}{K V:List D}{a b:Nat}{z:Value}{s:ByteArray}{d:D}(h1:xt t=some (.map a b z))(h2:g x=.mp K V)(h3:g ix=.prim (.string s))
  (h4:EF s K V=some (some d)):Dg tt xt g (.lookup t x ix ok)=some (DT ok d true,True):=by simp only[Dg,h1,h2,h3,h4]
theorem P0 {tt:Nat->Option AJ}{xt:Nat->Option XI}{g:Operand->D}{t:Nat}{x ix:Operand}{ok:Bool}{K V:List D}{a b:Nat}{z:Value}{s:ByteArray}(h1:xt t=some (.map a b z))(h2:g x=.mp K V)(h3:g ix=.prim (.string s))
  (h4:EF s K V=some none):Dg tt xt g (.lookup t x ix ok)=some (DT ok (ofV z) false,True):=by simp only[Dg,h1,h2,h3,h4]
theorem KX {X:EV}{g:Operand->D}{op:Op}{acc:Prop}{k:Prop->D->Option AI->Prop}{d:D}{p:Prop}(h:Dg X.tt X.xt g op=some (d,p))(hk:k (p/\acc) d none):FY X g op acc k:=by
 unfold FY;rw[h];exact hk
abbrev sb (l:List UInt8):ByteArray:=⟨l.toArray⟩
theorem Ch (l:List UInt8):(sb l).size=l.length:=by simp[ByteArray.size]
theorem Ka (l:List UInt8)(i j:Nat):(sb l).extract i j=sb ((l.take j).drop i):=by
 apply ByteArray.ext;rw[ByteArray.data_extract];simp[List.drop_take]
theorem RU (l:List UInt8):(sb l).toList=l:=by
 rw[ByteArray.toList_eq]
theorem CV (l m:List UInt8):BD (sb l) (sb m)=decide (l=m):=by
 unfold BD;rw[RU,RU,IX,Gv,decide_eq_true_iff]
def Br (c:UInt8):Bool:=Nat.ble 48 c.toNat&&Nat.ble c.toNat 57
def FA:D:=.agg ((List.range 256).map λi=>Am (Nat.ble 48 i&&Nat.ble i 57))
abbrev NC:List UInt8:=[48,49,50,51,52,53,54,55,56,57]
noncomputable def X4:EV:=⟨ND,Ie.get,Je.get,λ_=>false,λ_ _=>none,λ_ _=>none,Kz⟩
theorem Oy:CD C0 X4:=⟨TK,C3,Gz,λ_ _ _ h=>by simp[X4]at h,by kernel_rfl,λ_ _ _ h=>by simp[X4]at h,OL⟩
theorem w4:CR C0 X4:=Oy.w
theorem Ub:Aa C0 121 [str (sb NC)] (.tup [FA,Am true]):=FW Oy 1000 40
def O5 (o:Option D)(b:Bool):Bool:=match o with
 |some (.prim (.bool c))=>c==b
 |_=>false
theorem U8 {o:Option D}{b:Bool}(h:O5 o b=true):o=some (Am b):=by
 unfold O5 at h;split at h
 ·rw[Gv]at h;subst h;rfl
 ·cases h
theorem Tv:((List.range 256).all λc=>O5 ((Et X4 1000 40).1 188 [.pptr FA,.prim (.int .u8 (c:Nat))]) (Nat.ble 48 c&&Nat.ble c 57))=true:=by kernel_rfl
theorem PW (c:UInt8):Aa C0 188 [.pptr FA,.prim (.int .u8 (c.toNat:Nat))] (Am (Br c)):=by
 refine Ta Oy 1000 40 ?_;have h:=CG.1 Tv c.toNat (List.mem_range.2 c.toNat_lt);exact U8 h
instance:Af FA:=⟨λc hc=>by
 change c∈(List.range 256).map (λi=>Am (Nat.ble 48 i&&Nat.ble i 57))at hc;obtain⟨i,_,rfl⟩:=Bj.1 hc;exact .prim _⟩
def EG (l:List UInt8):List UInt8:=(l.reverse.dropWhile Br).reverse
theorem Uv (m:List UInt8)(c:UInt8):EG (m++[c])=if Br c then EG m else m++[c]:=by
 unfold EG;rw[List.reverse_append,List.reverse_singleton,List.singleton_append,JW];split
 ·rfl
 ·rw[List.reverse_cons,List.reverse_reverse]
theorem V0 (l:List UInt8):((EG l).dropWhile Br=[])↔l.all Br=true:=by
 constructor
 ·intro h
  have h1:∀m:List UInt8,m.dropWhile Br=[]->m.all Br=true:=λm=>by
   induction m with
   |nil=>intro _;rfl
   |cons c m ih=>
    intro hm;rw[JW]at hm;split at hm
    ·rename_i hc
     rw[D0,hc,ih hm];rfl
    ·cases hm
  have h2:(l.reverse.dropWhile Br).all Br=true:=by
   have:=h1 _ h
   unfold EG at this
   rwa [List.all_reverse]at this
  have h3:∀m:List UInt8,(m.dropWhile Br).all Br=true->m.all Br=true:=λm=>by
   induction m with
   |nil=>intro _;rfl
   |cons c m ih=>
    intro hm;rw[JW]at hm;split at hm
    ·rename_i hc
     rw[D0,hc,ih hm];rfl
    ·exact hm
  have:=h3 _ h2
  rwa [List.all_reverse]at this
 ·intro h
  have h1:∀m:List UInt8,m.all Br=true->m.dropWhile Br=[]:=λm=>by
   induction m with
   |nil=>intro _;rfl
   |cons c m ih=>
    intro hm;rw[D0,Aj]at hm;rw[JW,AQ hm.1];exact ih hm.2
  have hx:=h1 l.reverse (by rw[List.all_reverse];exact h);unfold EG;rw[hx];rfl
theorem UA (l:List UInt8)(hl:l.length<=1000000000):Aa C0 122 [str (sb l),.pptr FA] (str (sb (l.dropWhile Br))):=by
 refine A0.walk w1 Ro rfl λF=>?_
 have hps:Af FA:=Ao;have hcc:=PW;generalize FA=sd at*;refine sR 0 ?_;refine AN.seq ?_;refine AN.block ?_;refine AN.loop (α:=List UInt8×Nat) (λp=>⟨[(0,str (sb p.1)),(1,.pptr sd)],[],p.2⟩) (λp=>p.1.length) (λp=>p.1.dropWhile Br=l.dropWhile Br/\p.1.length<=l.length) (l,_) ⟨rfl,Ah _⟩ Ap ?_;rintro⟨m,n⟩ F ⟨h1,h2⟩;dsimp only at h1 h2⊢;refine AN.seq ?_;refine AN.seq ?_;cases m with
 |nil=>
  have e1:decide (((sb []).size:Int)>0)=false:=rfl;refine C8 100 ?_;refine D4 e1 ?_;refine Cq ?_;refine Hc ?_;refine sR 400 ?_;refine Ev ?_;exact Ak (by rw[<-h1];rfl) AB.out
 |cons c m=>
  have hsz:=Ch (c::m);have e1:decide (((sb (c::m)).size:Int)>0)=true:=BX (by rw[hsz,CP];omega);have hx:(((sb (c::m)).data.toList.getD ((0:Int)).toNat 0).toNat:Int)=(c.toNat:Int):=rfl;have b1:(0:Int)<((sb (c::m)).size:Int):=by rw[hsz,CP];omega
  have b2:(1:Int)<=((sb (c::m)).size:Int):=by omega
  have e3:(sb (c::m)).extract ((1:Int)).toNat (sb (c::m)).size=sb m:=by
   rw[Ka,hsz,EJ (Ah _)];rfl
  have cc:=hcc c;refine C8 100 ?_;refine D4 e1 ?_;refine Cq ?_;refine FG ?_;refine AN.block ?_;refine AN.seq ?_;refine sZ 200 ?_;refine D4 hx ?_;refine cI cc ?_;rcases hb:Br c with _|_
  ·refine Cq ?_
   refine Hc ?_;refine sR 400 ?_;refine Ev ?_;refine Ak ?_ AB.out;rw[<-h1,JW,AP (by rw[hb];simp)]
  ·refine Cq ?_
   refine FG ?_;refine C8 300 ?_;refine D4 e3 ?_;refine⟨(m,_),⟨?_,?_⟩,?_,Ap⟩
   ·rw[<-h1,JW,AQ hb]
   ·rw[CP]at h2;dsimp only;omega
   ·show m.length<m.length+1;omega
theorem Tz (l:List UInt8)(hl:l.length<=1000000000):Aa C0 123 [str (sb l),.pptr FA] (str (sb (EG l))):=by
 refine A0.walk w1 Rp rfl λF=>?_
 have hps:Af FA:=Ao;have hcc:=PW;generalize FA=sd at*;refine sR 0 ?_;refine AN.seq ?_;refine AN.block ?_;refine AN.loop (α:=List UInt8×Nat) (λp=>⟨[(0,str (sb p.1)),(1,.pptr sd)],[],p.2⟩) (λp=>p.1.length) (λp=>EG p.1=EG l/\p.1.length<=l.length) (l,_) ⟨rfl,Ah _⟩ Ap ?_;rintro⟨m,n⟩ F ⟨h1,h2⟩;dsimp only at h1 h2⊢;refine AN.seq ?_;refine AN.seq ?_;rcases List.eq_nil_or_concat m with rfl|⟨m,c,rfl⟩
 ·have e1:decide (((sb []).size:Int)>0)=false:=rfl
  refine C8 100 ?_;refine D4 e1 ?_;refine Cq ?_;refine Hc ?_;refine sR 400 ?_;refine Ev ?_;exact Ak (by rw[<-h1];rfl) AB.out
 ·rw[List.concat_eq_append]at h1 h2⊢
  have hsz:=Ch (m++[c]);rw[Co,IS]at hsz h2;have e1:decide (((sb (m++[c])).size:Int)>0)=true:=BX (by rw[hsz];omega);have wk1:IntKind.i64.wrap (((sb (m++[c])).size:Int)-1)=(m.length:Int):=by rw[hsz,wI];omega
  have hx:(((sb (m++[c])).data.toList.getD (((m.length:Nat):Int)).toNat 0).toNat:Int)=(c.toNat:Int):=by
   show(((m++[c]).getD m.length 0).toNat:Int)=_;simp
  have b1:((m.length:Nat):Int)<((sb (m++[c])).size:Int):=by rw[hsz];omega
  have e3:(sb (m++[c])).extract 0 (((m.length:Nat):Int)).toNat=sb m:=by
   rw[Ka];simp
  have cc:=hcc c;have ht:=Uv m c;refine C8 100 ?_;refine D4 e1 ?_;refine Cq ?_;refine FG ?_;refine AN.block ?_;refine AN.seq ?_;refine sZ 200 ?_;refine D4 (Bn wk1 hx) ?_;refine cI cc ?_;rcases hb:Br c with _|_
  ·rw[AP (by rw[hb];simp)]at ht
   refine Cq ?_;refine Hc ?_;refine sR 400 ?_;refine Ev ?_;exact Ak (by rw[<-h1,ht]) AB.out
  ·rw[AQ hb]at ht
   refine Cq ?_;refine FG ?_;refine C8 300 ?_;refine D4 (Bn wk1 e3) ?_;refine⟨(m,_),⟨by rw[<-h1,ht],by dsimp only;omega⟩,?_,Ap⟩;dsimp only;rw[Co,IS];omega
namespace TrimW
theorem w1:CR C0 X4:=w4
theorem trim_ok (l:List UInt8)(hl:l.length<=1000000000):Aa C0 72 [str (sb l),str (sb NC)] (str (sb ((EG l).dropWhile Br))):=by
 refine A0.walk w1 Sg rfl λF=>?_
 have cm:=Ub;have c1:=Tz l hl;have hlr:(EG l).length<=1000000000:=by
  unfold EG;rw[List.length_reverse];exact Ax (List.dropWhile_sublist _).length_le (by rw[List.length_reverse];exact hl)
 have c2:=UA (EG l) hlr;have hps:Af FA:=Ao;have eS:=CV l [];have e2:(((sb NC).size:Int)==1)=false:=rfl;have e4:BD (sb NC) (sb [])=false:=by rw[CV];exact CH (by simp)
 have hfit:Ck true 256 FA:=by
  have h:((List.range 256).map λi=>Am (Nat.ble 48 i&&Nat.ble i 57)).length=256:=by rw[Bi,List.length_range]
  have:=Ck.agg (ds:=(List.range 256).map λi=>Am (Nat.ble 48 i&&Nat.ble i 57))
  rw[h]at this;exact this
 refine sR 0 ?_
 by_cases h0:l=[]
 ·subst h0
  have eS':BD (sb []) (sb [])=true:=by rw[CV];exact BX rfl
  refine AN.seq ?_;refine sZ 100 ?_;refine D4 eS' ?_;refine CY (Bn eS' kT) ?_;refine Cq ?_;refine sR 200 ?_;refine Ev ?_;exact Ak rfl AB.out
 ·rw[CH h0]at eS
  refine AN.seq ?_;refine sZ 100 ?_;refine D4 eS ?_;refine CY (Cp eS e4 kF) ?_;refine CY (Cp eS e4 kF) ?_;refine Cq ?_;refine FG ?_;refine AN.seq ?_;refine sZ 300 ?_;refine D4 e2 ?_;refine CY e2 ?_;refine CY e2 ?_;refine Cq ?_;refine FG ?_;refine AN.seq ?_;refine sR 500 ?_;refine B5.same _ cm Ao ?_;refine BG ?_;generalize FA=sd at*
  repeat(refine DH rfl rfl ?_;refine F8 (λ_ _=>rfl) ?_)
  refine Jx (DO (by repeat'(first|exact hfit|refine DO ?_ ?_|exact Bv)) ?_);refine BG ?_;refine sR 600 ?_;refine Cq ?_;refine sR 700 ?_;refine B5.own _ (Tc c1 rfl ?_ Ao (Cm.prim _)) ?_
  ·intro i x y hx hy
   match i with
   | 0=>simp at hx hy;subst hx;subst hy;exact GU.refl _ _
   | 1=>simp at hx hy;subst hx;subst hy;exact GU.ptr rfl rfl rfl rfl
   |i+2=>simp at hx
  rintro d H' n' ⟨rfl,rfl,rfl⟩;refine FX ?_;refine B5.own _ (Tc c2 rfl ?_ Ao (Cm.prim _)) ?_
  ·intro i x y hx hy
   match i with
   | 0=>simp at hx hy;subst hx;subst hy;exact GU.refl _ _
   | 1=>simp at hx hy;subst hx;subst hy;exact GU.ptr rfl rfl rfl rfl
   |i+2=>simp at hx
  rintro d H' n' ⟨rfl,rfl,rfl⟩;refine FX ?_;refine Ev ?_;exact Ak rfl AB.out
end TrimW
def Gw (a:Nat)(l:List UInt8):Nat:=l.foldl (λa c=>a*10+(c.toNat-48)) a
def dv (l:List UInt8):Nat:=Gw 0 l
theorem XQ (l:List UInt8):∀a,Gw a l=a*10^l.length+dv l:=by
 induction l with
 |nil=>intro a;simp[Gw,dv]
 |cons c l ih=>
  intro a;have h1:∀b,Gw b (c::l)=Gw (b*10+(c.toNat-48)) l:=λb=>rfl
  have h2:dv (c::l)=Gw (0*10+(c.toNat-48)) l:=rfl;rw[h1,h2,ih,ih (0*10+(c.toNat-48)),CP,Nat.pow_succ];rw[BS,GO,B6,Nat.mul_assoc,K6 10];omega
theorem Uk (l m:List UInt8):dv (l++m)=dv l*10^m.length+dv m:=by
 have:dv (l++m)=Gw (dv l) m:=by unfold dv Gw;rw[List.foldl_append]
 rw[this,XQ]
theorem UB (l:List UInt8):∀a,l.all Br=true->Lib.decFrom a l=some (Gw a l):=by
 induction l with
 |nil=>intro a _;rfl
 |cons c l ih=>
  intro a h;rw[D0,Aj]at h;have hd:Lib.digitVal c=some (c.toNat-48):=by
   have h1:=h.1;unfold Br at h1;rw[Aj]at h1;unfold Lib.digitVal;rw[AQ ⟨A7 h1.1,A7 h1.2⟩]
  rw[Lib.decFrom,hd];exact ih _ h.2
theorem Pi {c:UInt8}(h:Br c=true):48<=c.toNat/\c.toNat<=57:=by
 unfold Br at h;rw[Aj]at h;exact⟨A7 h.1,A7 h.2⟩
theorem VS {l:List UInt8}(h0:l≠[])(h:l.all Br=true):Lib.atoi l=some (dv l:Int):=by
 cases l with
 |nil=>exact AY rfl h0
 |cons c l=>
  have hc:Br c=true:=by rw[D0,Aj]at h;exact h.1
  obtain⟨c1,c2⟩:=Pi hc;have e1:(c==45)=false:=by
   rw[Bx];intro hh;subst hh;simp at c1
  have e2:(c==43)=false:=by
   rw[Bx];intro hh;subst hh;simp at c1
  unfold Lib.atoi;dsimp only;rw[e1,e2];simp only[Mo,if_false];unfold Lib.decNat;simp only[List.isEmpty_cons,Mo,if_false];rw[UB _ _ h];rfl
abbrev Io:Dr:=[(4,[0,1,2,3],[4])]
open Go.Proofs Go.RowKit
set_option maxRecDepth 20000
set_option maxHeartbeats 2000000
def B2 (l:List UInt8):Bool:=(decide (1<=l.length)&&decide (l.length<=9))&&l.all Br && !(decide (2<=l.length)&&(l.headD 0==48))
def Cg (l:List UInt8):Nat:=if B2 l then dv l else 0
theorem Ju (l:List UInt8)(hl:l.length<=1000000):Aa C0 36 [str (sb l)] (.tup [i64 (Cg l:Nat),Am (B2 l)]):=by
 refine A0.walk w1 Sa rfl λF=>?_
 have ct:=TrimW.trim_ok l (by omega);have hsz:=Ch l;have eS:=CV l [];have eT:BD (sb ((EG l).dropWhile Br)) (sb [])=decide (l.all Br=true):=by
  rw[CV,IX,decide_eq_true_iff,decide_eq_true_iff];exact V0 l
 have e2:BD (sb l) (sb [48])=decide (l=[48]):=CV l [48];have hch:(((sb l).data.toList.getD ((0:Int)).toNat 0).toNat:Int)=((l.headD 0).toNat:Int):=by
  show((l.getD 0 0).toNat:Int)=_;cases l<;>rfl
 rcases Ar 9 l.length with h9|h9
 ·have hne:l≠[]:=λh=>by subst h;simp at h9
  have e9:decide (((sb l).size:Int)>9)=true:=BX (by rw[hsz];omega);rw[CH hne]at eS;have hI:B2 l=false:=by unfold B2;rw[CH (show ¬l.length<=9 by omega)];simp
  refine AT Io (Bn eS e9) AA AA AA AA AA AA ?_;refine Ak ?_ AB.out;unfold Cg;rw[hI];rfl
 have e9:decide (((sb l).size:Int)>9)=false:=CH (by rw[hsz];omega)
 by_cases h0:l=[]
 ·subst h0
  rw[BX rfl]at eS;refine AT Io (Bn eS e9) AA AA AA AA AA AA ?_;exact Ak rfl AB.out
 rw[CH h0]at eS;have hl1:1<=l.length:=by cases l<;>simp at h0⊢
 cases hall:l.all Br with
 |false=>
  rw[hall]at eT;have eT':BD (sb ((EG l).dropWhile Br)) (sb [])=false:=eT;have hI:B2 l=false:=by unfold B2;rw[hall];simp
  refine AT Io (Cp eS e9 eT') ct AA AA AA AA AA ?_;refine Ak ?_ AB.out;unfold Cg;rw[hI];rfl
 |true=>
  rw[hall]at eT;have eT':BD (sb ((EG l).dropWhile Br)) (sb [])=true:=eT;have cA:=RB (sb l) (dv l) (by rw[hsz];omega) (VS h0 hall);have hb0:((0:Int))<((sb l).size:Int):=by rw[hsz];omega
  cases hz:l.headD 0==48 with
  |false=>
   have hch2:((((l.headD 0).toNat:Int))==48)=false:=by
    rw[Bx]at hz⊢;intro h;apply hz
    have:(l.headD 0).toNat=48:=by omega
    exact UInt8.toNat_inj.1 this
   have hI:B2 l=true:=by
    unfold B2;rw[hall,hz,BX hl1,BX h9];simp
   refine AT Io (FV eS e9 eT' hch hch2) ct cA AA AA AA AA ?_;refine Ak ?_ AB.out;unfold Cg;rw[hI];rfl
  |true=>
   have hch2:((((l.headD 0).toNat:Int))==48)=true:=by
    rw[Gv]at hz⊢;rw[hz];rfl
   by_cases h1:l=[48]
   ·rw[BX h1]at e2
    have hI:B2 l=true:=by rw[h1];rfl
    refine AT Io (Gy eS e9 eT' hch hch2 e2) ct cA AA AA AA AA ?_;refine Ak ?_ AB.out;unfold Cg;rw[hI];rfl
   ·rw[CH h1]at e2
    have hI:B2 l=false:=by
     have:2<=l.length:=by
      rcases l with _|⟨a,_|⟨b,t⟩⟩
      ·simp at hl1
      ·simp at hz;subst hz;exact AY rfl h1
      ·simp
     unfold B2;rw[hz,BX this];simp
    refine AT Io (Gy eS e9 eT' hch hch2 e2) ct AA AA AA AA AA ?_;refine Ak ?_ AB.out;unfold Cg;rw[hI];rfl
def CB (c:UInt8)(l:List UInt8):Nat:=(l.takeWhile (· != c)).length
theorem Il (c b:UInt8)(l:List UInt8):CB c (b::l)=if b=c then 0 else CB c l+1:=by
 unfold CB;rw[List.takeWhile_cons]
 by_cases h:b=c
 ·rw[AP (by simpa using h),AQ h];rfl
 ·rw[AQ (by simpa using h),AP h,CP]
def E9 (c:UInt8)(l:List UInt8):Int:=if CB c l<l.length then(CB c l:Int)else -1
theorem UG (c:UInt8)(l:List UInt8):Lib.indexByte l c=E9 c l:=by
 unfold E9
 induction l with
 |nil=>rfl
 |cons b l ih=>
  unfold Lib.indexByte;rw[Il,CP]
  by_cases h:b=c
  ·subst h
   simp
  ·have hb:(b==c)=false:=by simpa using h
   rw[hb,ih,AP h]
   by_cases h2:CB c l<l.length
   ·have h3:CB c l+1<l.length+1:=by omega
    have h4:(((CB c l:Nat):Int) == -1)=false:=Bx.2 (by omega);simp only[h2,h3,h4,if_true,Mo,if_false];omega
   ·have h3:¬CB c l+1<l.length+1:=by omega
    simp only[h2,h3,Mo,if_false];rfl
theorem UZ (c:UInt8)(l:List UInt8):Aa C0 224 [str (sb l),.prim (.int .u8 (c.toNat:Nat))] (i64 (E9 c l)):=by
 refine A0.walk w1 Rt rfl λF=>?_
 have e1:firstIdx (sb l) ((((c.toNat:Nat):Int)).toNat.toUInt8)=E9 c l:=by
  rw[Lib.firstIdx_eq,IW,show c.toNat.toUInt8=c from UInt8.ofNat_toNat];exact UG c l
 generalize E9 c l=r at*;refine sR 0 ?_;refine sZ 100 ?_;refine D4 e1 ?_;refine Ev ?_;exact Ak rfl AB.out
theorem bE (c:UInt8)(l:List UInt8):Aa C0 148 [str (sb l),str (sb [c])] (i64 (E9 c l)):=by
 refine A0.walk w1 Rs rfl λF=>?_
 have c1:=UZ c l;have eS:=CV [c] l;have hr:[c]=l->E9 c l=0:=λh=>by subst h;unfold E9;rw[Il];simp
 generalize E9 c l=r at*;have e0:(((sb [c]).size:Int)==0)=false:=rfl;have e1:(((sb [c]).size:Int)==1)=true:=rfl;have hs1:(0:Int)<((sb [c]).size:Int):=Int.one_pos;have hx:(((sb [c]).data.toList.getD ((0:Int)).toNat 0).toNat:Int)=(c.toNat:Int):=rfl
 by_cases h:[c]=l
 ·rw[BX h]at eS
  have hr:=hr h;subst hr;refine AT Ad (Cp e0 kF eS) AA AA AA AA AA AA ?_;exact Ak rfl AB.out
 ·rw[CH h]at eS
  refine AT Ad (FV e0 kF eS e1 hx) c1 AA AA AA AA AA ?_;exact Ak rfl AB.out
theorem Tt (c:UInt8)(l:List UInt8):Aa C0 92 [str (sb l),str (sb [c])] (i64 (E9 c l)):=by
 refine A0.walk w1 Sj rfl λF=>?_
 have c1:=bE c l;generalize E9 c l=r at*;refine AT Ad kB c1 AA AA AA AA AA ?_;exact Ak rfl AB.out
noncomputable def X5:EV:=⟨Jk.get,Ie.get,Je.get,λ_=>false,λ_ _=>none,λ_ _=>none,Mc⟩
theorem ew:CD C0 X5:=⟨Ay,C3,Gz,λ_ _ _ h=>by simp[X5]at h,by kernel_rfl,λ_ _ _ h=>by simp[X5]at h,RO⟩
theorem w5:CR C0 X5:=ew.w
namespace CntW
theorem w1:CR C0 X5:=w5
theorem countC (c:UInt8)(l:List UInt8):Aa C0 118 [str (sb l),str (sb [c])] (i64 (l.count c:Nat)):=by
 refine A0.walk w1 Rn rfl λF=>?_
 have e0:(((sb [c]).size:Int)==0)=false:=rfl;have e1:(((sb [c]).size:Int)==1)=true:=rfl;have hs1:(0:Int)<((sb [c]).size:Int):=Int.one_pos;have hx:(((sb [c]).data.toList.getD ((0:Int)).toNat 0).toNat:Int)=(c.toNat:Int):=rfl;have hn:Lib.countByte l (((c.toNat:Nat):Int)).toNat.toUInt8=l.count c:=by
  rw[IW,show c.toNat.toUInt8=c from UInt8.ofNat_toNat];rfl
 generalize l.count c=r at*;refine AT Ad (Cp e0 e1 hx) AA AA AA AA AA AA ?_;exact Ak (by rw[<-hn]) AB.out
end CntW
def BO (c:UInt8):List UInt8->List (List UInt8)
 | []=>[[]]
 |b::l=>if b=c then[]::BO c l else match BO c l with
  |w::ws=>(b::w)::ws
  | []=>[[b]]
theorem P3 (c:UInt8):∀l:List UInt8,BO c l≠[]
 | []=>by simp[BO]
 |b::l=>by
  unfold BO;split
  ·simp
  ·split<;>simp
theorem LV (c b:UInt8)(l:List UInt8):BO c (b::l)=if b=c then[]::BO c l else match BO c l with
  |w::ws=>(b::w)::ws
  | []=>[[b]]:=rfl
theorem Pv (c:UInt8):∀l:List UInt8,CB c l<l.length->BO c l=l.take (CB c l)::BO c (l.drop (CB c l+1))
 | [],h=>by simp at h
 |b::l,h=>by
  rw[Il]at h⊢;rw[LV]
  by_cases hb:b=c
  ·rw[AQ hb,AQ hb];rfl
  ·rw[AP hb,AP hb]
   rw[AP hb,CP]at h;rw[Pv c l (by omega)];rfl
theorem NU (c:UInt8):∀l:List UInt8,l.count c=0->BO c l=[l]
 | [],_=>rfl
 |b::l,h=>by
  have hb:b≠c:=λe=>by subst e;simp at h
  rw[List.count_cons_of_ne hb]at h;unfold BO;rw[AP hb,NU c l h]
theorem Rf (c:UInt8):∀l:List UInt8,0<l.count c->CB c l<l.length
 | [],h=>by simp at h
 |b::l,h=>by
  rw[Il,CP]
  by_cases hb:b=c
  ·rw[AQ hb];omega
  ·rw[AP hb]
   rw[List.count_cons_of_ne hb]at h
   have:=Rf c l h
   omega
theorem Ph (c:UInt8):∀l:List UInt8,CB c l<l.length->l.count c=(l.drop (CB c l+1)).count c+1
 | [],h=>by simp at h
 |b::l,h=>by
  rw[Il,CP]at h;rw[Il]
  by_cases hb:b=c
  ·subst hb;simp
  ·rw[AP hb]at h⊢
   rw[List.count_cons_of_ne hb,List.drop_succ_cons];exact Ph c l (by omega)
theorem LN (c:UInt8):∀l:List UInt8,(BO c l).length=l.count c+1
 | []=>rfl
 |b::l=>by
  unfold BO
  by_cases hb:b=c
  ·rw[AQ hb,CP,LN c l,hb,List.count_cons_self]
  ·rw[AP hb,List.count_cons_of_ne hb,<-LN c l]
   have:=P3 c l
   split
   ·rename_i w ws h;rw[h];rfl
   ·rename_i h;exact AY h this
abbrev AR (l:List UInt8):D:=str (sb l)
theorem UC (c:UInt8)(l:List UInt8)(hl:l.length<=100000):Aa C0 70 [str (sb l),str (sb [c]),i64 0,i64 (-1)] (.sl false 1 ((BO c l).map AR)):=by
 refine A0.walk w1 Se rfl λF=>?_
 have cC:=CntW.countC c l;have hcl:l.count c<=l.length:=List.count_le_length;have hsz:=Ch l;have eS:BD (sb [c]) (sb [])=false:=by rw[CV];simp
 have w1':IntKind.i64.wrap (((l.count c:Nat):Int)+1)=((l.count c+1:Nat):Int):=by rw[wI];omega
 have w2':IntKind.i64.wrap (((sb l).size:Int)+1)=((l.length+1:Nat):Int):=by rw[hsz,wI];omega
 have f1:((-1:Int)==0)=false:=rfl;have f2:decide ((-1:Int)<0)=true:=rfl;have w3':min (((l.count c+1:Nat):Int)) ((l.length+1:Nat):Int)=((l.count c+1:Nat):Int):=by omega
 have w4':IntKind.i64.wrap (((l.count c+1:Nat):Int)-1)=((l.count c:Nat):Int):=by rw[wI];omega
 have r3:List.replicate (l.count c+1) (D.prim BJ)=(List.replicate (l.count c+1) []).map AR:=by rw[List.map_replicate]
 generalize hN:l.count c=N0 at*;refine AT Ad (Eu eS w1' w2' f1 f2 w3' (Cp w4' kN r3)) cC AA AA AA AA AA ?_;refine AN.loop (α:=List (List UInt8)×List UInt8×Nat) (λp=>⟨[(0,AR p.2.1),(1,AR [c]),(2,i64 0),(3,i64 N0),(8,BC),(9,.osl 801 19 1 0 (N0+1)),(10,i64 p.1.length)],[⟨801,19,9,1,(p.1++List.replicate (N0+1-p.1.length) []).map AR⟩],p.2.2⟩) (λp=>N0-p.1.length)
  (λp=>BO c l=p.1++BO c p.2.1/\p.1.length+p.2.1.count c=N0/\p.2.1.length<=l.length) ([],l,_) ⟨rfl,by simp[hN],Ah _⟩ Ap ?_
 rintro⟨dn,m,n1⟩ F ⟨h1,h2,h3⟩;dsimp only at h1 h2 h3⊢;clear r3 cC;have hszm:=Ch m;rcases Ar dn.length N0 with h4|h4
 ·have t1:decide (((dn.length:Nat):Int)<((N0:Nat):Int))=true:=BB
  have hpl:=Rf c m (by omega);have cI':=Tt c m;have hpI:E9 c m=((CB c m:Nat):Int):=by unfold E9;rw[AQ hpl]
  rw[hpI]at cI';have t2:decide ((((CB c m:Nat):Int))<0)=false:=Au;have wa:IntKind.i64.wrap (((CB c m:Nat):Int)+0)=((CB c m:Nat):Int):=by rw[wI];omega
  have e2:(sb m).extract 0 (CB c m)=sb (m.take (CB c m)):=by rw[Ka];rfl
  have wb:IntKind.i64.wrap (((CB c m:Nat):Int)+((sb [c]).size:Int))=((CB c m+1:Nat):Int):=by
   show IntKind.i64.wrap (((CB c m:Nat):Int)+1)=_;rw[wI];omega
  have e3:(sb m).extract (CB c m+1) (sb m).size=sb (m.drop (CB c m+1)):=by
   rw[Ka,hszm,EJ (Ah _)]
  obtain⟨d2,hd2⟩:∃d2,dn++[m.take (CB c m)]=d2:=⟨_,rfl⟩
  have hdl:d2.length=dn.length+1:=by rw[<-hd2,Co,IS]
  have wc:IntKind.i64.wrap (((dn.length:Nat):Int)+1)=((d2.length:Nat):Int):=by rw[hdl];exact wS (by omega)
  have hk1:N0+1-dn.length=(N0-dn.length)+1:=by omega
  have hE:((dn++List.replicate (N0+1-dn.length) []).map AR)[dn.length]?=some (AR []):=by
   rw[BW,B3 (Ah _),Nat.sub_self,hk1];rfl
  have hset:((dn++List.replicate (N0+1-dn.length) []).map AR).set dn.length (AR (m.take (CB c m)))=(d2++List.replicate (N0+1-d2.length) []).map AR:=by
   rw[hdl,<-hd2,hk1,show N0+1-(dn.length+1)=N0-dn.length by omega,<-List.map_set]
   congr 1
   rw[List.set_append_right _ _ (Ah _),Nat.sub_self,List.replicate_succ,List.set_cons_zero,C6];rfl
  have hle2:CB c m+1<=m.length:=hpl;refine AT Ad (Eu t1 t2 wa e2 kN B6 (FV hE hset wb e3 wc)) cI' AA AA AA AA AA ?_;exact⟨(d2,m.drop (CB c m+1),_),⟨by rw[h1,Pv c m hpl,<-hd2,C6];rfl,by dsimp only;rw[hdl,<-h2,Ph c m hpl];omega,by dsimp only;rw[LA];omega⟩,by dsimp only;rw[hdl];omega,Ap⟩
 ·have hd:dn.length=N0:=by omega
  have t1:decide (((dn.length:Nat):Int)<((N0:Nat):Int))=false:=Au;have hc0:m.count c=0:=by omega
  have hE:((dn++List.replicate (N0+1-dn.length) []).map AR)[dn.length]?=some (AR []):=by
   rw[BW,B3 (Ah _),Nat.sub_self,hd,show N0+1-N0=1 by omega];rfl
  have hset:((dn++List.replicate (N0+1-dn.length) []).map AR).set dn.length (AR m)=(dn++[m]).map AR:=by
   rw[hd,show N0+1-N0=1 by omega,<-hd,<-List.map_set,List.set_append_right _ _ (Ah _),Nat.sub_self];rfl
  have wc:IntKind.i64.wrap (((dn.length:Nat):Int)+1)=((dn.length+1:Nat):Int):=wS (by omega);refine AT Ad (Gy t1 kN B6 hE hset wc) AA AA AA AA AA AA ?_;have hfz:=Ix 801 19 9 1 ((dn++[m]).map AR) [];rw[Bi,Co,IS]at hfz;rw[h1,NU c m hc0];exact⟨_,hfz,AB.out,rfl⟩
theorem Vx (c:UInt8)(l:List UInt8)(hl:l.length<=100000):Aa C0 34 [str (sb l),str (sb [c])] (.sl false 1 ((BO c l).map AR)):=by
 refine A0.walk w1 SO rfl λF=>?_
 have cG:=UC c l hl;have hp:AB (.sl false 1 ((BO c l).map AR)):=Ao;generalize(BO c l).map AR=r at*;refine AT Ad kB cG AA AA AA AA AA ?_;exact Ak rfl AB.out
def Bb (l:List UInt8):Nat:=l.foldl (λn b=>(131*n+b.toNat)%1000003) 7
theorem HD (l:List UInt8):Bb l<1000003:=by
 have h:∀(l:List UInt8) (a:Nat),a<1000003->l.foldl (λn b=>(131*n+b.toNat)%1000003) a<1000003:=λl=>by
  induction l with
  |nil=>exact λa h=>h
  |cons b l ih=>exact λa _=>ih _ (GP _ (by decide))
 exact h l 7 (by decide)
theorem QW {l:List UInt8}{i:Nat}{b:UInt8}(h:l[i]?=some b):Bb (l.take (i+1))=(131*Bb (l.take i)+b.toNat)%1000003:=by
 have:l.take (i+1)=l.take i++[b]:=by rw[Fr,h];rfl
 unfold Bb;rw[this,List.foldl_append];rfl
theorem Qz {l:List UInt8}{i:Nat}{b:UInt8}(h:l[i]?=some b):((sb l).data.toList.getD i 0)=b:=by
 show l.getD i 0=b;rw[Fs,h];rfl
theorem Q0 {q b:Nat}(hq:q<1000003)(hb:b<256):(IntKind.i64.wrap (IntKind.i64.wrap (131*(q:Int))+IntKind.i64.wrap (b:Int))).tmod 1000003=(((131*q+b)%1000003:Nat):Int):=by
 rw[wI (z:=131*(q:Int)) (by omega) (by omega),wI (z:=(b:Int)) (by omega) (by omega),wI];rw[show 131*(q:Int)+(b:Int)=((131*q+b:Nat):Int) by omega];exact(Int.ofNat_tmod _ _).symm
theorem So (b:UInt8):b.toNat<256:=b.toNat_lt
theorem Rz:∀ {l:List (List UInt8)} {i:Nat} {s:List UInt8},l[i]?=some s->(l.take i).contains s=false->l.idxOf s=i
 | [],_,_,h,_=>by simp at h
 |a::l,0,s,h,_=>by simp at h;subst h;simp
 |a::l,i+1,s,h,h0=>by
  rw[List.take_succ_cons,List.contains_cons,K8]at h0;have ha:a≠s:=λe=>by rw[e]at h0;simp at h0
  have hb:(a==s)=false:=by simpa using ha
  rw[List.idxOf_cons,hb,Rz (by simpa using h) h0.2];rfl
theorem WS {l:List (List UInt8)}{i:Nat}{s:List UInt8}(h:l[i]?=some s):l.contains s=true:=by
 rw[List.contains_iff_mem];exact Bf h
theorem Uh {l:List (List UInt8)}{i:Nat}{s x:List UInt8}(h:l[i]?=some x)(h0:(l.take i).contains s=false)(hx:¬s=x):(l.take (i+1)).contains s=false:=by
 rw[Fr,h];simp only[Option.toList_some,List.contains_eq_mem,BL,EK,PE]at h0⊢;rintro(h1|h1)
 ·exact h0 h1
 ·exact hx h1
theorem Is {l:List (List UInt8)}{i:Nat}{x:List UInt8}(h:l[i]?=some x):(l.map AR)[i]?=some (AR x):=by rw[BW,h];rfl
theorem Rh (l:List UInt8)(hl:l.length<=100000):Aa C0 37 [str (sb l)] (str (sb (Lib.itoa (Bb l:Nat)))):=by
 refine A0.walk w1 dY rfl λF=>?_
 have hsz:=Ch l;have hck:=HD l;have cT:=KQ (Bb l:Nat) (by omega) (by omega);refine AT Ad kB AA AA AA AA AA AA ?_;refine AN.loop (α:=Nat×Nat) (λp=>⟨[(0,str (sb l)),(2,AR []),(3,i64 (Bb (l.take p.1):Nat)),(6,i64 l.length),(7,i64 p.1)],[],p.2⟩) (λp=>l.length-p.1) (λp=>p.1<=l.length) (0,_) (Cv _) (by rw[hsz];exact Ap) ?_;rintro⟨i,n1⟩ F h1;dsimp only at h1⊢;rcases Ar i l.length with h2|h2
 ·obtain⟨b,hb⟩:∃b,l[i]?=some b:=⟨l[i],BK h2⟩
  have t1:decide (((i:Nat):Int)<((l.length:Nat):Int))=true:=BB;have hx:=Qz hb;have hbl:=So b;have hc:=HD (l.take i);have ht:=QW hb;have wc:=wS (n:=i) (by omega);have hi2:((i:Nat):Int)<((sb l).size:Int):=by rw[hsz];omega
  generalize Bb (l.take i)=q at*;obtain⟨q2,hq2⟩:∃q,Bb (l.take (i+1))=q:=⟨_,rfl⟩
  rw[hq2]at ht;have hst:=Q0 hc hbl;rw[<-ht]at hst;refine AT Ad (FV t1 kN hx wc hst) AA AA AA AA AA AA ?_;exact⟨(i+1,_),by dsimp only;omega,by dsimp only;omega,(by dsimp only;rw[hq2];exact Ap)⟩
 ·have hi:i=l.length:=by omega
  subst hi;have t1:decide (((l.length:Nat):Int)<((l.length:Nat):Int))=false:=Au;have hta:Bb (l.take l.length)=Bb l:=by rw[EJ (Ah _)]
  rw[hta];generalize Bb l=q at*;refine AT Ad t1 cT AA AA AA AA AA ?_;exact Ak rfl AB.out
theorem Ua (l:List (List UInt8))(s:List UInt8)(nn:Bool)(hl:l.length<=100000):Aa C0 71 [.sl nn 1 (l.map AR),AR s] (i64 (if l.contains s then(l.idxOf s:Nat)else -1)):=by
 refine A0.walk w1 Sf rfl λF=>?_
 have hml:(l.map AR).length=l.length:=Bi ..;refine AT Ad kB AA AA AA AA AA AA ?_;refine AN.loop (α:=Nat×Nat) (λp=>⟨[(0,.sl nn 1 (l.map AR)),(1,AR s),(4,i64 0),(7,i64 l.length),(8,i64 p.1)],[],p.2⟩) (λp=>l.length-p.1) (λp=>p.1<=l.length/\(l.take p.1).contains s=false) (0,_) ⟨Cv _,rfl⟩ (by rw[hml];exact Ap) ?_;rintro⟨i,n1⟩ F ⟨h1,h0⟩;dsimp only at h1 h0⊢;rcases Ar i l.length with h2|h2
 ·obtain⟨x,hx⟩:∃x,l[i]?=some x:=⟨l[i],BK h2⟩
  have t1:decide (((i:Nat):Int)<((l.length:Nat):Int))=true:=BB;have hx':=Is hx;have eS:=CV s x;have wc:=wS (n:=i) (by omega)
  by_cases hsx:s=x
  ·rw[BX hsx]at eS
   have e1:=WS (hsx ▸ hx);have e2:=Rz (hsx ▸ hx) h0;refine AT Ad (Bn t1 eS) hx' AA AA AA AA AA ?_;exact Ak (by rw[e1,e2];rfl) AB.out
  ·rw[CH hsx]at eS
   have h3:=Uh hx h0 hsx;refine AT Ad (Cp t1 eS wc) hx' AA AA AA AA AA ?_;exact⟨(i+1,_),⟨by dsimp only;omega,h3⟩,by dsimp only;omega,Ap⟩
 ·have hi:i=l.length:=by omega
  subst hi;have t1:decide (((l.length:Nat):Int)<((l.length:Nat):Int))=false:=Au;rw[EJ (Ah _)]at h0;refine AT Ad t1 AA AA AA AA AA AA ?_;exact Ak (by rw[h0];rfl) AB.out
theorem Tx (l:List (List UInt8))(s:List UInt8)(nn:Bool)(hl:l.length<=100000):Aa C0 35 [.sl nn 1 (l.map AR),AR s] (Am (l.contains s)):=by
 refine A0.walk w1 SZ rfl λF=>?_
 have cI:=Ua l s nn hl;have e1:decide ((if l.contains s then((l.idxOf s:Nat):Int)else -1)>=0)=l.contains s:=by
  cases l.contains s
  ·rfl
  ·exact BX (by rw[AQ rfl];omega)
 generalize(if l.contains s then((l.idxOf s:Nat):Int)else -1)=r at*;generalize l.contains s=b at*;have hp:AB (D.sl nn 1 (l.map AR)):=Ao;generalize l.map AR=q at*;refine AT Ad e1 cI AA AA AA AA AA ?_;exact Ak rfl AB.out
end Go.Ide
