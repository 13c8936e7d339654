/- The layer of own lemmas and contracts, part 8. -/
import Derived.Test.YteeceibhhdapaaaGreatDoorV7
import Derived.Test.YteeceibhhdapaaaGreatDoorV3
set_option linter.unusedVariables false
set_option linter.unusedSimpArgs false
namespace Go.Ide
open Go.Proofs Go.RowKit
set_option maxRecDepth 20000
def Cc (b:Nat):Bool:=((decide (97<=b)&&decide (b<=122))||(decide (65<=b)&&decide (b<=90)))||(decide (48<=b)&&decide (b<=57))||b==45||b==95||b==46
def DO (l:List UInt8):Bool:=l.all (λb=>Cc b.toNat)&&(decide (1<=l.length)&&decide (l.length<=24))
theorem av (s:ByteArray)(p:Nat)(hp:p<s.size):s.data.toList[p]?=some (s.get! p):=by
 have hp':p<s.data.size:=hp;rw[KC,Bg hp']
 congr 1
 show _=s.data[p]!;rw[getElem!_pos s.data p hp']
theorem W1 (s:ByteArray)(p:Nat)(h:(s.get! p).toNat<128):Utf8.decode s p=((s.get! p).toNat,1):=by
 unfold Utf8.decode;exact AH h
theorem jE (s:ByteArray)(p:Nat)(h:¬(s.get! p).toNat<128):128<=(Utf8.decode s p).1:=by
 unfold Utf8.decode;dsimp only;simp only[DL];rw[AG h];have hv:128<=Utf8.runeError:=by decide
 repeat' split
 all_goals first|exact hv|(rename_i h1;simp only[ge_iff_le,BY,Gp]at h1;dsimp only;omega)
theorem gJ (s:ByteArray):AK C0 56 [str s] (Au (DO s.data.toList)):=by
 refine Ak.walk w1 aK rfl λB=>?_
 have hsz:s.data.toList.length=s.size:=HJ;refine fR 0 ?_;refine AC.seq ?_;refine AC.seq ?_;refine ut w1 100 [0] 1 rfl (by kernel_rfl) rfl ?_;refine B6 ?_;intro F hF;refine At ?_;refine AC.block ?_;refine Fv (α:=Nat×Nat) (λp=>⟨[(0,str s),(7,.optr 101 2 0 0 0)],[],p.2⟩) (λp=>s.size-p.1) (λp F=>Ll C0 B F 101 2 s p.1/\p.1<=s.size/\(s.data.toList.take p.1).all (λb=>Cc b.toNat)=true) (0,3) ⟨hF,BS _,rfl⟩ AJ ?_;rintro⟨p,n⟩ F ⟨hIt,hp,hall⟩;dsimp only at hIt hp hall⊢;refine AC.seq ?_;refine us w1 200 0 [1] rfl (by kernel_rfl) s p ?_;refine And.intro hIt (And.intro (λhlt F hIt=>?_) (λhge=>?_))
 ·refine B6 ?_
  generalize hc:(Utf8.decode s p).1=c;refine AC.seq ?_;refine AL ?_;refine Am ?_;refine AC.block ?_;refine fR 300 ?_;refine Db ⟨[(0,str s),(7,.optr 101 2 0 0 0),(4,.prim (.int .i32 c)),(5,Au ((decide ((c:Int)>=97)&&decide ((c:Int)<=122))||(decide ((c:Int)>=65)&&decide ((c:Int)<=90))))],[],n+30⟩ (An w1 400 (by kernel_rfl) ?_) ?_
  ·repeat'(first|(refine And.intro (by exact Bz) ?_;refine At ?_)|((refine Br (λhb=>?_) (λhb=>?_))<;>(try simp only[Bb,Bq]at hb)<;>(try simp only[hb])<;>(refine At ?_)))
   all_goals exact AJ
  generalize hL:((decide ((c:Int)>=97)&&decide ((c:Int)<=122))||(decide ((c:Int)>=65)&&decide ((c:Int)<=90)))=L;refine Db ⟨[(0,str s),(7,.optr 101 2 0 0 0),(47,Au ((((!L && !(decide ((c:Int)>=48)&&decide ((c:Int)<=57)))&&((c:Int) != 45))&&((c:Int) != 95))&&((c:Int) != 46)))],[],n+60⟩ (An w1 500 (by kernel_rfl) ?_) ?_
  ·repeat'(first|(refine And.intro (by exact Bz) ?_;refine At ?_)|((refine Br (λhb=>?_) (λhb=>?_))<;>(try simp only[Bb,Bq]at hb)<;>(try simp only[hb])<;>(refine At ?_)))
   all_goals exact AJ
  have hbad:((((!L && !(decide ((c:Int)>=48)&&decide ((c:Int)<=57)))&&((c:Int) != 45))&&((c:Int) != 95))&&((c:Int) != 46)) = !(Cc c):=by
   subst hL;rw[GN];simp only[Cc,BY,Bb,JF,Bool.and_eq_false_iff,KA,bne_iff_ne,ne_eq,Bw];omega
  rw[hbad];refine AL ?_
  (refine Br (λhb=>?_) (λhb=>?_))<;>(try simp only[Bb,Bq]at hb)<;>(try simp only[hb])
  ·have hbf:Cc c=false:=by simpa using hb
   refine fR 600 ?_;refine Af ?_;refine AQ ?_ AA.out;have hb8:Cc (s.get! p).toNat=false:=by
    by_cases hlow:(s.get! p).toNat<128
    ·rw[W1 s p hlow]at hc
     rw[show(s.get! p).toNat=c from hc];exact hbf
    ·unfold Cc;simp;omega
   have:DO s.data.toList=false:=by
    unfold DO
    have:s.data.toList.all (λb=>Cc b.toNat)=false:=by
     rw[List.all_eq_false];exact⟨_,BE (av s p hlt),by rw[hb8];simp⟩
    rw[this];rfl
   rw[this]
  ·have hbt:Cc c=true:=by simpa using hb
   have hclt:c<128:=by
    unfold Cc at hbt;simp only[MW,BY,Gp,Dv]at hbt;omega
   have hlow:(s.get! p).toNat<128:=by
    apply DH;intro h
    have:=jE s p h
    omega
   rw[W1 s p hlow]at hc hIt;refine Am ?_;refine⟨(p+1,n+60),⟨hIt,hlt,?_⟩,by dsimp only;omega,AJ⟩;rw[EB,av s p hlt,LC,hall];simp;rw[show(s.get! p).toNat=c from hc];exact hbt
 ·have hpe:p=s.size:=by omega
  refine B6 ?_;refine AC.seq ?_;refine AL ?_;refine B5 ?_;refine Db ⟨[(2,Au (decide (1<=(s.size:Int))&&decide ((s.size:Int)<=24)))],[],n+60⟩ (An w1 700 (by kernel_rfl) ?_) ?_
  ·repeat'(first|(refine And.intro (by exact Bz) ?_;refine At ?_)|((refine Br (λhb=>?_) (λhb=>?_))<;>(try simp only[Bb,Bq]at hb)<;>(try simp only[hb])<;>(refine At ?_)))
   all_goals exact AJ
  refine Af ?_;refine AQ ?_ AA.out;have hall':s.data.toList.all (λb=>Cc b.toNat)=true:=by rw[<-hall,hpe,<-hsz,DW]
  unfold DO;rw[hall',IZ,hsz];have e:(decide (1<=(s.size:Int))&&decide ((s.size:Int)<=24))=(decide (1<=s.size)&&decide (s.size<=24)):=by
   rw[GN];simp only[BY,Gp];omega
  rw[<-e]
def TG:Value->Value->Bool
 | .int .i64 a,.int .i64 b=>a==b
 | .string a,.string b=>a.data.toList==b.data.toList
 | .bool a,.bool b=>a==b
 | .slice none 0 0,.slice none 0 0=>true
 |_,_=>false
theorem jO {a b:Value}(h:TG a b=true):a=b:=by
 unfold TG at h;split at h
 ·rw[eq_of_beq h]
 ·rename_i a b
  have:=eq_of_beq h
  congr 1
  exact ByteArray.ext (Array.toList_inj.1 this)
 ·rw[eq_of_beq h]
 ·rfl
 ·cases h
def KJ (f:D->D->Bool):List D->List D->Bool
 | [],[]=>true
 |a::l,b::m=>f a b&&KJ f l m
 |_,_=>false
theorem Pj {f:D->D->Bool}(hf:∀a b,f a b=true->a=b):∀ {l m:List D},KJ f l m=true->l=m
 | [],[],_=>rfl
 |a::l,b::m,h=>by
  simp only[KJ,BY]at h;rw[hf a b h.1,Pj hf h.2]
 | [],_::_,h=>by simp[KJ]at h
 |_::_,[],h=>by simp[KJ]at h
def Mc:Nat->D->D->Bool
 | 0,_,_=>false
 |n+1,a,b=>match a,b with
  | .prim a,.prim b=>TG a b
  | .agg l,.agg m=>KJ (Mc n) l m
  | .sl x y l,.sl x' y' m=>(x==x')&&Nat.beq y y'&&KJ (Mc n) l m
  |_,_=>false
theorem SZ:∀(n:Nat) (a b:D),Mc n a b=true->a=b
 | 0,_,_,h=>by simp[Mc]at h
 |n+1,a,b,h=>by
  unfold Mc at h;split at h
  ·rw[jO h]
  ·rw[Pj (SZ n) h]
  ·simp only[BY]at h
   rw[eq_of_beq h.1.1,B0 h.1.2,Pj (SZ n) h.2]
  ·cases h
def ux:Nat->Nat->List UInt8
 | 0,_=>[]
 |k+1,u=>match Nat.blt u 10 with
  |true=>[UInt8.ofNat (48+u)]
  |false=>ux k (u/10)++[UInt8.ofNat (48+u%10)]
def Qv (t:Nat)(name:String):Option Nat:=match Nat.beq t 141 with
 |true=>match decide (name = "Cmp")with
  |true=>some 232
  |false=>none
 |false=>none
theorem Zq (t:Nat)(name:String)(f:Nat)(h:Qv t name=some f)(v:Value)(w:World):(method (C0.P.types.size+Made.depth) t v name).run C0.P w=.ok (f,v) w:=by
 unfold Qv at h;split at h<;>try(cases h;done)
 rename_i ht;split at h<;>try(cases h;done)
 rename_i hn;obtain rfl:=B0 ht;obtain rfl:=C3 hn;cases h
 kernel_rfl
def u9:Ay:=⟨.arr 256 1 false,256,256,true,.agg (Array.replicate 256 (.bool false))⟩
noncomputable def OV (t:Nat):Option Ay:=match Nat.beq t 323 with
 |true=>some u9
 |false=>OT.get t
theorem Ti:Ca C0.P OV:=λt i h=>by
 unfold OV at h;split at h
 ·rename_i ht
  obtain rfl:=B0 ht;cases h
  kernel_rfl
 ·exact ba t i h
set_option maxHeartbeats 2000000
def BZ (c:UInt8):Bool:=Nat.ble 48 c.toNat&&Nat.ble c.toNat 57
def Gj:D:=.agg ((List.range 256).map λi=>Au (Nat.ble 48 i&&Nat.ble i 57))
abbrev Q1:List UInt8:=[48,49,50,51,52,53,54,55,56,57]
noncomputable def X4:EV:=⟨OV,LM.get,Md.get,λ_=>false,λ_ _=>none,λ_ _=>none,J7⟩
theorem Tc:Eu C0 X4:=⟨Ti,Qd,JI,λ_ _ _ h=>by simp[X4]at h,by kernel_rfl,λ_ _ _ h=>by simp[X4]at h,Pb⟩
theorem w4:C5 C0 X4:=Tc.w
theorem eO:AK C0 310 [str (sb Q1)] (.tup [Gj,Au true]):=B8 Tc 1000 40 (by kernel_rfl)
def Tg (o:Option D)(b:Bool):Bool:=match o with
 |some (.prim (.bool c))=>c==b
 |_=>false
theorem gQ {o:Option D}{b:Bool}(h:Tg o b=true):o=some (Au b):=by
 unfold Tg at h;split at h
 ·rw[Dv]at h;subst h;rfl
 ·cases h
theorem br:((List.range 256).all λc=>Tg ((F7 X4 1000 40).1 319 [.pptr Gj,.prim (.int .u8 (c:Nat))]) (Nat.ble 48 c&&Nat.ble c 57))=true:=by kernel_rfl
theorem UR (c:UInt8):AK C0 319 [.pptr Gj,.prim (.int .u8 (c.toNat:Nat))] (Au (BZ c)):=by
 refine B8 Tc 1000 40 ?_;have h:=CQ.1 br c.toNat (List.mem_range.2 c.toNat_lt);exact gQ h
instance:Al Gj:=⟨λc hc=>by
 change c∈(List.range 256).map (λi=>Au (Nat.ble 48 i&&Nat.ble i 57))at hc;obtain⟨i,_,rfl⟩:=List.mem_map.1 hc;exact .prim _⟩
def Fp (l:List UInt8):List UInt8:=(l.reverse.dropWhile BZ).reverse
theorem de (m:List UInt8)(c:UInt8):Fp (m++[c])=if BZ c then Fp m else m++[c]:=by
 unfold Fp;rw[List.reverse_append,List.reverse_singleton,List.singleton_append,MS];split
 ·rfl
 ·rw[List.reverse_cons,List.reverse_reverse]
theorem jc (l:List UInt8):((Fp l).dropWhile BZ=[])↔l.all BZ=true:=by
 constructor
 ·intro h
  have h1:∀m:List UInt8,m.dropWhile BZ=[]->m.all BZ=true:=λm=>by
   induction m with
   |nil=>intro _;rfl
   |cons c m ih=>
    intro hm;rw[MS]at hm;split at hm
    ·rename_i hc
     rw[F6,hc,ih hm];rfl
    ·cases hm
  have h2:(l.reverse.dropWhile BZ).all BZ=true:=by
   have:=h1 _ h
   unfold Fp at this
   rwa [List.all_reverse]at this
  have h3:∀m:List UInt8,(m.dropWhile BZ).all BZ=true->m.all BZ=true:=λm=>by
   induction m with
   |nil=>intro _;rfl
   |cons c m ih=>
    intro hm;rw[MS]at hm;split at hm
    ·rename_i hc
     rw[F6,hc,ih hm];rfl
    ·exact hm
  have:=h3 _ h2
  rwa [List.all_reverse]at this
 ·intro h
  have h1:∀m:List UInt8,m.all BZ=true->m.dropWhile BZ=[]:=λm=>by
   induction m with
   |nil=>intro _;rfl
   |cons c m ih=>
    intro hm;rw[F6,BY]at hm;rw[MS,AH hm.1];exact ih hm.2
  have hx:=h1 l.reverse (by rw[List.all_reverse];exact h);unfold Fp;rw[hx];rfl
theorem dR (l:List UInt8)(hl:l.length<=1000000000):AK C0 311 [str (sb l),.pptr Gj] (str (sb (l.dropWhile BZ))):=by
 refine Ak.walk w1 Zd rfl λF=>?_
 have hps:Al Gj:=AI;have hcc:=UR;generalize Gj=sd at*;refine sR 0 ?_;refine AC.seq ?_;refine AC.block ?_;refine AC.loop (α:=List UInt8×Nat) (λp=>⟨[(0,str (sb p.1)),(1,.pptr sd)],[],p.2⟩) (λp=>p.1.length) (λp=>p.1.dropWhile BZ=l.dropWhile BZ/\p.1.length<=l.length) (l,_) ⟨rfl,Ad _⟩ AJ ?_;rintro⟨m,n⟩ F ⟨h1,h2⟩;dsimp only at h1 h2⊢;refine AC.seq ?_;refine AC.seq ?_;cases m with
 |nil=>
  have e1:decide (((sb []).size:Int)>0)=false:=rfl;refine An w1 100 (by kernel_rfl) ?_;refine AU e1 ?_;refine AL ?_;refine B5 ?_;refine sR 400 ?_;refine Af ?_;exact AQ (by rw[<-h1];rfl) AA.out
 |cons c m=>
  have hsz:=CX (c::m);have e1:decide (((sb (c::m)).size:Int)>0)=true:=AY (by rw[hsz,Bl];omega);have hx:(((sb (c::m)).data.toList.getD ((0:Int)).toNat 0).toNat:Int)=(c.toNat:Int):=rfl;have b1:(0:Int)<((sb (c::m)).size:Int):=by rw[hsz,Bl];omega
  have b2:(1:Int)<=((sb (c::m)).size:Int):=by omega
  have e3:(sb (c::m)).extract ((1:Int)).toNat (sb (c::m)).size=sb m:=by
   rw[Ec,hsz,B4 (Ad _)];rfl
  have cc:=hcc c;refine An w1 100 (by kernel_rfl) ?_;refine AU e1 ?_;refine AL ?_;refine Am ?_;refine AC.block ?_;refine AC.seq ?_;refine sZ 200 ?_;refine AU hx ?_;refine cI cc ?_;rcases hb:BZ c with _|_
  ·refine AL ?_
   refine B5 ?_;refine sR 400 ?_;refine Af ?_;refine AQ ?_ AA.out;rw[<-h1,MS,AG (by rw[hb];simp)]
  ·refine AL ?_
   refine Am ?_;refine An w1 300 (by kernel_rfl) ?_;refine AU e3 ?_;refine⟨(m,_),⟨?_,?_⟩,?_,AJ⟩
   ·rw[<-h1,MS,AH hb]
   ·rw[Bl]at h2;dsimp only;omega
   ·show m.length<m.length+1;omega
theorem cR (l:List UInt8)(hl:l.length<=1000000000):AK C0 312 [str (sb l),.pptr Gj] (str (sb (Fp l))):=by
 refine Ak.walk w1 Ze rfl λF=>?_
 have hps:Al Gj:=AI;have hcc:=UR;generalize Gj=sd at*;refine sR 0 ?_;refine AC.seq ?_;refine AC.block ?_;refine AC.loop (α:=List UInt8×Nat) (λp=>⟨[(0,str (sb p.1)),(1,.pptr sd)],[],p.2⟩) (λp=>p.1.length) (λp=>Fp p.1=Fp l/\p.1.length<=l.length) (l,_) ⟨rfl,Ad _⟩ AJ ?_;rintro⟨m,n⟩ F ⟨h1,h2⟩;dsimp only at h1 h2⊢;refine AC.seq ?_;refine AC.seq ?_;rcases Qn m with rfl|⟨m,c,rfl⟩
 ·have e1:decide (((sb []).size:Int)>0)=false:=rfl
  refine An w1 100 (by kernel_rfl) ?_;refine AU e1 ?_;refine AL ?_;refine B5 ?_;refine sR 400 ?_;refine Af ?_;exact AQ (by rw[<-h1];rfl) AA.out
 ·rw[Ql]at h1 h2⊢
  have hsz:=CX (m++[c]);rw[Bf,F5]at hsz h2;have e1:decide (((sb (m++[c])).size:Int)>0)=true:=AY (by rw[hsz];omega);have wk1:IntKind.i64.wrap (((sb (m++[c])).size:Int)-1)=(m.length:Int):=by rw[hsz,wI (by omega) (by omega)];omega
  have hx:(((sb (m++[c])).data.toList.getD (((m.length:Nat):Int)).toNat 0).toNat:Int)=(c.toNat:Int):=by
   show(((m++[c]).getD m.length 0).toNat:Int)=_;simp
  have b1:((m.length:Nat):Int)<((sb (m++[c])).size:Int):=by rw[hsz];omega
  have e3:(sb (m++[c])).extract 0 (((m.length:Nat):Int)).toNat=sb m:=by
   rw[Ec];simp
  have cc:=hcc c;have ht:=de m c;refine An w1 100 (by kernel_rfl) ?_;refine AU e1 ?_;refine AL ?_;refine Am ?_;refine AC.block ?_;refine AC.seq ?_;refine sZ 200 ?_;refine AU (Ae wk1 hx) ?_;refine cI cc ?_;rcases hb:BZ c with _|_
  ·rw[AG (by rw[hb];simp)]at ht
   refine AL ?_;refine B5 ?_;refine sR 400 ?_;refine Af ?_;exact AQ (by rw[<-h1,ht]) AA.out
  ·rw[AH hb]at ht
   refine AL ?_;refine Am ?_;refine An w1 300 (by kernel_rfl) ?_;refine AU (Ae wk1 e3) ?_;refine⟨(m,_),⟨by rw[<-h1,ht],by dsimp only;omega⟩,?_,AJ⟩;dsimp only;rw[Bf,F5];omega
namespace TrimW
theorem w1:C5 C0 X4:=w4
theorem trim_ok (l:List UInt8)(hl:l.length<=1000000000):AK C0 296 [str (sb l),str (sb Q1)] (str (sb ((Fp l).dropWhile BZ))):=by
 refine Ak.walk w1 Zc rfl λF=>?_
 have cm:=eO;have c1:=cR l hl;have hlr:(Fp l).length<=1000000000:=by
  unfold Fp;rw[List.length_reverse];exact BQ (List.dropWhile_sublist _).length_le (by rw[List.length_reverse];exact hl)
 have c2:=dR (Fp l) hlr;have hps:Al Gj:=AI;have eS:=Et l [];have e2:(((sb Q1).size:Int)==1)=false:=rfl;have e4:Bh (sb Q1) (sb [])=false:=by rw[Et];exact Ah (by simp)
 have hfit:Bn true 256 Gj:=by
  have h:((List.range 256).map λi=>Au (Nat.ble 48 i&&Nat.ble i 57)).length=256:=by rw[Ap,List.length_range]
  have:=Bn.agg (ds:=(List.range 256).map λi=>Au (Nat.ble 48 i&&Nat.ble i 57))
  rw[h]at this;exact this
 refine sR 0 ?_
 by_cases h0:l=[]
 ·subst h0
  have eS':Bh (sb []) (sb [])=true:=by rw[Et];exact AY rfl
  refine AC.seq ?_;refine sZ 100 ?_;refine AU eS' ?_;refine AE (Ae eS' kT) ?_;refine AL ?_;refine sR 200 ?_;refine Af ?_;exact AQ rfl AA.out
 ·rw[Ah h0]at eS
  refine AC.seq ?_;refine sZ 100 ?_;refine AU eS ?_;refine AE (Av eS e4 kF) ?_;refine AE (Av eS e4 kF) ?_;refine AL ?_;refine Am ?_;refine AC.seq ?_;refine sZ 300 ?_;refine AU e2 ?_;refine AE e2 ?_;refine AE e2 ?_;refine AL ?_;refine Am ?_;refine AC.seq ?_;refine sR 500 ?_;refine A9.same _ cm AI ?_;refine At ?_;generalize Gj=sd at*
  repeat(refine Dq rfl rfl ?_;refine HY (λ_ _=>rfl) ?_)
  refine M5 (And.intro (by repeat'(first|exact hfit|refine And.intro ?_ ?_|exact Bz)) ?_);refine At ?_;refine sR 600 ?_;refine AL ?_;refine sR 700 ?_;refine A9.own _ (MR c1 rfl ?_ AI (I1.prim _)) ?_
  ·intro i x y hx hy
   match i with
   | 0=>simp at hx hy;subst hx;subst hy;exact Cw.refl _ _
   | 1=>simp at hx hy;subst hx;subst hy;exact Cw.ptr rfl rfl rfl rfl
   |i+2=>simp at hx
  rintro d H' n' ⟨rfl,rfl,rfl⟩;refine BN ?_;refine A9.own _ (MR c2 rfl ?_ AI (I1.prim _)) ?_
  ·intro i x y hx hy
   match i with
   | 0=>simp at hx hy;subst hx;subst hy;exact Cw.refl _ _
   | 1=>simp at hx hy;subst hx;subst hy;exact Cw.ptr rfl rfl rfl rfl
   |i+2=>simp at hx
  rintro d H' n' ⟨rfl,rfl,rfl⟩;refine BN ?_;refine Af ?_;exact AQ rfl AA.out
end TrimW
def GR (a:Nat)(l:List UInt8):Nat:=l.foldl (λa c=>a*10+(c.toNat-48)) a
def dv (l:List UInt8):Nat:=GR 0 l
theorem Xp (l:List UInt8):∀a,GR a l=a*10^l.length+dv l:=by
 induction l with
 |nil=>intro a;simp[GR,dv]
 |cons c l ih=>
  intro a;have h1:∀b,GR b (c::l)=GR (b*10+(c.toNat-48)) l:=λb=>rfl
  have h2:dv (c::l)=GR (0*10+(c.toNat-48)) l:=rfl;rw[h1,h2,ih,ih (0*10+(c.toNat-48)),Bl,CB];rw[Bp,GQ,BR,Bs,BO 10];omega
theorem Mz (l m:List UInt8):dv (l++m)=dv l*10^m.length+dv m:=by
 have:dv (l++m)=GR (dv l) m:=by unfold dv GR;rw[List.foldl_append]
 rw[this,Xp]
theorem dO (l:List UInt8):∀a,l.all BZ=true->Lib.decFrom a l=some (GR a l):=by
 induction l with
 |nil=>intro a _;rfl
 |cons c l ih=>
  intro a h;rw[F6,BY]at h;have hd:Lib.digitVal c=some (c.toNat-48):=by
   have h1:=h.1;unfold BZ at h1;rw[BY]at h1;unfold Lib.digitVal;rw[AH ⟨Bc h1.1,Bc h1.2⟩]
  rw[Lib.decFrom,hd];exact ih _ h.2
theorem KV {c:UInt8}(h:BZ c=true):48<=c.toNat/\c.toNat<=57:=by
 unfold BZ at h;rw[BY]at h;exact⟨Bc h.1,Bc h.2⟩
theorem iG {l:List UInt8}(h0:l≠[])(h:l.all BZ=true):Lib.atoi l=some (dv l:Int):=by
 cases l with
 |nil=>exact Aj rfl h0
 |cons c l=>
  have hc:BZ c=true:=by rw[F6,BY]at h;exact h.1
  obtain⟨c1,c2⟩:=KV hc;have e1:(c==45)=false:=by
   rw[Bw];intro hh;subst hh;simp at c1
  have e2:(c==43)=false:=by
   rw[Bw];intro hh;subst hh;simp at c1
  unfold Lib.atoi;dsimp only;rw[e1,e2];simp only[HK,if_false];unfold Lib.decNat;simp only[List.isEmpty_cons,HK,if_false];rw[dO _ _ h];rfl
theorem Fk (l:List UInt8)(h:l.all BZ=true):dv l<10^l.length:=by
 induction l with
 |nil=>decide
 |cons c l ih=>
  rw[F6,BY]at h;have h1:dv (c::l)=GR (0*10+(c.toNat-48)) l:=rfl;have h2:=ih h.2;obtain⟨c1,c2⟩:=KV h.1;rw[h1,Xp,GQ,BR,Bl,CB,BO _ 10];have h3:(c.toNat-48)*10^l.length<=9*10^l.length:=CA _ (by omega);omega
def Th (o:Option D)(z:Int):Bool:=match o with
 |some (.agg [.prim (.int .i64 a),.prim (.slice none 0 0)])=>a==z
 |_=>false
theorem gR {o:Option D}{z:Int}(h:Th o z=true):o=some (Co z):=by
 unfold Th at h;split at h
 ·rw[Dv]at h;subst h;rfl
 ·cases h
theorem kV:((List.range 19).all λk=>Th ((F7 X1 1000 60).1 192 [Co 10,i64 (k:Nat)]) ((10^k:Nat):Int))=true:=by kernel_rfl
theorem rH (k:Nat)(h:k<19):AK C0 192 [Co 10,i64 k] (Co ((10^k:Nat):Int)):=by
 refine B8 DG 1000 60 ?_;exact gR (CQ.1 kV k (List.mem_range.2 h))
theorem TS {n:Nat}(h:n<9223372036854775808):Co (n:Int)=(AW (n:Int)).D:=by
 rw[In ⟨by omega,by omega⟩];rfl
theorem tv (a b:Nat)(ha:(Ab a).length<1000000)(hb:(Ab b).length<1000000):AK C0 154 [(AW (a:Int)).D,(AW (b:Int)).D] (AW ((a+b:Nat):Int)).D:=by
 have:=Ng (AW (a:Int)) (AW (b:Int)) (CT _) (CT _) (HV ha) (HV hb)
 have e:Dt (AW (a:Int)) (AW (b:Int))=AW ((a+b:Nat):Int):=by
  have h1:=Lp (AW (a:Int)) (AW (b:Int));rw[DX,DX]at h1;rw[Nh (Lc _ _) (by rw[h1];omega),h1]
  congr 1
 rw[e]at this;exact this
theorem LU {n k:Nat}(h:n<10^k):(Ab n).length<=k:=GU (CM h (MU (by decide) k))
def rv (l:List UInt8):Int:=if C8 l then -(dv (Bi l):Int)else dv (Bi l)
theorem kW (k:Nat)(h:k<19):AK C0 192 [Co 10,i64 k] (AW ((10^k:Nat):Int)).D:=by
 have:=rH k h
 have h2:10^k<9223372036854775808:=DJ (E4 (by decide) (show k<=18 by omega)) (by decide)
 rwa [TS h2]at this
theorem qR (n:Nat)(h:n<9223372036854775808):AK C0 152 [i64 n] (AW (n:Int)).D:=by
 have:=No (n:Int)
 rwa [TS h]at this
theorem Pf (l:List UInt8)(hd:(Bi l).all BZ=true)(hl:l.length<=100000):AK C0 149 [str (sb l)] (AW (rv l)).D:=by
 refine Ak.walk w1 Yq rfl λF=>?_
 have c1:=cZ l (by omega);have c2:=Q4 l (by omega);have hml:(Bi l).length<=100000:=by
  unfold Bi;split
  ·rw[Do];omega
  ·exact hl
 unfold rv;generalize hm0:Bi l=m0 at*;generalize C8 l=ng at*;generalize sb l=sl at*;have ez:Co 0=(AW ((0:Nat):Int)).D:=TS (by decide);have hpm:∀n:Nat,AA (AW (n:Int)).w:=λn=>AI
 refine sR 0 ?_;refine sR 100 ?_;refine cI c1 ?_;refine sR 200 ?_;refine cI c2 ?_;refine sR 300 ?_;refine Ck (α:=Nat) (λn=>⟨[(2,.optr 0 0 2 0 0),(3,Au ng),(4,.optr 301 8 2 0 0)],[⟨301,8,139,2,[(AW (dv m0:Int)).D]⟩,⟨0,0,139,2,[Co 0]⟩],n⟩) (λ_=>True) ?_ ?_
 ·refine AC.block ?_
  refine Fv (α:=List UInt8×Nat×Nat) (λp=>⟨[(0,str (sb p.1)),(2,.optr 0 0 2 0 0),(3,Au ng),(4,.optr 301 8 2 0 0)],[⟨301,8,139,2,[(AW (p.2.1:Int)).D]⟩,⟨0,0,139,2,[Co 0]⟩],p.2.2⟩) (λp=>p.1.length)
   (λp F'=>F'=F/\p.1.all BZ=true/\p.1.length<=m0.length/\p.2.1<10^(m0.length-p.1.length)/\dv m0=p.2.1*10^p.1.length+dv p.1) (m0,0,20) ⟨rfl,hd,Ad _,by simp,by simp⟩ (by rw[<-ez];exact AJ) ?_
  rintro⟨m,A,n⟩ F' ⟨rfl,h1,h2,h3,h4⟩;dsimp only at h1 h2 h3 h4⊢;refine AC.seq ?_;refine AC.seq ?_
  by_cases hm:m=[]
  ·subst hm
   have e1:decide (((sb []).size:Int)>0)=false:=rfl;have hA:dv m0=A:=by simpa[dv,GR]using h4
   rw[hA];refine An w1 400 (by kernel_rfl) ?_;refine AU e1 ?_;refine AL ?_;refine B5 ?_;exact⟨rfl,_,trivial,AJ⟩
  ·have hm1:0<m.length:=List.length_pos_iff.2 hm
   have hsz:=CX m;obtain⟨k,hk⟩:∃k,k=min 18 m.length:=⟨_,rfl⟩
   have e1:decide (((sb m).size:Int)>0)=true:=AY (by rw[hsz];omega);have ek:min (18:Int) ((sb m).size:Int)=(k:Int):=by rw[hsz];omega
   have b1:(k:Int)<=((sb m).size:Int):=by rw[hsz];omega
   have e22:(sb m).extract 0 ((k:Int)).toNat=sb (m.take k):=by rw[Ec];rfl
   have e36:(sb m).extract ((k:Int)).toNat (sb m).size=sb (m.drop k):=by
    rw[Ec,hsz,B4 (Ad _)];rfl
   have htk:(m.take k).all BZ=true:=CQ.2 λc hc=>CQ.1 h1 c (Hy hc)
   have hdk:(m.drop k).all BZ=true:=CQ.2 λc hc=>CQ.1 h1 c (KE hc)
   have hlk:(m.take k).length=k:=by rw[Bj];omega
   have hv:=Fk _ htk;rw[hlk]at hv;have h18:10^k<=10^18:=E4 (by decide) (by omega);have ca:=kG (sb (m.take k)) (dv (m.take k):Int) (by rw[CX,hlk];omega) (iG (by intro h;change m.take k=[]at h;rw[h]at hlk;simp at hlk;omega) htk);have hval:dv m=dv (m.take k)*10^(m.drop k).length+dv (m.drop k):=by
    conv=>lhs;rw[<-Ei k m]
    exact Mz _ _
   generalize dv (m.take k)=v at*;have hAl:(Ab A).length<=100000:=BQ (LU h3) (by omega);have h10:(Ab (10^k)).length<=19:=LU (k:=19) (Nat.pow_lt_pow_right (by decide) (by omega));have hmul:=KT A (10^k);have cp:=kW k (by omega);have c3:=To A (10^k) (by omega) (by omega);have cv:=qR v (by omega);have hvl:(Ab v).length<=19:=LU (k:=19) (CM hv (E4 (by decide) (by omega)));have c4:=tv (A*10^k) v (by omega) (by omega);refine An w1 400 (by kernel_rfl) ?_;refine AU e1 ?_;refine AL ?_;refine Am ?_;refine AC.block ?_;refine sZ 500 ?_;refine AU ek ?_;refine sZ 600 ?_;refine AU e22 ?_;refine cI ca ?_;refine AC.seq ?_;refine B3 w1 700 [0,1,2,3,4,5] [6,7,8] (by kernel_rfl) ?_;refine BN ?_;refine BT.same _ (No 10) AI ?_;refine BN ?_;refine BT.same _ (cp) AI ?_;refine BN ?_;refine BT.same _ (c3) AI ?_;refine BN ?_;refine cI cv ?_;refine cI c4 ?_;refine An w1 800 (by kernel_rfl) ?_;refine AU e36 ?_;refine⟨(m.drop k,A*10^k+v,_),⟨trivial,hdk,?_,?_,?_⟩,?_,AJ⟩
   ·dsimp only;rw[Do];omega
   ·dsimp only
    rw[Do,show m0.length-(m.length-k)=(m0.length-m.length)+k by omega,FX];have h5:(A+1)*10^k<=10^(m0.length-m.length)*10^k:=CA _ h3;rw[Bp]at h5;omega
   ·dsimp only
    rw[h4,hval,Do];have h6:10^m.length=10^k*10^(m.length-k):=by rw[<-FX];congr 1;omega
    rw[h6,Bp,Bs];omega
   ·dsimp only;rw[Do];omega
 rintro n -;have hAl:(Ab (dv m0)).length<=100000:=BQ (LU (Fk _ hd)) hml;have cn:=Nm (AW (dv m0:Int)) (CT _) (HV (by omega));rw[DX]at cn;have hpn:AA (AW (-(dv m0:Int))).w:=AI;refine AC.seq ?_;refine sR 900 ?_;cases ng with
 |true=>
  rw[AH rfl];refine AL ?_;refine sR 1000 ?_;refine cI cn ?_;refine Af ?_;exact AQ rfl AA.out
 |false=>
  rw[AG (by simp)];refine AL ?_;refine Am ?_;refine sR 1100 ?_;refine Af ?_;exact AQ rfl AA.out
def Jx (l:List UInt8):Bool:=!decide (l=[])&&l.all BZ
def Cr (l:List UInt8):Bool:=Jx l&&(decide (l=[48]) || !decide (l.head? = some 48))
def Bv (l:List UInt8):List UInt8:=l.take (BG l)
def BU (l:List UInt8):List UInt8:=l.drop (BG l+1)
def Ce (l:List UInt8):Bool:=decide (BG l<l.length)
def Bx (l:List UInt8):List UInt8:=Bi (Bv l)
def Im (l:List UInt8):Bool:=!Cr (Bx l)||decide (Bv l=[45,48])||(Ce l&&(!Cr (BU l)||decide (BU l=[48])||decide (BU l=[49])))
def CP (l:List UInt8):Nat:=if Im l then 1 else if 600<(Bx l).length\/600<(BU l).length then 4
 else if Ce l=true/\Nat.gcd (dv (Bx l)) (dv (BU l))≠1 then 1 else 0
theorem JU {l:List UInt8}(h:Cr l=true):l≠[]/\l.all BZ=true:=by
 unfold Cr Jx at h;rw[BY,BY]at h;exact⟨by have:=h.1.1;simpa using this,h.1.2⟩
theorem RE {l:List UInt8}(h:l.all BZ=true):C8 l=false:=by
 cases l with
 |nil=>rfl
 |cons c l=>
  rw[F6,BY]at h;obtain⟨c1,c2⟩:=KV h.1;show(c==45)=false;rw[Bw];intro hh;subst hh;simp at c1
theorem JP {l:List UInt8}(h:l.all BZ=true):Bi l=l:=by unfold Bi;rw[RE h];rfl
theorem Lt {l:List UInt8}(h:l.all BZ=true):rv l=(dv l:Int):=by
 unfold rv;rw[RE h,JP h];rfl
theorem fg (l:List UInt8)(hl:l.length<=1000000000):AK C0 271 [str (sb l)] (Au (Jx l)):=by
 refine Ak.walk w1 ZZ rfl λF=>?_
 have ct:=TrimW.trim_ok l hl;have eS:=Et l [];have eT:=Et ((Fp l).dropWhile BZ) [];have hall:decide ((Fp l).dropWhile BZ=[])=l.all BZ:=by
  rw[GN,decide_eq_true_iff];exact jc l
 rw[hall]at eT;unfold Jx;rw[<-eS];generalize hb:Bh (sb l) (sb [])=b at*;refine sR 0 ?_;refine AC.seq ?_;cases b with
 |true=>
  have e1:(!Bh (sb l) (sb []))=false:=by rw[hb];rfl
  refine An w1 100 (by kernel_rfl) ?_;refine AU e1 ?_;refine AE e1 ?_;refine Af ?_;exact AQ rfl AA.out
 |false=>
  have e1:(!Bh (sb l) (sb []))=true:=by rw[hb];rfl
  refine An w1 100 (by kernel_rfl) ?_;refine AU e1 ?_;refine AE e1 ?_;refine Mh e1 ?_;refine A9.same _ ct AI ?_;refine AE (Ae e1 eT) ?_;refine Af ?_;exact AQ rfl AA.out
theorem WX (l:List UInt8)(hl:l.length<=1000000000):AK C0 230 [str (sb l)] (Au (Cr l)):=by
 refine Ak.walk w1 YW rfl λF=>?_
 have cd:=fg l hl;have e0:=Et l [48];unfold Cr;refine sR 0 ?_;refine sR 100 ?_;refine cI cd ?_;rcases hd:Jx l with _|_
 ·refine AE (Ae kT HK) ?_
  refine AE (Ae kT HK) ?_;refine Af ?_;exact AQ rfl AA.out
 ·obtain⟨c,m,rfl⟩:∃c m,l=c::m:=by
   cases l with
   |nil=>cases hd
   |cons c m=>exact⟨c,m,rfl⟩
  have hsz:=CX (c::m);rw[Bl]at hsz;have hx:(((sb (c::m)).data.toList.getD ((0:Int)).toNat 0).toNat:Int)=(c.toNat:Int):=rfl;have b0:(0:Int)<((sb (c::m)).size:Int):=by rw[hsz];omega
  by_cases h0:(c::m)=[48]
  ·rw[AY h0]at e0⊢
   refine AE e0 ?_;refine AE (Ae e0 kT) ?_;refine AE (Ae e0 kT) ?_;refine Af ?_;exact AQ rfl AA.out
  ·rw[Ah h0]at e0⊢
   have e1:((c.toNat:Int) != 48) = !decide (c=48):=by
    rw[GN];simp only[bne_iff_ne,ne_eq,Bb,KA];constructor
    ·intro h hc;subst hc;exact h rfl
    ·intro h hc
     apply h
     have:c.toNat=48:=by omega
     exact UInt8.toNat_inj.1 this
   refine AE e0 ?_;refine AE (Bk e0 kF hx e1) ?_;refine AE (Bk e0 kF hx e1) ?_;refine Af ?_;exact AQ (by simp) AA.out
theorem kq (n:Nat):AK C0 231 [(AW (n:Int)).D] (.tup [i64 (AW (n:Int)).s,Au (decide (Sm (n:Int)))]):=by
 refine Ak.walk w1 YX rfl λF=>?_
 by_cases hs:Sm (n:Int)
 ·obtain⟨a1,a2⟩:=QY hs
  dsimp only[GI.D];rw[a1,a2,AY hs];refine sR 0 ?_;refine AC.seq ?_;refine B3 w1 100 [0,1,2,3,4,5] [6] (by kernel_rfl) ?_;refine BN ?_;refine Af ?_;exact AQ rfl AA.out
 ·obtain⟨a1,a2,a3⟩:=Tn hs
  dsimp only[GI.D];rw[a1,a2,Ah hs];generalize(Ab n).map AR=l at*;refine sR 0 ?_;refine AC.seq ?_;refine B3 w1 100 [0,1,2,3,4,5] [6] (by kernel_rfl) ?_;refine AU (Av (@ne_eq (List D)) a3 EC) ?_;refine Af ?_;exact AQ rfl AA.out
def Fl (l:List UInt8):GF:=⟨AW (rv (Bv l)),if Ce l then dv (BU l)else 1⟩
theorem ju (l:List UInt8)(hl:l.length<=100000)(h1:(Bx l).all BZ=true)(h2:Ce l=true->(BU l).all BZ=true):AK C0 103 [str (sb l)] (Fl l).D:=by
 refine Ak.walk w1 Xw rfl λF=>?_
 have cc:=Xn l (by omega);have r1:=Pf (Bv l) h1 (by unfold Bv;rw[Bj];omega);have hpw:AA (AW (rv (Bv l))).w:=AI;unfold Fl;change AK C0 _ _ (.tup [str (sb (Bv l)),str (sb (BU l)),Au (Ce l)])at cc;rcases hs:Ce l with _|_
 ·rw[hs]at cc
  have wg:=Xj (AW (rv (Bv l)));have hp1:AA (AW ((1:Nat):Int)).w:=AI;rw[AG (by simp)];dsimp only[GI.D,GF.D]at*;refine sR 0 ?_;refine sR 100 ?_;refine cI cc ?_;refine AC.seq ?_;refine sR 200 ?_;refine AL ?_;refine sR 300 ?_;refine cI r1 ?_;refine cI wg ?_;refine Af ?_;exact AQ rfl AA.out
 ·rw[hs]at cc
  have hd:=h2 hs;have r2:=Pf (BU l) (by rw[JP hd];exact hd) (by unfold BU;rw[Do];omega);rw[Lt hd]at r2;have hp1:AA (AW (dv (BU l):Int)).w:=AI;rw[AH rfl];dsimp only[GI.D,GF.D]at*;refine sR 0 ?_;refine sR 100 ?_;refine cI cc ?_;refine AC.seq ?_;refine sR 200 ?_;refine AL ?_;refine Am ?_;refine sR 400 ?_;refine cI r1 ?_;refine cI r2 ?_;refine Af ?_;exact AQ rfl AA.out
set_option maxHeartbeats 4000000
theorem qO (g:Nat):((g:Int) != 1)=decide (g≠1):=by
 rw[GN,bne_iff_ne,decide_eq_true_iff];omega
theorem iI (l:List UInt8)(hl:l.length<=100000):AK C0 182 [str (sb l)] (i64 (CP l)):=by
 refine Ak.walk w1 Y0 rfl λF=>?_
 have cc:=Xn l (by omega);change AK C0 _ _ (.tup [str (sb (Bv l)),str (sb (BU l)),Au (Ce l)])at cc;have hnl:(Bv l).length<=100000:=by unfold Bv;rw[Bj];omega
 have hdl:(BU l).length<=100000:=by unfold BU;rw[Do];omega
 have hsl:(Bx l).length<=100000:=by
  unfold Bx Bi;split
  ·rw[Do];omega
  ·exact hnl
 have ct:=Q4 (Bv l) (by omega);change AK C0 _ _ (str (sb (Bx l)))at ct;have p1:=WX (Bx l) (by omega);have p2:=WX (BU l) (by omega);have en:=Et (Bv l) [45,48];have e0:=Et (BU l) [48];have e1:=Et (BU l) [49];have z1:=CX (Bx l);have z2:=CX (BU l);have hbf:∃b,b=Im l:=⟨_,rfl⟩
 obtain⟨bf,hbf⟩:=hbf;unfold CP;rw[<-hbf];unfold Im at hbf;refine sR 0 ?_;refine sR 100 ?_;refine cI cc ?_;refine sR 200 ?_;refine cI ct ?_;refine AC.seq ?_;refine Ck (α:=Nat) (λn=>⟨[(4,str (sb (BU l))),(5,Au (Ce l)),(6,str (sb (Bx l))),(39,Au bf)],[],n⟩) (λ_=>True) ?_ ?_
 ·refine rI 300 ?_
  refine cI p1 ?_;rcases hp:Cr (Bx l)with _|_
  ·rw[hp]at hbf
   have hb:bf=true:=by rw[hbf];rfl
   subst hb;simp only[Qi];refine AE kT ?_;refine AE kT ?_;exact⟨trivial,_,trivial,AJ⟩
  ·rw[hp]at hbf
   simp only[OF]
   by_cases hn:Bv l=[45,48]
   ·rw[AY hn]at en hbf
    have hb:bf=true:=by rw[hbf];rfl
    subst hb;refine AE (Ae kF en) ?_;refine AE (Av kF kT en) ?_;exact⟨trivial,_,trivial,AJ⟩
   ·rw[Ah hn]at en hbf
    rcases hs:Ce l with _|_
    ·rw[hs]at hbf
     have hb:bf=false:=by rw[hbf];rfl
     subst hb;refine AE (Ae kF en) ?_;refine AE (Bk kF kT en hs) ?_;refine AE (Bk kF kT en hs) ?_;exact⟨trivial,_,trivial,AJ⟩
    ·rw[hs]at hbf
     refine AE (Ae kF en) ?_;refine AE (Av kF en hs) ?_;refine Mh hs ?_;refine A9.same _ p2 AI ?_;refine At ?_;rcases hq:Cr (BU l)with _|_
     ·rw[hq]at hbf
      have hb:bf=true:=by rw[hbf];rfl
      subst hb;refine AE (Av kF kT hq) ?_;refine AE (Av kF kT hq) ?_;refine AE (Av kF kT hq) ?_;exact⟨trivial,_,trivial,AJ⟩
     ·rw[hq]at hbf
      refine AE hq ?_;simp only[OF];refine AE kF ?_
      by_cases h0:BU l=[48]
      ·rw[AY h0]at e0 hbf
       have hb:bf=true:=by rw[hbf];rfl
       subst hb;simp only[e0,imp_self];refine AE kT ?_;refine Ha rfl rfl rfl (by simp only[Qi]) (by simp) (HY (λ_ _=>rfl) ?_);refine AE kF ?_;exact⟨trivial,_,trivial,AJ⟩
      ·rw[Ah h0]at e0 hbf
       simp only[e0];refine AE kF ?_
       by_cases h1:BU l=[49]
       ·rw[AY h1]at e1 hbf
        have hb:bf=true:=by rw[hbf];rfl
        subst hb;simp only[e1];exact⟨trivial,_,trivial,AJ⟩
       ·rw[Ah h1]at e1 hbf
        have hb:bf=false:=by rw[hbf];rfl
        subst hb;simp only[e1];exact⟨trivial,_,trivial,AJ⟩
 rintro n -;cases bf with
 |true=>
  rw[AH rfl];refine AL ?_;refine sR 400 ?_;refine Af ?_;exact AQ rfl AA.out
 |false=>
  rw[AG (by simp)];have hbf:=hbf.symm;simp only[JF,Bq,Bool.and_eq_false_iff]at hbf;obtain⟨⟨hp,hn⟩,hd⟩:=hbf;refine AL ?_;refine Am ?_;have hsd:=(JU hp).2;refine AC.seq ?_;refine Ck (α:=Nat) (λn=>⟨[(4,str (sb (BU l))),(5,Au (Ce l)),(6,str (sb (Bx l))),(47,Au (decide (600<(Bx l).length\/600<(BU l).length)))],[],n⟩) (λ_=>True) ?_ ?_
  ·by_cases hA:600<(Bx l).length
   ·have ea:decide (((sb (Bx l)).size:Int)>600)=true:=AY (by rw[z1];omega)
    have eb:decide (600<(Bx l).length\/600<(BU l).length)=true:=AY (Or.inl hA);rw[eb];refine An w1 500 (by kernel_rfl) ?_;refine AU ea ?_;refine AE kT ?_;exact⟨trivial,_,trivial,AJ⟩
   ·have ea:decide (((sb (Bx l)).size:Int)>600)=false:=Ah (by rw[z1];omega)
    have eb:decide (((sb (BU l)).size:Int)>600)=decide (600<(Bx l).length\/600<(BU l).length):=by
     rw[C4,z2];omega
    refine An w1 500 (by kernel_rfl) ?_;refine AU ea ?_;refine AE kF ?_;simp only[eb];exact⟨trivial,_,trivial,AJ⟩
  rintro n -
  by_cases hL:600<(Bx l).length\/600<(BU l).length
  ·rw[AY hL,AH hL]
   refine AL ?_;refine sR 600 ?_;refine Af ?_;exact AQ rfl AA.out
  ·rw[Ah hL,AG hL]
   refine AL ?_;refine Am ?_;refine AC.seq ?_;refine sR 700 ?_;rcases hs:Ce l with _|_
   ·rw[AG (by simp)]
    refine AL ?_;refine Am ?_;refine sR 1100 ?_;refine Af ?_;exact AQ rfl AA.out
   ·rw[hs]at hd
    have hd':=hd.resolve_left (by simp);have hdd:=(JU hd'.1.1).2;have r1:=Pf (Bx l) (by rw[JP hsd];exact hsd) hsl;have r2:=Pf (BU l) (by rw[JP hdd];exact hdd) hdl;rw[Lt hsd]at r1;rw[Lt hdd]at r2;have l1:(Ab (dv (Bx l))).length<=100000:=BQ (LU (Fk _ hsd)) hsl;have l2:(Ab (dv (BU l))).length<=100000:=BQ (LU (Fk _ hdd)) hdl;have cg:=Z7 (AW (dv (Bx l):Int)) (AW (dv (BU l):Int)) (CT _) (CT _) (HV (by omega)) (HV (by omega));rw[DX,DX,EA,EA]at cg;have cs:=kq (Nat.gcd (dv (Bx l)) (dv (BU l)));obtain⟨g,hg0⟩:∃g,g=Nat.gcd (dv (Bx l)) (dv (BU l)):=⟨_,rfl⟩
    rw[<-hg0]at cg cs;simp only[<-hg0];have hpa:AA (AW (dv (Bx l):Int)).w:=AI;have hpb:AA (AW (dv (BU l):Int)).w:=AI;have hpg:AA (AW (g:Int)).w:=AI;dsimp only[GI.D]at r1 r2 cg cs;refine AL ?_;refine sR 800 ?_;refine cI r1 ?_;refine cI r2 ?_;refine cI cg ?_;refine cI cs ?_;refine Ck (α:=Nat) (λn=>⟨[(63,Au (decide (g≠1)))],[],n⟩) (λ_=>True) ?_ ?_
    ·by_cases hg:Sm (g:Int)
     ·obtain⟨a1,a2⟩:=QY hg
      have eg:=qO g;rw[a1,AY hg];refine rI 900 ?_;simp only[OF];refine AE kF ?_;simp only[eg];exact⟨trivial,_,trivial,AJ⟩
     ·have eg:decide (g≠1)=true:=AY λh=>hg (by rw[h];exact⟨by decide,by decide⟩)
      rw[eg,Ah hg];refine rI 900 ?_;simp only[Qi];refine AE kT ?_;exact⟨trivial,_,trivial,AJ⟩
    rintro n -
    by_cases hg:g=1
    ·rw[Ah (λh=>h hg),AG (λh=>h.2 hg)]
     refine AL ?_;refine Am ?_;refine sR 1100 ?_;refine Af ?_;exact AQ rfl AA.out
    ·rw[AY hg,AH ⟨trivial,hg⟩]
     refine AL ?_;refine sR 1000 ?_;refine Af ?_;exact AQ rfl AA.out
abbrev RB:Nat:=1000000000
def AX (n:Nat):List Nat:=if _h:n=0 then[]else(n%RB)::AX (n/RB)
termination_by n
decreasing_by exact HL (Dl _h) (by decide)
def AO:List Nat->Nat
 | []=>0
 |a::l=>a+RB*AO l
def Rd (l:List Nat):Prop:=∀a∈l,a<RB
theorem GA:AX 0=[]:=by unfold AX;rfl
theorem ID {n:Nat}(h:n≠0):AX n=(n%RB)::AX (n/RB):=by rw[AX,dif_neg h]
theorem EL (n:Nat):Rd (AX n):=by
 induction n using Nat.strongRecOn with
 |ind n ih=>
  by_cases h:n=0
  ·subst h;rw[GA];intro a ha;cases ha
  ·rw[ID h]
   intro a ha;rcases BA.1 ha with rfl|ha
   ·exact By _ (by decide)
   ·exact ih _ (HL (Dl h) (by decide)) a ha
theorem Dp (n:Nat):AO (AX n)=n:=by
 induction n using Nat.strongRecOn with
 |ind n ih=>
  by_cases h:n=0
  ·subst h;rw[GA];rfl
  ·rw[ID h,AO,ih _ (HL (Dl h) (by decide))]
   exact EW n RB
theorem If (l m:List Nat):AO (l++m)=AO l+RB^l.length*AO m:=by
 induction l with
 |nil=>simp[AO]
 |cons a l ih=>
  simp only[ES,AO,ih,Bl,CB,BK];rw[BO (RB^l.length) RB,Bs,EH]
theorem Rd.tail {a:Nat}{l:List Nat}(h:Rd (a::l)):Rd l:=λb hb=>h b (CN _ hb)
theorem Rd.head {a:Nat}{l:List Nat}(h:Rd (a::l)):a<RB:=h a CH
theorem Rd.append {l m:List Nat}(h:Rd l)(k:Rd m):Rd (l++m):=λa ha=>(List.mem_append.1 ha).elim (h a) (k a)
theorem Rd.take {l:List Nat}(h:Rd l)(n:Nat):Rd (l.take n):=λa ha=>h a (Hy ha)
theorem Ff:∀ {l:List Nat},Rd l->AO l<RB^l.length
 | [],_=>by simp[AO]
 |a::l,h=>by
  have h1:=Ff h.tail;have h2:=h.head;rw[AO,Bl,CB]
  calc a+RB*AO l<RB+RB*AO l:=by omega
   _=RB*(AO l+1):=by rw[BK,Du,KH]
   _<=RB*RB^l.length:=CR _ h1
   _=_:=BO _ _
theorem Un:∀ {l:List Nat},Rd l->(∀a∈l.getLast?,a≠0)->AX (AO l)=l
 | [],_,_=>GA
 | [a],h,hl=>by
  have ha:a≠0:=hl a (by simp);have hb:=h.head;rw[show AO [a]=a from by simp[AO],ID ha,DS hb,Gr hb,GA]
 |a::b::l,h,hl=>by
  have ih:=Un h.tail (λx hx=>hl x (by simpa using hx));have hb:=h.head;have hv:AO (b::l)≠0:=by
   intro h0;rw[h0,GA]at ih;cases ih
  have e1:AO (a::b::l)%RB=a:=by rw[AO,Qj,DS hb]
  have e2:AO (a::b::l)/RB=AO (b::l):=by
   rw[AO,Qq _ _ (by decide),Gr hb,BR]
  have hne:AO (a::b::l)≠0:=by
   intro h0;rw[h0]at e2;exact hv (by rw[<-e2];rfl)
  rw[ID hne,e1,e2,ih]
theorem UK:∀(k:Nat),AO (List.replicate k 0)=0
 | 0=>rfl
 |k+1=>by rw[List.replicate_succ,AO,UK k,EI]
theorem IA (b:Nat):∀a,b<=a->(AX b).length<=(AX a).length:=by
 induction b using Nat.strongRecOn with
 |ind b ih=>
  intro a h
  by_cases hb:b=0
  ·subst hb;rw[GA];exact BS _
  ·rw[ID hb,ID (n:=a) (by omega),Bl,Bl]
   exact Nat.succ_le_succ (ih _ (HL (Dl hb) (by decide)) _ (Nat.div_le_div_right h))
theorem UE {a b:Nat}(h:(AX a).length<(AX b).length):a<b:=by
 rcases BL a b with h1|h1
 ·exact h1
 ·have:=IA b a h1;omega
theorem M0 {l:List Nat}{k a:Nat}(h:l[k]?=some a):AO l=AO (l.take k)+RB^k*(a+RB*AO (l.drop (k+1))):=by
 have hk:k<l.length:=(List.getElem?_eq_some_iff.1 h).1
 conv=>lhs;rw[<-Ei k l]
 rw[If,Bj,Eh (by omega)]
 have:l.drop k=a::l.drop (k+1):=by
  rw[D9 hk]
  congr 1
  exact(List.getElem?_eq_some_iff.1 h).2
 rw[this,AO]
theorem UJ {l m:List Nat}{k a b:Nat}(hl:Rd l)(ha:l[k]?=some a)(hb:m[k]?=some b)(hd:l.drop (k+1)=m.drop (k+1))(hab:a<b):AO l<AO m:=by
 have hk:k<l.length:=(List.getElem?_eq_some_iff.1 ha).1;rw[M0 ha,M0 hb,hd];have h1:=Ff (hl.take k);rw[Bj,Eh (by omega)]at h1;generalize AO (m.drop (k+1))=r;have h2:RB^k*(a+RB*r)+RB^k<=RB^k*(b+RB*r):=by
  rw[<-Nat.mul_succ];exact CR _ (by omega)
 omega
theorem GV {l:List Nat}{i a:Nat}(hi:l.length=i):AO (l++[a])=AO l+RB^i*a:=by rw[If,hi];simp[AO]
theorem Rd.set {l:List Nat}(h:Rd l){i a:Nat}(ha:a<RB):Rd (l.set i a):=λb hb=>by
 rcases List.mem_or_eq_of_mem_set hb with h1|rfl
 ·exact h b h1
 ·exact ha
theorem RN (n:Nat):Rd (List.replicate n 0):=λa ha=>by rw[ON ha];decide
theorem Mt:∀ {l:List Nat} {k o d:Nat},l[k]?=some o->AO (l.set k d)+RB^k*o=AO l+RB^k*d
 |a::l,0,o,d,h=>by
  simp only[Qk,BJ]at h;subst h;simp only[List.set_cons_zero,AO,LH,IX];omega
 |a::l,k+1,o,d,h=>by
  simp only[JC]at h;have ih:=Mt (d:=d) h;simp only[List.set_cons_succ,AO];have h1:RB^(k+1)*o=RB*(RB^k*o):=by rw[CB,BO (RB^k) RB,Bs]
  have h2:RB^(k+1)*d=RB*(RB^k*d):=by rw[CB,BO (RB^k) RB,Bs]
  have h3:RB*AO (l.set k d)+RB*(RB^k*o)=RB*AO l+RB*(RB^k*d):=by rw[<-BK,<-BK,ih]
  omega
theorem KR {n k:Nat}(h:n<RB^k):(AX n).length<=k:=by
 induction k generalizing n with
 |zero=>
  have:n=0:=by simpa using h
  subst this;rw[GA];exact Ad _
 |succ k ih=>
  by_cases h0:n=0
  ·subst h0;rw[GA];exact BS _
  ·rw[ID h0,Bl]
   exact Nat.succ_le_succ (ih (Ej (by rw[BO,<-CB];exact h)))
theorem IB (n:Nat):n<RB^(AX n).length:=by
 have:=Ff (EL n)
 rwa [Dp]at this
theorem Ul (a b:Nat):(AX (a+b)).length<=max (AX a).length (AX b).length+1:=by
 refine KR ?_;have h1:=IB a;have h2:=IB b;have m1:RB^(AX a).length<=RB^max (AX a).length (AX b).length:=E4 (by decide) (Nat.le_max_left _ _);have m2:RB^(AX b).length<=RB^max (AX a).length (AX b).length:=E4 (by decide) (Nat.le_max_right _ _);rw[CB];generalize RB^max (AX a).length (AX b).length=q at*;unfold RB;omega
theorem Um (a b:Nat):(AX (a-b)).length<=(AX a).length:=IA _ _ (Nat.sub_le _ _)
theorem RG (a b:Nat):(AX (a*b)).length<=(AX a).length+(AX b).length:=by
 refine KR ?_;rw[FX];exact Nat.mul_lt_mul'' (IB a) (IB b)
theorem Od {n:Nat}(h0:n≠0)(h:n<RB):AX n=[n]:=by
 rw[ID h0,DS h,Gr h,GA]
theorem S4 {l:List Nat}{k a:Nat}(hl:l.length=k+1)(ha:l[k]?=some a):AO l=AO (l.take k)+RB^k*a:=by
 rw[M0 ha,Gt (by omega)];simp[AO]
theorem rO {l:List Nat}{k a b:Nat}(hl:l.length=k+2)(ha:l[k]?=some a)(hb:l[k+1]?=some b):AO l=AO (l.take k)+RB^k*(a+RB*b):=by
 rw[M0 ha]
 have:l.drop (k+1)=[b]:=by
  rw[D9 (by omega),Gt (by omega)]
  congr 1
  exact(List.getElem?_eq_some_iff.1 hb).2
 rw[this];simp[AO]
theorem rP {l:List Nat}{k a b c:Nat}(hl:l.length=k+3)(ha:l[k]?=some a)(hb:l[k+1]?=some b)(hc:l[k+2]?=some c):AO l=AO (l.take k)+RB^k*(a+RB*(b+RB*c)):=by
 rw[M0 ha];have h1:=S4 (l:=l.drop (k+1)) (k:=1) (a:=c) (by rw[Do];omega) (by rw[Gn,EH];exact hc);have h2:(l.drop (k+1)).take 1=[b]:=by
  rw[D9 (by omega)];simp only[List.take_succ_cons,Ma]
  congr 1
  exact(List.getElem?_eq_some_iff.1 hb).2
 rw[h1,h2];simp[AO]
structure Jp (P v:List Nat)(m p0 p1 p2 v2 v1:Nat):Prop where
 lP:P.length=m+3
 lv:v.length=m+2
 wP:Rd P
 wv:Rd v
 h0:P[m]?=some p0
 h1:P[m+1]?=some p1
 h2:P[m+2]?=some p2
 g2:v[m]?=some v2
 g1:v[m+1]?=some v1
 top:0<v1
 less:AO P<AO v*RB
namespace Jp
variable {P v:List Nat} {m p0 p1 p2 v2 v1:Nat} (S:Jp P v m p0 p1 p2 v2 v1)
include S
theorem valP:AO P=AO (P.take m)+RB^m*(p0+RB*(p1+RB*p2)):=rP S.lP S.h0 S.h1 S.h2
theorem valv:AO v=AO (v.take m)+RB^m*(v2+RB*v1):=rO S.lv S.g2 S.g1
theorem lowP:AO (P.take m)<RB^m:=by
 have:=Ff (S.wP.take m)
 rwa [Bj,Eh (by have:=S.lP;omega)]at this
theorem lowv:AO (v.take m)<RB^m:=by
 have:=Ff (S.wv.take m)
 rwa [Bj,Eh (by have:=S.lv;omega)]at this
theorem p0l:p0<RB:=S.wP _ (BE S.h0)
theorem p1l:p1<RB:=S.wP _ (BE S.h1)
theorem p2l:p2<RB:=S.wP _ (BE S.h2)
theorem v1l:v1<RB:=S.wv _ (BE S.g1)
theorem v2l:v2<RB:=S.wv _ (BE S.g2)
theorem below3:AO P<(p0+RB*(p1+RB*p2)+1)*RB^m:=by
 rw[S.valP,Bp,IX,BO (RB^m)]
 have:=S.lowP
 omega
theorem below2:AO P<(p1+RB*p2+1)*RB^(m+1):=by
 have h:=S.below3;have h1:=S.p0l;generalize p1+RB*p2=t at*;have h2:(p0+RB*t+1)*RB^m<=(RB*(t+1))*RB^m:=CA _ (by rw[BK RB t 1];omega);have h3:(t+1)*RB^(m+1)=(RB*(t+1))*RB^m:=by rw[CB,BO (RB^m) RB,<-Bs,BO (t+1) RB]
 omega
theorem abovev:v1*RB^(m+1)<=AO v:=by
 rw[S.valv,CB,BK]
 have:v1*(RB^m*RB)=RB^m*(RB*v1):=by rw[BO v1,Bs]
 omega
theorem abovev2:(v2+RB*v1)*RB^m<=AO v:=by
 rw[S.valv,BO];omega
theorem pos:0<AO v:=CM (Gu S.top (Nat.pow_pos (by decide))) S.abovev
theorem p2v1:p2<=v1:=by
 rcases BL v1 p2 with h|h
 ·exfalso
  have e1:RB^(m+2)*p2<=AO P:=by
   rw[S.valP,BK,BK,BK]
   have:RB^(m+2)*p2=RB^m*(RB*(RB*p2)):=by rw[CB,CB,Bs,Bs]
   omega
  have e2:AO v<RB^(m+1)*(v1+1):=by
   have h1:=S.lowv;have h2:=S.v2l;have e3:RB^(m+1)*(v1+1)=RB^m*(RB*v1+RB):=by rw[CB,Bs,BK,Du]
   have e4:RB^m*(v2+RB*v1+1)<=RB^m*(RB*v1+RB):=CR _ (by omega);rw[BK _ _ 1,Du]at e4;rw[S.valv,e3];omega
  have e5:RB^(m+1)*(v1+1)*RB=RB^(m+2)*(v1+1):=by rw[Nat.mul_right_comm,<-CB]
  have e6:RB^(m+2)*(v1+1)<=RB^(m+2)*p2:=CR _ h;have e7:(AO v)*RB<=RB^(m+1)*(v1+1)*RB:=CA _ (JE e2)
  have:=S.less
  omega
 ·exact h
end Jp
theorem bl {A P v:List Nat}{q i z x d b c b' c' lo:Nat}(hz:A[i]?=some z)(hx:v[i]?=some x)(hI:AO A+q*AO (v.take i)=AO P+RB^i*(c+b))
  (h1:lo+RB*c'=q*x+c) (h2:d+lo+b=z+RB*b'):AO (A.set i d)+q*AO (v.take (i+1))=AO P+RB^(i+1)*(c'+b'):=by
 have hs:=Mt (d:=d) hz;have hi:i<v.length:=(List.getElem?_eq_some_iff.1 hx).1;rw[En hx,GV (i:=i) (by rw[Bj];omega),BK,H4 q,CB,Bs];have e:RB^i*(d+q*x+(c+b))=RB^i*(z+RB*(c'+b')):=by congr 1;rw[BK RB];omega
 rw[BK,BK,BK (RB^i) z]at e;omega
theorem bh {A P v:List Nat}{i z x c:Nat}(hz:A[i]?=some z)(hx:v[i]?=some x)(hI:AO A+RB^i*c=AO P+AO (v.take i)):
  AO (A.set i ((z+x+c)%RB))+RB^(i+1)*((z+x+c)/RB)=AO P+AO (v.take (i+1)):=by
 have hs:=Mt (d:=(z+x+c)%RB) hz;have hi:i<v.length:=(List.getElem?_eq_some_iff.1 hx).1;rw[En hx,GV (i:=i) (by rw[Bj];omega),CB,Bs];have e:RB^i*((z+x+c)%RB+RB*((z+x+c)/RB))=RB^i*(z+x+c):=by rw[EW]
 rw[BK,BK,BK (RB^i) z]at e;omega
theorem dC {n k:Nat}(h1:RB^k<=n)(h2:n<RB^(k+1)):(AX n).length=k+1:=by
 have h3:=KR h2;have h4:=DJ h1 (IB n);have h5:=(Nat.pow_lt_pow_iff_right (show 1<RB by decide)).1 h4;omega
theorem Oe:∀(n:Nat) {k a:Nat},(AX n).length=k+1->(AX n)[k]?=some a->a≠0:=λn=>by
 induction n using Nat.strongRecOn with
 |ind n ih=>
  intro k a h1 h2
  by_cases h0:n=0
  ·subst h0;rw[GA]at h1;cases h1
  ·rw[ID h0]at h1 h2
   rw[Bl]at h1;have h3:=Nat.succ.inj h1;cases k with
   |zero=>
    have h4:AX (n/RB)=[]:=ER h3;have h5:n/RB=0:=by rw[<-Dp (n/RB),h4];rfl
    have h6:=EW n RB;rw[h5]at h6;simp at h2;intro h7;subst h7;rw[h2]at h6;omega
   |succ k=>
    rw[JC]at h2;exact ih _ (HL (Dl h0) (by decide)) h3 h2
theorem RM {n k:Nat}(h:(AX n).length=k+1):RB^k<=n:=by
 obtain⟨a,ha⟩:=CG (l:=AX n) (i:=k) (by omega);have h1:=Oe n h ha;have h2:=S4 h ha;rw[Dp]at h2;have h3:=CR (RB^k) (show 1<=a by omega);omega
theorem Ol {l:List Nat}{j a:Nat}(h:l[j]?=some a):AO (l.drop j)=a+RB*AO (l.drop (j+1)):=by
 have hj:j<l.length:=(List.getElem?_eq_some_iff.1 h).1;rw[D9 hj,(List.getElem?_eq_some_iff.1 h).2];rfl
theorem bw {a q:List Nat}{j x b rest:Nat}(hb:0<b)(hx:a[j]?=some x)(hj:j<q.length)(hI:AO (q.drop (j+1))*b+rest=AO (a.drop (j+1))):
  AO ((q.set j ((rest*RB+x)/b)).drop j)*b+(rest*RB+x)%b=AO (a.drop j)/\(rest*RB+x)%b<b:=by
 refine⟨?_,By _ hb⟩;rw[PI hj,Ol hx,<-hI,AO];have e:=EJ (rest*RB+x) b;rw[Bp,BK RB,Bs RB,BO RB rest,BO _ b];omega
structure K4 (X:Nat)(v U q:List Nat)(lu lq k:Nat):Prop where
 lU:U.length=lu
 lQ:q.length=lq
 wU:Rd U
 wq:Rd q
 val:RB^k*AO (q.drop k)*AO v+AO U=X
 less:AO (U.drop k)<AO v
theorem eW {X:Nat}{v U q:List Nat}{lu lq j m:Nat}(I:K4 X v U q lu lq (j+1))(hv:v.length=m+2)(wv:Rd v)(v1 v2:Nat)(h2:v[m]?=some v2)(h1:v[m+1]?=some v1)(ht:0<v1)(hj:j+(m+3)<=lu):
  ∃p0 p1 p2,Jp ((U.drop j).take (m+3)) v m p0 p1 p2 v2 v1/\AO (U.drop (j+(m+3)))=0/\AO ((U.drop j).take (m+3))=AO (U.drop j):=by
 obtain⟨lU,lQ,wU,wq,val,less⟩:=I;obtain⟨x,hx⟩:=CG (l:=U) (i:=j) (by omega);have hxl:=wU x (BE hx);have e1:=Ol hx;have hlt:AO (U.drop j)<AO v*RB:=by
  have:RB*(AO (U.drop (j+1))+1)<=RB*AO v:=CR _ less
  rw[BK,BO RB (AO v)]at this;omega
 have hPl:((U.drop j).take (m+3)).length=m+3:=by rw[Bj,Do];omega
 have e2:AO (U.drop j)=AO ((U.drop j).take (m+3))+RB^(m+3)*AO (U.drop (j+(m+3))):=by
  conv=>lhs;rw[<-Ei (m+3) (U.drop j)]
  rw[If,hPl,List.drop_drop]
 have hvl:=Ff wv;rw[hv]at hvl;have hz:AO (U.drop (j+(m+3)))=0:=by
  rcases DR (AO (U.drop (j+(m+3))))with h|h
  ·exact h
  ·exfalso
   have e3:RB^(m+3)*1<=RB^(m+3)*AO (U.drop (j+(m+3))):=CR _ h;have e4:AO v*RB<=RB^(m+2)*RB:=CA _ (JE hvl);have e5:RB^(m+2)*RB=RB^(m+3):=(CB RB (m+2)).symm;rw[e5]at e4;omega
 rw[hz,EI,DL]at e2;obtain⟨p0,h0⟩:=CG (l:=(U.drop j).take (m+3)) (i:=m) (by omega);obtain⟨p1,h3⟩:=CG (l:=(U.drop j).take (m+3)) (i:=m+1) (by omega);obtain⟨p2,h4⟩:=CG (l:=(U.drop j).take (m+3)) (i:=m+2) (by omega);exact⟨p0,p1,p2,⟨hPl,hv,λa ha=>wU a (KE (Hy ha)),wv,h0,h3,h4,h2,h1,ht,by rw[<-e2];exact hlt⟩,hz,e2.symm⟩
theorem eV {X:Nat}{v U q P':List Nat}{lu lq j m:Nat}(I:K4 X v U q lu lq (j+1))(hv:0<AO v)(hj:j+(m+3)<=lu)(hjq:j<lq)(hz:AO (U.drop (j+(m+3)))=0)(hP:AO ((U.drop j).take (m+3))=AO (U.drop j))
  (h1:P'.length=m+3) (h2:Rd P') (h3:AO P'=AO ((U.drop j).take (m+3))%AO v) (hd:AO ((U.drop j).take (m+3))/AO v<RB):
  K4 X v (U.take j++(P'++U.drop (j+(m+3)))) (q.set j (AO ((U.drop j).take (m+3))/AO v)) lu lq j:=by
 obtain⟨lU,lQ,wU,wq,val,less⟩:=I;have hA:(U.take j).length=j:=by rw[Bj];omega
 have e0:AO U=AO (U.take j)+RB^j*AO (U.drop j):=by
  conv=>lhs;rw[<-Ei j U]
  rw[If,hA]
 have e1:AO (P'++U.drop (j+(m+3)))=AO P':=by rw[If,hz,EI,DL]
 refine⟨?_,by rw[DT];exact lQ,?_,wq.set hd,?_,?_⟩
 ·rw[Bf,Bf,hA,h1,Do];omega
 ·exact Rd.append (wU.take j) (Rd.append h2 λa ha=>wU a (KE ha))
 ·rw[PI (by omega),AO,If,hA,e1,h3,hP]
  rw[e0]at val;have e2:=EJ (AO (U.drop j)) (AO v);have e3:RB^(j+1)*AO (q.drop (j+1))*AO v=RB^j*(RB*AO (q.drop (j+1))*AO v):=by
   rw[CB,Bs,Bs,Bs]
  rw[e3]at val;have e4:RB^j*AO (U.drop j)=RB^j*(AO v*(AO (U.drop j)/AO v))+RB^j*(AO (U.drop j)%AO v):=by
   rw[<-BK,e2]
  rw[Bs,Bp,BK,BO (AO (U.drop j)/AO v)];omega
 ·rw[List.drop_left' hA,e1,h3]
  exact By _ hv
set_option maxHeartbeats 2000000
abbrev AZ (n:Nat):D:=i64 (n:Int)
def rL (l:List Nat):D:=.sl false 1 (l.map AZ)
def rD (n:Nat):D:=rL (AX n)
theorem NP (l:List Nat):B1 (rL l):=.sl λe he d hd=>by
 obtain⟨a,_,rfl⟩:=List.mem_map.1 he;simp only[D.cells,BA,DK,or_false]at hd;subst hd;exact .prim _
instance  (l:List Nat):AA (rL l):=⟨NP l⟩
instance  (n:Nat):AA (rD n):=⟨NP _⟩
theorem DY {l:List Nat}{i a:Nat}(h:l[i]?=some a):(l.map AZ)[i]?=some (AZ a):=by rw[BI,h];rfl
theorem L1 {l:List Nat}{i a:Nat}:(l.map AZ).set i (AZ a)=(l.set i a).map AZ:=List.map_set.symm
theorem r6 (c:Nat):((c:Int)==0)=decide (c=0):=by rw[GN,Dv,decide_eq_true_iff];omega
theorem SF (m:List Nat):AO (m++[0])=AO m:=by rw[GV rfl];simp
theorem XV {m:List Nat}{c:Nat}(h:Rd (m++[c]))(hc:c≠0):AX (AO (m++[c]))=m++[c]:=Un h λa ha=>by
 rw[List.getLast?_append]at ha;simp at ha;rw[<-ha];exact hc
theorem Kp (l:List Nat)(h:Rd l)(hlen:l.length<4000000000):AK C0 228 [rL l] (rD (AO l)):=by
 refine Ak.walk w1 YV rfl λF=>?_
 unfold rL;refine sR 0 ?_;refine AC.seq ?_;refine AC.block ?_;refine AC.loop (α:=List Nat×Nat) (λp=>⟨[(0,.sl false 1 (p.1.map AZ))],[],p.2⟩) (λp=>p.1.length)
  (λp=>AO p.1=AO l/\Rd p.1/\p.1.length<=l.length) (l,_) ⟨rfl,h,Ad _⟩ AJ ?_
 rintro⟨m,n⟩ F ⟨h1,h2,h3⟩;dsimp only at h1 h2 h3⊢;refine AC.seq ?_;refine AC.seq ?_;rcases Qn m with rfl|⟨m,c,rfl⟩
 ·have e1:decide (((0:Nat):Int)>0)=false:=rfl
  refine An w1 100 (by kernel_rfl) ?_;refine AU e1 ?_;refine AE e1 ?_;refine AL ?_;refine B5 ?_;refine sR 300 ?_;refine Af ?_;refine AQ (d0:=rL []) ?_ AA.out;rw[<-h1];unfold rD;rw[show AO []=0 from rfl,GA]
 ·rw[Ql]at h1 h2 h3⊢
  have el:((((m++[c]).map AZ).length:Nat):Int)=((m.length+1:Nat):Int):=by rw[Ap,Bf];rfl
  rw[Bf,F5]at h3;have e1:decide (((m.length+1:Nat):Int)>0)=true:=AY (by omega);have wk:IntKind.i64.wrap (((m.length+1:Nat):Int)-1)=(m.length:Int):=by rw[wI (by omega) (by omega)];omega
  have wraw:IntKind.i64.wrap (((((m++[c]).map AZ).length:Nat):Int)-1)=(m.length:Int):=by rw[el,wk]
  have hx:((m++[c]).map AZ)[m.length]?=some (AZ c):=DY (by simp);have ec:=r6 c;refine An w1 100 (by kernel_rfl) ?_;refine AU (Ae el e1) ?_;refine AE (Cv e1 wraw el wk kN) ?_;refine Bo e1 hx ?_;refine AE (Cv e1 wraw el wk ec) ?_
  by_cases hc:c=0
  ·rw[AY hc]
   subst hc;have e4:List.take (m.length-0) (List.drop 0 ((m++[0]).map AZ))=m.map AZ:=by simp
   have e5:List.take m.length ((m++[0]).map AZ)=m.map AZ:=by simp
   rw[SF]at h1;refine AL ?_;refine Am ?_;refine AC.block ?_;refine An w1 200 (by kernel_rfl) ?_;refine AU (Cv el wk wraw kN e4) ?_;exact⟨(m,_),⟨h1,λa ha=>h2 a (LE _ ha),by dsimp only;omega⟩,by dsimp only;rw[Bf,F5];omega,AJ⟩
  ·rw[Ah hc]
   refine AL ?_;refine B5 ?_;refine sR 300 ?_;refine Af ?_;refine AQ (d0:=rL (m++[c])) ?_ AA.out;unfold rD;rw[<-h1,XV h2 hc]
theorem SO (l:List Nat)(i:Nat)(hlen:l.length<4000000000)(hi:i<4000000000):AK C0 295 [rL l,AZ i] (AZ (l.getD i 0)):=by
 refine Ak.walk w1 o5 rfl λF=>?_
 unfold rL;have el:(((l.map AZ).length:Nat):Int)=(l.length:Int):=by rw[Ap]
 refine sR 0 ?_;refine AC.seq ?_;refine AC.seq ?_
 by_cases h:i<l.length
 ·have e1:decide ((i:Int)<(l.length:Int))=true:=AY (by omega)
  obtain⟨a,ha⟩:=CG h;have hx:=DY ha;have eg:l.getD i 0=a:=by rw[E2,ha];rfl
  rw[eg];refine An w1 100 (by kernel_rfl) ?_;refine AU (Ae el e1) ?_;refine AL ?_;refine sZ 200 ?_;refine AE kN ?_;refine Bo kT hx ?_;refine AE kN ?_;refine Af ?_;exact AQ rfl AA.out
 ·have e1:decide ((i:Int)<(l.length:Int))=false:=Ah (by omega)
  have eg:l.getD i 0=0:=by rw[E2,DQ (by omega)];rfl
  rw[eg];refine An w1 100 (by kernel_rfl) ?_;refine AU (Ae el e1) ?_;refine AL ?_;refine Am ?_;refine sR 300 ?_;refine Af ?_;exact AQ rfl AA.out
theorem QI (a b:Nat)(ha:(AX a).length<4000000000)(hb:(AX b).length<4000000000):AK C0 226 [rD a,rD b] (i64 (Dh a b)):=by
 refine Ak.walk w1 nX rfl λF=>?_
 have hwa:=EL a;have hwb:=EL b;have va:=Dp a;have vb:=Dp b;have hlt:=@UE a b;have hgt:=@UE b a;unfold rD rL Dh;generalize AX a=la at*;generalize AX b=lb at*;have ea:(((la.map AZ).length:Nat):Int)=(la.length:Int):=by rw[Ap]
 have eb:(((lb.map AZ).length:Nat):Int)=(lb.length:Int):=by rw[Ap]
 refine sR 0 ?_;refine AC.seq ?_;refine sZ 100 ?_;refine AU (Ae ea eb) ?_;refine AL ?_
 (refine Br (λh10=>?_) (λh10=>?_))<;>(try simp only[Bb,Bq]at h10)<;>(try simp only[h10])
 ·have hne:la.length≠lb.length:=by
   have:(la.length:Int)≠lb.length:=by simpa using h10
   omega
  refine AC.seq ?_;refine sZ 200 ?_;refine AU (Ae ea eb) ?_;refine AL ?_
  (refine Br (λh15=>?_) (λh15=>?_))<;>(try simp only[Bb,Bq]at h15)<;>(try simp only[h15])
  ·have h1:la.length<lb.length:=by
    have:(la.length:Int)<lb.length:=by simpa using h15
    omega
   rw[AH (by have:=hlt h1;omega)];refine sR 300 ?_;refine Af ?_;exact AQ rfl AA.out
  ·have h1:lb.length<la.length:=by
    have:¬(la.length:Int)<lb.length:=by simpa using h15
    omega
   have h2:=hgt h1;rw[AG (by omega),AH (by omega)];refine Am ?_;refine sR 400 ?_;refine Af ?_;exact AQ rfl AA.out
 ·have hl:la.length=lb.length:=by
   have:(la.length:Int)=lb.length:=by simpa using h10
   omega
  clear hlt hgt;refine Am ?_;refine AC.seq ?_;refine sZ 500 ?_;refine AU ea ?_;refine AC.block ?_;have w0:IntKind.i64.wrap ((la.length:Int)-1)=(la.length:Int)-1:=wI (by omega) (by omega);rw[w0];refine AC.loop (α:=Nat×Nat) (λp=>⟨[(0,.sl false 1 (la.map AZ)),(1,.sl false 1 (lb.map AZ)),(5,i64 ((p.1:Int)-1))],[],p.2⟩) (λp=>p.1)
   (λp=>p.1<=la.length/\la.drop p.1=lb.drop p.1) (la.length,_) ⟨Ad _,by rw[Ia,hl,Ia]⟩ AJ ?_
  rintro⟨k,m⟩ F ⟨h1,h2⟩;dsimp only at h1 h2⊢;refine AC.seq ?_;refine sR 600 ?_;refine AL ?_
  (refine Br (λh20=>?_) (λh20=>?_))<;>(try simp only[Bb,Bq]at h20)<;>(try simp only[h20])
  ·obtain⟨j,rfl⟩:∃j,k=j+1:=⟨k-1,by
    have:(k:Int)-1>=0:=by simpa using h20
    omega⟩
   have wj:((j+1:Nat):Int)-1=(j:Int):=by omega
   obtain⟨x,hx⟩:∃x,la[j]?=some x:=⟨la[j],BH (by omega)⟩
   obtain⟨y,hy⟩:∃y,lb[j]?=some y:=⟨lb[j],BH (by omega)⟩
   have hx':=DY hx;have hy':=DY hy;rw[wj];refine Am ?_;refine AC.seq ?_;refine AC.block ?_;refine AC.seq ?_;refine AC.seq ?_;refine B3 w1 800 [0,1,2,3,4,5,6,7] [8] (by kernel_rfl) ?_;refine AE kN ?_;refine Bo kT hx' ?_;refine AE kN ?_;refine Bo kT hy' ?_;refine AE kN ?_;refine AE kN ?_;refine AL ?_
   (refine Br (λh31=>?_) (λh31=>?_))<;>(try simp only[Bb,Bq]at h31)<;>(try simp only[h31])
   ·have hxy:x<y:=by
     have:=C3 h31
     omega
    have:=UJ hwa hx hy h2 hxy
    rw[AH (by omega)];refine sR 900 ?_;refine Af ?_;exact AQ rfl AA.out
   ·have hxy0:¬x<y:=by
     have:=DA h31
     omega
    refine Am ?_;refine AC.seq ?_;refine B3 w1 1000 [0,1,2,3,4,5,6,7] [8] (by kernel_rfl) ?_;refine AE kN ?_;refine Bo kT hx' ?_;refine AE kN ?_;refine Bo kT hy' ?_;refine AE kN ?_;refine AE kN ?_;refine AL ?_
    (refine Br (λh40=>?_) (λh40=>?_))<;>(try simp only[Bb,Bq]at h40)<;>(try simp only[h40])
    ·have hxy:y<x:=by
      have:=C3 h40
      omega
     have:=UJ hwb hy hx h2.symm hxy
     rw[AG (by omega),AH (by omega)];refine sR 1100 ?_;refine Af ?_;exact AQ rfl AA.out
    ·have hxy:x=y:=by
      have:=DA h40
      omega
     subst hxy;have w5:IntKind.i64.wrap ((j:Int)-1)=(j:Int)-1:=wI (by omega) (by omega);refine Am ?_;refine An w1 700 (by kernel_rfl) ?_;refine AU w5 ?_;have hj:=(List.getElem?_eq_some_iff.1 hx)
     have hj':=(List.getElem?_eq_some_iff.1 hy)
     refine⟨(j,_),⟨by dsimp only;omega,?_⟩,by dsimp only;omega,AJ⟩;dsimp only;rw[D9 hj.1,D9 hj'.1,hj.2,hj'.2,h2]
  ·have hk:k=0:=by
    have:¬((k:Int)-1>=0):=by simpa using h20
    omega
   subst hk;have hab:a=b:=by
    rw[<-va,<-vb]
    have:la=lb:=by simpa using h2
    rw[this]
   subst hab;rw[AG (by omega),AG (by omega)];refine B5 ?_;refine sR 1200 ?_;refine Af ?_;exact AQ rfl AA.out
theorem RH (l:List Nat)(i:Nat):AO (l.take (i+1))=AO (l.take i)+RB^i*l.getD i 0:=by
 by_cases h:i<l.length
 ·obtain⟨a,ha⟩:=CG h
  rw[En ha,GV (i:=i) (by rw[Bj];omega),E2,ha];rfl
 ·rw[B4 (by omega),B4 (by omega),E2,DQ (by omega)]
  simp
theorem Rc {l:List Nat}(h:Rd l)(i:Nat):l.getD i 0<RB:=by
 by_cases hi:i<l.length
 ·obtain⟨a,ha⟩:=CG hi
  rw[E2,ha];exact h a (BE ha)
 ·rw[E2,DQ (by omega)];decide
theorem VR (l:List Nat)(i:Nat):AO (l.take i)<=AO l:=by
 conv=>rhs;rw[<-Ei i l]
 rw[If];exact Nat.le_add_right _ _
theorem VH {a i:Nat}(h:i<(AX a).length):RB^i<=a:=by
 obtain⟨k,hk⟩:∃k,(AX a).length=k+1:=⟨(AX a).length-1,by omega⟩
 exact BQ (E4 (by decide) (by omega)) (RM hk)
structure NR (a b:Nat)(i c:Nat)(out:List Nat):Prop where
 len:out.length=i
 wd:Rd out
 c1:c<=1
 val:AO out+RB^i*c=AO ((AX a).take i)+AO ((AX b).take i)
 can:i=0\/RB^(i-1)<=a+b
theorem iE {a b i c:Nat}{out:List Nat}(I:NR a b i c out)(h:i<(AX a).length\/i<(AX b).length\/0<c):
  NR a b (i+1) (((AX a).getD i 0+(AX b).getD i 0+c)/RB) (out++[((AX a).getD i 0+(AX b).getD i 0+c)%RB])/\(AX a).getD i 0+(AX b).getD i 0+c<2*RB:=by
 obtain⟨len,wd,c1,val,can⟩:=I;have h1:=Rc (EL a) i;have h2:=Rc (EL b) i;have hs:(AX a).getD i 0+(AX b).getD i 0+c<2*RB:=by omega
 have e1:=RH (AX a) i;have e2:=RH (AX b) i;have ta:=VR (AX a) i;have tb:=VR (AX b) i;rw[Dp]at ta tb;refine⟨⟨by rw[Bf,len];rfl,Rd.append wd λx hx=>?_,?_,?_,.inr ?_⟩,hs⟩
 ·simp only[BA,DK,or_false]at hx
  subst hx;exact By _ (by decide)
 ·exact MV (Ej (by rw[BO];exact hs))
 ·rw[GV len,e1,e2,CB,Bs]
  have e:=EW ((AX a).getD i 0+(AX b).getD i 0+c) RB;generalize(AX a).getD i 0=p at*;generalize(AX b).getD i 0=q at*;have e3:RB^i*((p+q+c)%RB+RB*((p+q+c)/RB))=RB^i*(p+q+c):=by rw[e]
  rw[BK,BK,BK (RB^i) p]at e3;omega
 ·rw[Hz]
  rcases h with h|h|h
  ·have:=VH h;omega
  ·have:=VH h;omega
  ·have hc:c=1:=by omega
   subst hc;rw[Du]at val;omega
theorem iD {a b i:Nat}{out:List Nat}(I:NR a b i 0 out)(h1:¬i<(AX a).length)(h2:¬i<(AX b).length):out=AX (a+b):=by
 obtain⟨len,wd,c1,val,can⟩:=I;rw[B4 (by omega),B4 (by omega),Dp,Dp,EI,DL]at val;rcases Qn out with rfl|⟨m,c,rfl⟩
 ·rw[<-val];unfold AX;rfl
 ·rw[Ql]at*
  rw[Bf,F5]at len;have hc:c≠0:=by
   intro hc;subst hc;rcases can with h|h
   ·omega
   ·rw[SF]at val
    have:=Ff (l:=m) λx hx=>wd x (LE _ hx)
    rw[show i-1=m.length by omega]at h;omega
  rw[<-val,XV wd hc]
theorem sG (a b:Nat)(ha:(AX a).length<1000000)(hb:(AX b).length<1000000):AK C0 269 [rD a,rD b] (rD (a+b)):=by
 refine Ak.walk w1 pU rfl λF=>?_
 have hT:Fz [] [] (rD a) (rD a):=.refl _;change AC C0 F none F _ ⟨DC 0 [.sl false 1 ((AX a).map AZ),.sl false 1 ((AX b).map AZ)],[],0⟩ _;have ea:((((AX a).map AZ).length:Nat):Int)=((AX a).length:Int):=by rw[Ap]
 have eb:((((AX b).map AZ).length:Nat):Int)=((AX b).length:Int):=by rw[Ap]
 have I0:NR a b 0 0 []:=⟨rfl,(λx hx=>Aj hx DK),BS _,by simp[AO],.inl rfl⟩
 refine sR 0 ?_;refine sR 100 ?_;refine sR 200 ?_;refine AC.seq ?_;refine sR 300 ?_;refine AC.block ?_;refine AC.loop (α:=Nat×Nat×List Nat×List D×Nat×Nat) (λp=>⟨[(0,.sl false 1 ((AX a).map AZ)),(1,.sl false 1 ((AX b).map AZ)),(5,Dg 704 p.2.2.2.2.1 1 p.2.2.2.1),(6,AZ p.2.1),(7,AZ p.1)],DZ 704 p.2.2.2.2.1 3 1 p.2.2.2.1,p.2.2.2.2.2⟩)
  (λp=>(max (AX a).length (AX b).length-p.1)*2+p.2.1) (λp=>NR a b p.1 p.2.1 p.2.2.1/\p.2.2.2.1=p.2.2.1.map AZ/\p.1<=max (AX a).length (AX b).length+1) (0,0,[],[],0,_) ⟨I0,rfl,BS _⟩ AJ ?_
 rintro⟨i,c,out,L,g,n⟩ F ⟨I,hL,hi⟩;dsimp only at I hL hi⊢;have c1:=I.c1;have hol:=I.len;refine AC.seq ?_;refine Ck (α:=Nat) (λn=>⟨[(0,.sl false 1 ((AX a).map AZ)),(1,.sl false 1 ((AX b).map AZ)),(5,Dg 704 g 1 L),(6,AZ c),(7,AZ i),(22,Au (decide (i<(AX a).length\/i<(AX b).length\/0<c)))],DZ 704 g 3 1 L,n⟩) (λ_=>True) ?_ ?_
 ·generalize Dg 704 g 1 L=od at*
  generalize DZ 704 g 3 1 L=oh at*
  by_cases h1:i<(AX a).length
  ·have e1:decide ((i:Int)<((AX a).length:Int))=true:=AY (by omega)
   have e:decide (i<(AX a).length\/i<(AX b).length\/0<c)=true:=AY (.inl h1);rw[e];refine An w1 400 (by kernel_rfl) ?_;refine AU (Ae ea e1) ?_;refine AE kT ?_;refine AE kT ?_;exact⟨trivial,_,trivial,AJ⟩
  ·have e1:decide ((i:Int)<((AX a).length:Int))=false:=Ah (by omega)
   by_cases h2:i<(AX b).length
   ·have e2:decide ((i:Int)<((AX b).length:Int))=true:=AY (by omega)
    have e:decide (i<(AX a).length\/i<(AX b).length\/0<c)=true:=AY (.inr (.inl h2));rw[e];refine An w1 400 (by kernel_rfl) ?_;refine AU (Ae ea e1) ?_;refine AE kF ?_;simp only[eb,e2];refine AE kT ?_;exact⟨trivial,_,trivial,AJ⟩
   ·have e2:decide ((i:Int)<((AX b).length:Int))=false:=Ah (by omega)
    have e:decide ((c:Int)>0)=decide (i<(AX a).length\/i<(AX b).length\/0<c):=by rw[C4];omega
    rw[<-e];refine An w1 400 (by kernel_rfl) ?_;refine AU (Ae ea e1) ?_;refine AE kF ?_;simp only[eb,e2];refine AE kF ?_;exact⟨trivial,_,trivial,AJ⟩
 rintro n2 -
 by_cases h:i<(AX a).length\/i<(AX b).length\/0<c
 ·obtain⟨J,hs⟩:=iE I h
  have d1:=SO (AX a) i (by omega) (by omega);have d2:=SO (AX b) i (by omega) (by omega);unfold rL at d1 d2;have hmu:∀c',c'<=1->(max (AX a).length (AX b).length<=i->c'=0)->(max (AX a).length (AX b).length-(i+1))*2+c'<(max (AX a).length (AX b).length-i)*2+c:=λc' h1 h2=>by
   rcases BL i (max (AX a).length (AX b).length)with h3|h3
   ·omega
   ·have:=h2 h3;omega
  have hmu2:max (AX a).length (AX b).length<=i->((AX a).getD i 0+(AX b).getD i 0+c)/RB=0:=λh3=>by
   rw[E2,DQ (by omega),E2,DQ (by omega)];show(0+0+c)/1000000000=0;omega
  have hbnd:i<max (AX a).length (AX b).length+1:=by
   rcases h with h|h|h
   ·omega
   ·omega
   ·rcases BL i (max (AX a).length (AX b).length+1)with h3|h3
    ·exact h3
    ·exfalso
     obtain⟨len,wd,_,val,_⟩:=I;have hc:c=1:=by omega
     subst hc;rw[B4 (by omega),B4 (by omega),Dp,Dp,Du]at val;have l1:=IB a;have l2:=IB b;have m1:RB^(AX a).length<=RB^max (AX a).length (AX b).length:=E4 (by decide) (Nat.le_max_left _ _);have m2:RB^(AX b).length<=RB^max (AX a).length (AX b).length:=E4 (by decide) (Nat.le_max_right _ _);have m3:RB^(max (AX a).length (AX b).length+1)<=RB^i:=E4 (by decide) h3;rw[CB]at m3;generalize RB^max (AX a).length (AX b).length=Q at*;change Q*1000000000<=_ at m3;omega
  have hmu3:=hmu _ J.c1 hmu2;rw[AY h];generalize hp:(AX a).getD i 0=p at*;generalize hq:(AX b).getD i 0=q at*;have k1:IntKind.i64.wrap ((p:Int)+(q:Int))=((p+q:Nat):Int):=by rw[wI (by omega) (by unfold RB at hs;omega)];omega
  have k2:IntKind.i64.wrap (((p+q:Nat):Int)+(c:Int))=((p+q+c:Nat):Int):=by rw[wI (by omega) (by unfold RB at hs;omega)];omega
  have k3:((p+q+c:Nat):Int).tmod 1000000000=(((p+q+c)%RB:Nat):Int):=rfl;have k4:IntKind.i64.wrap (((p+q+c:Nat):Int).tdiv 1000000000)=(((p+q+c)/RB:Nat):Int):=by
   show IntKind.i64.wrap ((((p+q+c)/1000000000:Nat)):Int)=_;exact wN (by unfold RB at hs;omega)
  have wi:IntKind.i64.wrap ((i:Int)+1)=((i+1:Nat):Int):=wI (by omega) (by omega);generalize(p+q+c)%RB=d at*;generalize(p+q+c)/RB=c' at*;have hlo:L.length<=1000001:=by rw[hL,Ap];omega
  have hmo:L++[AZ d]=(out++[d]).map AZ:=by rw[hL,Cu];rfl
  clear hmu hmu2 ea eb hL I;refine AL ?_;refine Am ?_;refine AC.seq ?_;refine AC.block ?_;refine sR 600 ?_;refine cI d1 ?_;refine cI d2 ?_;simp only[k1,k2];refine AC.seq ?_;rcases L with _|⟨x,L⟩
  all_goals
   (try simp only[Bl]at hlo)
   dsimp only[IE,IF,G1,G3];refine An w1 700 (by kernel_rfl) ?_;refine AU k3 ?_;refine An w1 800 (by kernel_rfl) ?_;refine AU k4 ?_;refine An w1 500 (by kernel_rfl) ?_;refine AU wi ?_
  ·exact⟨(i+1,c',out++[d],[]++[AZ d],_,_),⟨J,hmo,hbnd⟩,hmu3,AJ⟩
  ·have htk:List.take (L.length+1) (x::L)=x::L:=by simp
   rw[htk];refine⟨(i+1,c',out++[d],x::L++[AZ d],_,_),⟨J,hmo,hbnd⟩,hmu3,by(dsimp only;rw[Mw];exact AJ)⟩
 ·rw[Ah h]
  have hc:c=0:=by omega
  subst hc;have hout:=iD I (by omega) (by omega);refine AL ?_;refine B5 ?_;refine sR 900 ?_;refine Af ?_;refine⟨_,Pt _ _ _ _ _,?_,?_⟩
  ·rw[hL];exact NP _
  ·rw[hL,hout];rfl
set_option maxHeartbeats 4000000
theorem qu {env:Ar}{t K g T n:Nat}{l:List D}(he:env.get t=Dg K g 1 l:=by exact rfl):Wk ⟨env,DZ K g T 1 l,n⟩ ⟨[(t,.sl false 1 l)],[],n⟩:=by
 refine⟨?_,⟨?_,trivial⟩,Ad _⟩
 ·cases l with
  |nil=>exact .nil
  |cons x l=>exact .drop .nil
 ·dsimp only
  rw[he];exact Pt _ _ _ _ _
theorem mO {env:Ar}{t K g n N:Nat}{z:List Nat}{T:Nat}(hl:z.length=N)(he:env.get t=.osl K g 1 0 N:=by exact rfl):Wk ⟨env,[⟨K,g,T,1,z.map AZ⟩],n⟩ ⟨[(t,.sl false 1 (z.map AZ))],[],n⟩:=by
 subst hl;refine⟨.drop .nil,⟨?_,trivial⟩,Ad _⟩;dsimp only;rw[he]
 have:=Pu K g T 1 (z.map AZ)
 rwa [Ap]at this
theorem dE {a v c:Nat}(ha:a<RB)(hv:v<RB)(hc:c<=1):∃d c',d<RB/\c'<=1/\d+v+c=a+RB*c'/\((c'=0/\(a:Int)-v-c=d)\/(c'=1/\(a:Int)-v-c<0/\(a:Int)-v-c+1000000000=d)):=by
 unfold RB at ha hv⊢
 by_cases h:a<v+c
 ·exact⟨a+1000000000-v-c,1,by omega,by omega,by omega,.inr ⟨rfl,by omega,by omega⟩⟩
 ·exact⟨a-v-c,0,by omega,by omega,by omega,.inl ⟨rfl,by omega⟩⟩
theorem ad (a b:Nat)(hab:b<=a)(ha:(AX a).length<1000000):AK C0 270 [rD a,rD b] (rD (a-b)):=by
 refine Ak.walk w1 pV rfl λF=>?_
 change AC C0 F none F _ ⟨DC 0 [.sl false 1 ((AX a).map AZ),.sl false 1 ((AX b).map AZ)],[],0⟩ _;have hlb:=IA b a hab;have va:=Dp a;have vb:=Dp b;have wx:=EL a;have wy:=EL b;generalize AX a=x at*;generalize AX b=y at*;have ea:(((x.map AZ).length:Nat):Int)=(x.length:Int):=by rw[Ap]
 refine sR 0 ?_;refine sR 100 ?_;refine sR 200 ?_;refine AC.seq ?_;refine sR 300 ?_;refine AC.block ?_;refine AC.loop (α:=Nat×Nat×List Nat×List D×Nat×Nat) (λp=>⟨[(0,.sl false 1 (x.map AZ)),(1,.sl false 1 (y.map AZ)),(5,Dg 1103 p.2.2.2.2.1 1 p.2.2.2.1),(6,AZ p.2.1),(7,AZ p.1)],DZ 1103 p.2.2.2.2.1 3 1 p.2.2.2.1,p.2.2.2.2.2⟩)
  (λp=>x.length-p.1) (λp=>p.1<=x.length/\p.2.1<=1/\p.2.2.1.length=p.1/\Rd p.2.2.1/\AO p.2.2.1+AO (y.take p.1)=AO (x.take p.1)+RB^p.1*p.2.1/\p.2.2.2.1=p.2.2.1.map AZ) (0,0,[],[],0,_) ⟨BS _,BS _,rfl,(λx hx=>Aj hx DK),by simp[AO],rfl⟩ AJ ?_
 rintro⟨i,c,out,L,g,n⟩ F ⟨hi,hc,hol,how,hI,hL⟩;dsimp only at hi hc hol how hI hL⊢;refine AC.seq ?_;refine AC.seq ?_
 by_cases h:i<x.length
 ·have e1:decide ((i:Int)<(x.length:Int))=true:=AY (by omega)
  obtain⟨p,hp⟩:=CG h;have hx:=DY hp;have hpl:=wx p (BE hp);have d2:=SO y i (by omega) (by omega);unfold rL at d2;have hql:=Rc wy i;have ty:=RH y i;have tx:AO (x.take (i+1))=AO (x.take i)+RB^i*p:=by rw[En hp,GV (i:=i) (by rw[Bj];omega)]
  generalize y.getD i 0=q at*;obtain⟨d,c',hd,hc',hdig,hcase⟩:=dE hpl hql hc;have k1:IntKind.i64.wrap ((p:Int)-(q:Int))=(p:Int)-q:=wI (by unfold RB at*;omega) (by unfold RB at*;omega);have k2:IntKind.i64.wrap ((p:Int)-q-(c:Int))=(p:Int)-q-c:=wI (by unfold RB at*;omega) (by unfold RB at*;omega);have wi:IntKind.i64.wrap ((i:Int)+1)=((i+1:Nat):Int):=wI (by omega) (by omega);have hlo:L.length<=1000001:=by rw[hL,Ap];omega
  have hmo:L++[AZ d]=(out++[d]).map AZ:=by rw[hL,Cu];rfl
  have hvn:AO (out++[d])+AO (y.take (i+1))=AO (x.take (i+1))+RB^(i+1)*c':=by
   rw[GV hol,ty,tx,CB,Bs];have e3:RB^i*(d+q+c)=RB^i*(p+RB*c'):=by rw[hdig]
   rw[BK,BK,BK (RB^i) p]at e3;omega
  have how':Rd (out++[d]):=Rd.append how λx hx=>by
   simp only[BA,DK,or_false]at hx;subst hx;exact hd
  have hol':(out++[d]).length=i+1:=by rw[Bf,hol];rfl
  clear hI hL how;refine An w1 400 (by kernel_rfl) ?_;refine AU (Ae ea e1) ?_;refine AL ?_;refine Am ?_;refine AC.seq ?_;refine AC.block ?_;refine AC.seq ?_;refine B3 w1 600 [0,1,2,3,4,5,6,7,8] [9,10] (by kernel_rfl) ?_;refine AE kN ?_;refine Bo kT hx ?_;refine AE kN ?_;refine BT.same _ d2 AI ?_;refine AE (Ae k1 k2) ?_;refine sR 700 ?_;refine Ck (α:=Nat) (λn=>⟨[(0,.sl false 1 (x.map AZ)),(1,.sl false 1 (y.map AZ)),(5,Dg 1103 g 1 L),(6,AZ c'),(7,AZ i),(8,AZ d)],DZ 1103 g 3 1 L,n⟩) (λ_=>True) ?_ ?_
  ·generalize Dg 1103 g 1 L=od at*
   generalize DZ 1103 g 3 1 L=oh at*;refine AC.seq ?_;rcases hcase with⟨rfl,h2⟩|⟨rfl,h2,h3⟩
   ·have e2:decide ((p:Int)-q-c<0)=false:=Ah (by omega)
    rw[h2]at e2;rw[h2];refine An w1 800 (by kernel_rfl) ?_;refine AU e2 ?_;refine AL ?_;refine Am ?_;exact⟨rfl,_,trivial,AJ⟩
   ·have e2:decide ((p:Int)-q-c<0)=true:=AY h2
    have k3:IntKind.i64.wrap ((p:Int)-q-c+1000000000)=(d:Int):=by rw[h3];exact wI (by unfold RB at*;omega) (by unfold RB at*;omega)
    refine An w1 800 (by kernel_rfl) ?_;refine AU e2 ?_;refine AL ?_;refine sZ 900 ?_;refine AU k3 ?_;refine rI 1000 ?_;exact⟨rfl,_,trivial,AJ⟩
  rintro n3 -;rcases L with _|⟨x0,L⟩
  all_goals
   (try simp only[Bl]at hlo)
   dsimp only[IE,IF,G1,G3];refine rI 1100 ?_;refine An w1 500 (by kernel_rfl) ?_;refine AU wi ?_
  ·exact⟨(i+1,c',out++[d],[]++[AZ d],_,_),⟨h,hc',hol',how',hvn,hmo⟩,by dsimp only;omega,AJ⟩
  ·have htk:List.take (L.length+1) (x0::L)=x0::L:=by simp
   rw[htk];refine⟨(i+1,c',out++[d],x0::L++[AZ d],_,_),⟨h,hc',hol',how',hvn,hmo⟩,by dsimp only;omega,by(dsimp only;rw[Mw];exact AJ)⟩
 ·have e1:decide ((i:Int)<(x.length:Int))=false:=Ah (by omega)
  have hix:i=x.length:=by omega
  subst hix;rw[B4 (by omega),B4 (by omega),va,vb]at hI;have hlt:=Ff how;rw[hol]at hlt;have hxl:=Ff wx;rw[va]at hxl;have hov:AO out=a-b:=by
   rcases DR c with h|h
   ·subst h;rw[EI]at hI;omega
   ·have:c=1:=by omega
    subst this;rw[Du]at hI;omega
  refine An w1 400 (by kernel_rfl) ?_;refine AU (Ae ea e1) ?_;refine AL ?_;refine B5 ?_;refine AC.weak ⟨[(5,.sl false 1 L)],[],_⟩ qu ?_;rw[hL];refine sR 1200 ?_;refine A9.same _ (Kp out how (by omega)) AI ?_;refine BN ?_;refine Af ?_;exact AQ (by rw[hov]) AA.out
theorem TV (a b:Nat)(hla:(AX a).length<1000000)(hlb:(AX b).length<1000000):AK C0 178 [rD a,rD b] (rD (a*b)):=by
 refine Ak.walk w1 oJ rfl λF=>?_
 change AC C0 F none F _ ⟨DC 0 [.sl false 1 ((AX a).map AZ),.sl false 1 ((AX b).map AZ)],[],0⟩ _;have va:=Dp a;have vb:=Dp b;have ha:=EL a;have hb:=EL b;generalize AX a=x at*;generalize AX b=y at*;subst va;subst vb;have ea:(((x.map AZ).length:Nat):Int)=(x.length:Int):=by rw[Ap]
 have eb:(((y.map AZ).length:Nat):Int)=(y.length:Int):=by rw[Ap]
 have wl:IntKind.i64.wrap ((x.length:Int)+(y.length:Int))=((x.length+y.length:Nat):Int):=by rw[wI (by omega) (by omega)];omega
 have r3:List.replicate (x.length+y.length) (ofV (.int .i64 0))=(List.replicate (x.length+y.length) 0).map AZ:=by rw[JG];rfl
 refine sR 0 ?_;refine sZ 100 ?_;refine AU (Bk ea eb wl kN) ?_;refine AC.seq ?_;refine sR 200 ?_;refine AC.block ?_;refine AC.loop (α:=Nat×List Nat×Nat) (λp=>⟨[(0,.sl false 1 (x.map AZ)),(1,.sl false 1 (y.map AZ)),(5,.osl 105 6 1 0 (x.length+y.length)),(6,i64 p.1)],[⟨105,6,3,1,p.2.1.map AZ⟩],p.2.2⟩) (λp=>x.length-p.1)
  (λp=>p.1<=x.length/\p.2.1.length=x.length+y.length/\Rd p.2.1/\AO p.2.1=AO (x.take p.1)*AO y/\∀k,p.1+y.length<=k->∀d,p.2.1[k]?=some d->d=0) (0,List.replicate (x.length+y.length) 0,_)
  ⟨BS _,by simp,RN _,by simp[AO,UK],λk _ d hd=>ON (BE hd)⟩ (by rw[<-r3];exact AJ) ?_
 rintro⟨i,o,m⟩ F ⟨h1,h2,h3,h4,h5⟩;dsimp only at h1 h2 h3 h4 h5⊢;refine AC.seq ?_;refine AC.seq ?_
 by_cases hi:i<x.length
 ·have e1:decide ((i:Int)<(x.length:Int))=true:=AY (by omega)
  obtain⟨p,hp⟩:=CG hi;have hp':=DY hp;have hpl:p<RB:=ha p (BE hp);have wi:IntKind.i64.wrap ((i:Int)+1)=((i+1:Nat):Int):=wI (by omega) (by omega);have hax:AO (x.take (i+1))=AO (x.take i)+RB^i*p:=by rw[En hp,GV (i:=i) (by rw[Bj];omega)]
  refine An w1 300 (by kernel_rfl) ?_;refine AU (Ae ea e1) ?_;refine AL ?_;refine Am ?_;refine AC.seq ?_;refine AC.block ?_;refine sR 500 ?_;refine AC.seq ?_;refine sR 600 ?_;refine AC.block ?_;refine AC.loop (α:=Nat×Nat×List Nat×Nat) (λq=>⟨[(0,.sl false 1 (x.map AZ)),(1,.sl false 1 (y.map AZ)),(5,.osl 105 6 1 0 (x.length+y.length)),(6,i64 i),(7,AZ q.2.1),(8,i64 q.1)],[⟨105,6,3,1,q.2.2.1.map AZ⟩],q.2.2.2⟩) (λq=>y.length-q.1)
   (λq=>q.1<=y.length/\q.2.1<RB/\q.2.2.1.length=x.length+y.length/\Rd q.2.2.1/\AO q.2.2.1+RB^(i+q.1)*q.2.1=AO (x.take i)*AO y+RB^i*p*AO (y.take q.1)/\∀k,i+y.length<=k->∀d,q.2.2.1[k]?=some d->d=0) (0,0,o,_)
   ⟨BS _,(show 0<RB by decide),h2,h3,by simp[AO,h4],h5⟩ AJ ?_
  rintro⟨j,c,q,m2⟩ F ⟨g1,g2,g3,g4,g5,g6⟩;dsimp only at g1 g2 g3 g4 g5 g6⊢;clear h2 h3 h4 h5 r3 wl;refine AC.seq ?_;refine AC.seq ?_
  by_cases hj:j<y.length
  ·have e2:decide ((j:Int)<(y.length:Int))=true:=AY (by omega)
   obtain⟨r,hr⟩:=CG hj;have hr':=DY hr;have hrl:r<RB:=hb r (BE hr);obtain⟨z,hz⟩:=CG (l:=q) (i:=i+j) (by omega);have hz':=DY hz;have hzl:z<RB:=g4 z (BE hz);have wj:IntKind.i64.wrap ((j:Int)+1)=((j+1:Nat):Int):=wI (by omega) (by omega);have wij:IntKind.i64.wrap ((i:Int)+(j:Int))=((i+j:Nat):Int):=by rw[wI (by omega) (by omega)];omega
   have hbx:AO (y.take (j+1))=AO (y.take j)+RB^j*r:=by rw[En hr,GV (i:=j) (by rw[Bj];omega)]
   have hpr:p*r<=999999999*999999999:=H6 (by unfold RB at hpl;omega) (by unfold RB at hrl;omega);have k0:IntKind.i64.wrap ((p:Int)*(r:Int))=((p*r:Nat):Int):=by rw[<-FU,wI (by omega) (by omega)]
   have k1:IntKind.i64.wrap ((z:Int)+((p*r:Nat):Int))=((z+p*r:Nat):Int):=by rw[wI (by omega) (by unfold RB at*;omega)];omega
   have k2:IntKind.i64.wrap (((z+p*r:Nat):Int)+(c:Int))=((z+p*r+c:Nat):Int):=by rw[wI (by omega) (by unfold RB at*;omega)];omega
   have hs:=Mt (d:=(z+p*r+c)%RB) hz;have e:=EW (z+p*r+c) RB;have hq:(z+p*r+c)/RB<RB:=Ej (by unfold RB at*;omega);have hd:(z+p*r+c)%RB<RB:=By _ (by decide);have k3:((z+p*r+c:Nat):Int).tmod 1000000000=(((z+p*r+c)%RB:Nat):Int):=rfl;have k4:IntKind.i64.wrap (((z+p*r+c:Nat):Int).tdiv 1000000000)=(((z+p*r+c)/RB:Nat):Int):=by
    show IntKind.i64.wrap ((((z+p*r+c)/1000000000:Nat)):Int)=_;exact wN (by change(z+p*r+c)/RB<=_;unfold RB at hq⊢;omega)
   have hval:AO (q.set (i+j) ((z+p*r+c)%RB))+RB^(i+(j+1))*((z+p*r+c)/RB)=AO (x.take i)*AO y+RB^i*p*AO (y.take (j+1)):=by
    rw[hbx,BK,<-EH (AO (x.take i)*AO y),<-g5];have h6:RB^(i+j)*((z+p*r+c)%RB)+RB^(i+(j+1))*((z+p*r+c)/RB)=RB^i*p*(RB^j*r)+RB^(i+j)*z+RB^(i+j)*c:=by
     have:RB^i*p*(RB^j*r)=RB^(i+j)*(p*r):=by
      rw[FX,Bs,Bs,H4 p]
     rw[this,<-EH i j 1,CB,Bs,<-BK,<-BK,<-BK,e]
     congr 1;omega
    omega
   generalize(z+p*r+c)%RB=d at*;generalize(z+p*r+c)/RB=c' at*;clear hs e g5 hax hbx;refine An w1 700 (by kernel_rfl) ?_;refine AU (Ae eb e2) ?_;refine AL ?_;refine Am ?_;refine AC.seq ?_;refine AC.block ?_;refine AC.seq ?_;refine B3 w1 900 [0,1,2,3,4,5,6,7,8,9,10,11,12,13,14,15,16] [17,18] (by kernel_rfl) ?_;refine AE (Bk wij kN BR hz') ?_;refine Bo kT hp' ?_;refine AE (Bk wij kN BR hz') ?_;refine Bo kT hr' ?_;refine AE (Av k0 k1 k2) ?_;refine sZ 1000 ?_;refine AE (Cv wij kN BR hz' k3) ?_;rw[L1];refine An w1 1100 (by kernel_rfl) ?_;refine AU k4 ?_;refine An w1 800 (by kernel_rfl) ?_;refine AU wj ?_;refine⟨(j+1,c',q.set (i+j) d,_),⟨hj,hq,by dsimp only;rw[DT];exact g3,g4.set hd,hval,λk hk d hd=>?_⟩,by dsimp only;omega,AJ⟩;dsimp only at hk hd;rw[Hx (by omega)]at hd;exact g6 k hk d hd
  ·have e2:decide ((j:Int)<(y.length:Int))=false:=Ah (by omega)
   have hj:j=y.length:=by omega
   subst hj;obtain⟨z,hz⟩:=CG (l:=q) (i:=i+y.length) (by omega);have hz0:z=0:=g6 _ (Ad _) _ hz;subst hz0;have hz':=DY hz;have wij:IntKind.i64.wrap ((i:Int)+(y.length:Int))=((i+y.length:Nat):Int):=by rw[wI (by omega) (by omega)];omega
   have wij0:IntKind.i64.wrap ((i:Int)+(((y.map AZ).length:Nat):Int))=((i+y.length:Nat):Int):=by rw[eb];exact wij
   have k1:IntKind.i64.wrap (((0:Nat):Int)+(c:Int))=(c:Int):=by rw[wI (by omega) (by unfold RB at*;omega)];omega
   have hs:=Mt (d:=c) hz;rw[B4 (Ad _)]at g5;have hval:AO (q.set (i+y.length) c)=AO (x.take (i+1))*AO y:=by
    rw[hax,Bp];omega
   clear hs g5 hax;refine An w1 700 (by kernel_rfl) ?_;refine AU (Ae eb e2) ?_;refine AL ?_;refine B5 ?_;refine An w1 1200 (by kernel_rfl) ?_;refine AE (E5 eb wij kN BR hz' k1) ?_;rw[L1];refine An w1 400 (by kernel_rfl) ?_;refine AU wi ?_;refine⟨(i+1,q.set (i+y.length) c,_),⟨hi,by dsimp only;rw[DT];exact g3,g4.set g2,hval,λk hk d hd=>?_⟩,by dsimp only;omega,AJ⟩;dsimp only at hk hd;rw[Hx (by omega)]at hd;exact g6 k (by omega) d hd
 ·have e1:decide ((i:Int)<(x.length:Int))=false:=Ah (by omega)
  have hi:i=x.length:=by omega
  subst hi;rw[B4 (Ad _)]at h4;refine An w1 300 (by kernel_rfl) ?_;refine AU (Ae ea e1) ?_;refine AL ?_;refine B5 ?_;refine AC.weak ⟨[(5,.sl false 1 (o.map AZ))],[],_⟩ (mO h2) ?_;refine sR 1300 ?_;refine A9.same _ (Kp o h3 (by omega)) AI ?_;refine BN ?_;refine Af ?_;exact AQ (by rw[h4]) AA.out
theorem Nq (a b:Nat)(h:a/b<=9223372036854775807):IntKind.i64.wrap ((a:Int).tdiv (b:Int))=((a/b:Nat):Int):=by
 rw[<-Int.ofNat_tdiv];exact wN h
theorem QN (a b:Nat):(a:Int).tmod (b:Int)=((a%b:Nat):Int):=(Int.ofNat_tmod a b).symm
theorem jf {env:Ar}{t K g n N t2:Nat}{z:List Nat}{T:Nat}{d2:D}(hl:z.length=N)(he:env.get t=.osl K g 1 0 N:=by exact rfl)(h2:env.get t2=d2:=by exact rfl):Wk ⟨env,[⟨K,g,T,1,z.map AZ⟩],n⟩ ⟨[(t,.sl false 1 (z.map AZ)),(t2,d2)],[],n⟩:=by
 subst hl;refine⟨.drop .nil,⟨?_,?_,trivial⟩,Ad _⟩
 ·dsimp only
  rw[he]
  have:=Pu K g T 1 (z.map AZ)
  rwa [Ap]at this
 ·dsimp only
  rw[h2];exact .refl _
theorem jW {r p d:Nat}(h:r*RB+p<d*RB)(hd:d<RB):IntKind.i64.wrap ((r:Int)*1000000000)=((r*RB:Nat):Int)/\IntKind.i64.wrap (((r*RB:Nat):Int)+(p:Int))=((r*RB+p:Nat):Int):=by
 unfold RB at*;refine⟨?_,?_⟩
 ·rw[wI (by omega) (by omega)];omega
 ·rw[wI (by omega) (by omega)];omega
theorem Ug (a d:Nat)(hd:0<d)(hdl:d<RB)(hl:(AX a).length<1000000):AK C0 227 [rD a,AZ d] (.tup [rD (a/d),AZ (a%d)]):=by
 refine Ak.walk w1 nY rfl λF=>?_
 change AC C0 F none F _ ⟨DC 0 [.sl false 1 ((AX a).map AZ),AZ d],[],0⟩ _;have va:=Dp a;have wa:=EL a;generalize AX a=x at*;have ea:(((x.map AZ).length:Nat):Int)=(x.length:Int):=by rw[Ap]
 have wl:IntKind.i64.wrap ((x.length:Int)-1)=(x.length:Int)-1:=wI (by omega) (by omega);have r3:List.replicate x.length (ofV (.int .i64 0))=(List.replicate x.length 0).map AZ:=by rw[JG];rfl
 have d0:¬(d:Int)=0:=by omega
 refine sR 0 ?_;refine sZ 100 ?_;refine AU (Ae ea kN) ?_;refine sR 200 ?_;refine AC.seq ?_;refine sZ 300 ?_;refine AU (Ae ea wl) ?_;refine AC.block ?_;refine AC.loop (α:=Nat×Nat×List Nat×Nat) (λp=>⟨[(0,.sl false 1 (x.map AZ)),(1,AZ d),(6,.osl 102 4 1 0 x.length),(7,AZ p.2.1),(8,i64 ((p.1:Int)-1))],[⟨102,4,3,1,p.2.2.1.map AZ⟩],p.2.2.2⟩) (λp=>p.1)
  (λp=>p.1<=x.length/\p.2.1<d/\p.2.2.1.length=x.length/\Rd p.2.2.1/\AO (p.2.2.1.drop p.1)*d+p.2.1=AO (x.drop p.1)) (x.length,0,List.replicate x.length 0,_)
  ⟨Ad _,hd,by simp,RN _,by simp[AO]⟩ (by rw[<-r3];exact AJ) ?_
 rintro⟨k,r,q,m⟩ F ⟨h1,h2,h3,h4,h5⟩;dsimp only at h1 h2 h3 h4 h5⊢;clear ea wl r3;refine AC.seq ?_;refine sR 400 ?_;refine AL ?_
 (refine Br (λh20=>?_) (λh20=>?_))<;>(try simp only[Bb,Bq]at h20)<;>(try simp only[h20])
 ·obtain⟨j,rfl⟩:∃j,k=j+1:=⟨k-1,by
   have:=C3 h20
   omega⟩
  have wj:((j+1:Nat):Int)-1=(j:Int):=by omega
  obtain⟨p,hp⟩:=CG (l:=x) (i:=j) (by omega);obtain⟨z,hz⟩:=CG (l:=q) (i:=j) (by omega);have hp':=DY hp;have hz':=DY hz;have hpl:=wa p (BE hp);obtain⟨J1,J2⟩:=bw hd hp (by omega) h5;have hsb:r*RB+p<d*RB:=by
   have:(r+1)*RB<=d*RB:=CA _ h2
   rw[Bp]at this;omega
  have hql:(r*RB+p)/d<RB:=Ej hsb;obtain⟨k1,k2⟩:=jW hsb hdl;have k3:=Nq (r*RB+p) d (BQ (JE hql) (by decide));have k4:=QN (r*RB+p) d;have wi:IntKind.i64.wrap ((j:Int)-1)=(j:Int)-1:=wI (by omega) (by omega);generalize(r*RB+p)/d=e at*;generalize(r*RB+p)%d=r' at*;rw[wj];refine Am ?_;refine AC.seq ?_;refine AC.block ?_;refine sZ 600 ?_;refine AE kN ?_;refine Bo kT hp' ?_;refine AE (Ae k1 k2) ?_;refine sZ 700 ?_;refine AE (Bk kN BR hz' k3) ?_;rw[L1];refine An w1 800 (by kernel_rfl) ?_;refine AU k4 ?_;refine An w1 500 (by kernel_rfl) ?_;refine AU wi ?_;exact⟨(j,r',q.set j e,_),⟨by dsimp only;omega,J2,by dsimp only;rw[DT];exact h3,h4.set hql,J1⟩,by dsimp only;omega,AJ⟩
 ·have hk:k=0:=by
   have:=DA h20
   omega
  subst hk;rw[FE,FE,va]at h5;obtain⟨q1,q2⟩:=Ow h5 h2;refine B5 ?_;refine AC.weak ⟨[(6,.sl false 1 (q.map AZ)),(7,AZ r)],[],_⟩ (jf h3) ?_;refine sR 900 ?_;refine A9.same _ (Kp q h4 (by omega)) AI ?_;refine BN ?_;refine Af ?_;exact AQ (by rw[q1,q2]) AA.out
structure Is (U V n2 v1 p1 q r:Nat):Prop where
 eq:q*v1+r=n2
 up:U<(q+1)*V
 cap:n2<=v1*RB+p1
 p1l:p1<RB
namespace Is
variable {U V n2 v1 p1 q r:Nat} (G:Is U V n2 v1 p1 q r)
include G
theorem small (h:RB<=r):q<RB:=by
 rcases BL q RB with h1|h1
 ·exact h1
 ·exfalso
  have h2:=CA v1 h1;have h3:=G.eq;have h4:=G.cap;have h5:=G.p1l;rw[BO RB v1]at h2;omega
theorem qle (hv:0<v1):q<=2*RB:=by
 rcases BL (2*RB) q with h1|h1
 ·exfalso
  have h2:=CA v1 h1;have h3:=G.eq;have h4:=G.cap;have h5:=G.p1l;have h6:RB*1<=RB*v1:=CR _ hv;rw[Nat.succ_mul,Bs,BO RB v1]at h2;rw[BO RB v1]at h6;omega
 ·exact h1
end Is
section
variable {P v:List Nat} {m p0 p1 p2 v2 v1:Nat} (S:Jp P v m p0 p1 p2 v2 v1)
include S
theorem cY:Is (AO P) (AO v) (p1+RB*p2) v1 p1 ((p2*RB+p1)/v1) ((p2*RB+p1)%v1):=by
 have c0:p2*RB+p1=p1+RB*p2:=by rw[BO,KH]
 rw[c0];have e:=EJ (p1+RB*p2) v1;have l:=By (p1+RB*p2) S.top;have c1:=BO v1 ((p1+RB*p2)/v1);refine⟨by omega,UW S.below2 S.abovev ?_,?_,S.p1l⟩
 ·rw[Bp];omega
 ·have:=CR RB S.p2v1
  rw[BO v1];omega
theorem cq {q r:Nat}(G:Is (AO P) (AO v) (p1+RB*p2) v1 p1 q r)(h:RB<=q\/r*RB+p0<q*v2):0<q/\Is (AO P) (AO v) (p1+RB*p2) v1 p1 (q-1) (r+v1):=by
 obtain⟨e,u,cp,pl⟩:=G;have hq:0<q:=by
  rcases h with h|h
  ·unfold RB at h;omega
  ·rcases DR q with h0|h0
   ·subst h0;omega
   ·exact h0
 obtain⟨k,rfl⟩:∃k,q=k+1:=⟨q-1,by omega⟩
 refine⟨hq,⟨?_,?_,cp,pl⟩⟩
 ·rw[Hz,<-e,Bp];omega
 ·rw[Hz]
  rcases h with h|h
  ·have h1:AO v*RB<=(k+1)*AO v:=by rw[BO];exact CA _ h
   have:=S.less
   omega
  ·have e2:(k+1)*(v2+RB*v1)=(k+1)*v2+RB*((k+1)*v1):=by rw[BK,H4]
   refine U2 S.below3 S.abovev2 ?_;rw[e2,<-e,BK RB,BO RB r];omega
theorem UX {q r:Nat}(G:Is (AO P) (AO v) (p1+RB*p2) v1 p1 q r)(h:RB<=r\/(q<RB/\q*v2<=r*RB+p0)):q<RB/\q*AO v<=AO P+AO v:=by
 have hqB:q<RB:=by
  rcases h with h|h
  ·exact G.small h
  ·exact h.1
 obtain⟨e,u,cp,pl⟩:=G;have h5:=S.v2l;have hq:q*v2<=r*RB+p0:=by
  rcases h with h|h
  ·have h2:q*v2<=RB*RB:=H6 (by omega) (by omega)
   have h3:RB*RB<=r*RB:=CA _ h;omega
  ·exact h.2
 have e2:q*(v2+RB*v1)=q*v2+RB*(q*v1):=by rw[BK,H4]
 refine⟨hqB,Vi (n3:=p0+RB*(p1+RB*p2)) (D:=v2+RB*v1) (P:=RB^m) (B:=RB) (v:=AO (v.take m)) ?_ ?_ S.lowv ?_ (by omega) ?_⟩
 ·rw[S.valP,BO];omega
 ·rw[S.valv,BO];omega
 ·rw[e2,<-e,BK RB,BO RB r]
  omega
 ·have:=S.top
  have h1:=CR RB (show 1<=v1 from this);omega
end
theorem Cw.of {H:Hp}{d0 d:D}(h:Fz H [] d0 d):Cw H d0 d:=λ_ _ _ _ m hO hN _ hv=>h.rep m hO (λe he b hb _=>hN e he b hb) hv
theorem uj {C:A8}{f:Nat}{ds ds':List D}{Φ:D->Prop}{H:Hp}{n:Nat}(hc:Ak C f ds' Φ)(hl:ds'.length=ds.length)(hv:∀(i:Nat) (a b:D),ds[i]?=some a->ds'[i]?=some b->Cw H a b)
  (hp:Ag ds') (hflat:∀d,Φ d->I1 d):CS C f ds H n (λd' H' n'=>Φ d'/\H'=H/\n'=n+1):=by
 refine⟨hc.1,λF ρ w vs m hfr hg hvs hr=>?_⟩;have hH:CU H [] H []:=by
  generalize H=H0
  have:∀H1:Hp,CU H0 [] H1 []:=λH1=>by
   induction H1 with
   |nil=>exact .nil
   |cons e r ih=>exact .drop ih
  exact this H0
 obtain⟨m',hO,hN⟩:=hH.mem m;refine(hc.2 (AM F.X ρ []) w vs m.g (BQ m.gn m.size) (λb hb=>m'.own_lt hb) (by omega) λi x hx=>?_).mono ?_
 ·have hi:i<ds'.length:=(List.getElem?_eq_some_iff.1 hx).1
  have hd0:ds[i]?=some ds[i]:=BH (by omega);exact hp.out x (BE hx) _ _ _ _ _ (hv i _ x hd0 hx C F ρ w m hO (λe he b hb=>hN e he b hb rfl) _ (hr i _ hd0))
 ·rintro e w' ⟨v,d',rfl,hb,hd',rep⟩
  have x:BP ρ (AM F.X ρ H) w ρ (AM F.X ρ H) w':=⟨hb.size,λ_ _ _ h=>h,λb hb' hO=>⟨hO,hb.block b hb'⟩,λb cs T fz hh=>⟨cs,_,by
   rw[hb.block b (Array.getElem?_eq_some_iff.1 hh).1];exact hh,rfl⟩⟩
  exact⟨v,_,H,n+1,ρ,rfl,⟨hd',rfl,rfl⟩,m.same x hb.os hb.tape hb.output hb.block,x,λk g hg'=>hfr k g (by omega),λe he=>Cz (hg e he),hflat _ hd' _ _ _ _ _ _ _ rep⟩
def V9 (P v:List Nat)(d:D):Prop:=∃q,d=AZ q/\q<RB/\AO P<(q+1)*AO v/\q*AO v<=AO P+AO v
theorem iO {p2 p1 v1:Nat}(h1:p1<RB)(h2:p2<RB):IntKind.i64.wrap ((p2:Int)*1000000000)=((p2*RB:Nat):Int)/\IntKind.i64.wrap (((p2*RB:Nat):Int)+(p1:Int))=((p2*RB+p1:Nat):Int) /\
  IntKind.i64.wrap (((p2*RB+p1:Nat):Int).tdiv (v1:Int))=(((p2*RB+p1)/v1:Nat):Int):=by
 have h3:=GO (p2*RB+p1) v1;unfold RB at*;refine⟨?_,?_,?_⟩
 ·rw[wI (by omega) (by omega)];omega
 ·rw[wI (by omega) (by omega)];omega
 ·exact Nq _ _ (by omega)
theorem eL {t r v2 p0:Nat}(ht:t<RB)(hr:r<RB)(h2:v2<RB)(h0:p0<RB):IntKind.i64.wrap ((t:Int)*(v2:Int))=((t*v2:Nat):Int)/\IntKind.i64.wrap ((r:Int)*1000000000)=((r*RB:Nat):Int) /\
  IntKind.i64.wrap (((r*RB:Nat):Int)+(p0:Int))=((r*RB+p0:Nat):Int):=by
 have h3:t*v2<=999999999*999999999:=H6 (by unfold RB at ht;omega) (by unfold RB at h2;omega);unfold RB at*;refine⟨?_,?_,?_⟩
 ·rw[<-FU,wI (by omega) (by omega)]
 ·rw[wI (by omega) (by omega)];omega
 ·rw[wI (by omega) (by omega)];omega
theorem mC {t v2 r p0:Nat}(h:t<RB):decide (((t*v2:Nat):Int)>((r*RB+p0:Nat):Int))=decide (RB<=t\/r*RB+p0<t*v2):=
 C4.2 ⟨λh1=>.inr (Int.ofNat_lt.1 h1),λh1=>Int.ofNat_lt.2 (h1.resolve_left (Nat.not_le.2 h))⟩
theorem mD {t v2 r p0:Nat}(h:¬(RB<=t\/r*RB+p0<t*v2)):t<RB/\t*v2<=r*RB+p0:=⟨Nat.lt_of_not_le λh1=>h (.inl h1),Nat.le_of_not_lt λh1=>h (.inr h1)⟩
theorem mE {P v:List Nat}{m p0 p1 p2 v2 v1:Nat}(S:Jp P v m p0 p1 p2 v2 v1):∃a1 T q0 r0:Nat,IntKind.i64.wrap ((p2:Int)*1000000000)=(a1:Int)/\IntKind.i64.wrap ((a1:Int)+(p1:Int))=(T:Int) /\
  IntKind.i64.wrap ((T:Int).tdiv (v1:Int))=(q0:Int)/\(T:Int).tmod (v1:Int)=(r0:Int)/\Is (AO P) (AO v) (p1+RB*p2) v1 p1 q0 r0/\r0<RB:=by
 obtain⟨k1,k2,k3⟩:=iO (v1:=v1) S.p1l S.p2l;exact⟨_,_,_,_,k1,k2,k3,QN _ v1,cY S,FW (By _ S.top) S.v1l⟩
theorem i8 {t r v2 p0:Nat}(ht:t<RB)(hr:r<RB)(h2:v2<RB)(h0:p0<RB):∃a1 a2 a3:Nat,IntKind.i64.wrap ((t:Int)*(v2:Int))=(a3:Int)/\IntKind.i64.wrap ((r:Int)*1000000000)=(a1:Int) /\
  IntKind.i64.wrap ((a1:Int)+(p0:Int))=(a2:Int)/\decide ((a3:Int)>(a2:Int))=decide (RB<=t\/r*RB+p0<t*v2):=by
 obtain⟨q1,q2,q3⟩:=eL ht hr h2 h0;exact⟨_,_,_,q1,q2,q3,mC ht⟩
theorem kw (U v:List Nat)(j m p0 p1 p2 v2 v1:Nat)(S:Jp ((U.drop j).take (m+3)) v m p0 p1 p2 v2 v1)(hj:j+(m+3)<=U.length)(hU:U.length<4000000):Ak C0 229 [rL U,rL v,AZ j] (V9 ((U.drop j).take (m+3)) v):=by
 refine Ak.walk w1 nZ rfl λF=>?_
 unfold rL;have hg:∀ {k p:Nat},((U.drop j).take (m+3))[k]?=some p->U[j+k]?=some p:=λ{k p} h=>by
  rw[ET]at h;split at h
  ·rwa [Gn]at h
  ·cases h
 have u0:=DY (hg S.h0);have u1:=DY (hg S.h1);have u2:=DY (hg S.h2);have y1:=DY S.g1;have y2:=DY S.g2;have l0:=S.p0l;have l1:=S.p1l;have l2:=S.p2l;have lv1:=S.v1l;have lv2:=S.v2l;have ev:(((v.map AZ).length:Nat):Int)=((m+2:Nat):Int):=by rw[Ap,S.lv]
 have eu:(((U.map AZ).length:Nat):Int)=(U.length:Int):=by rw[Ap]
 have w0:IntKind.i64.wrap ((j:Int)+((m+2:Nat):Int))=((j+(m+2):Nat):Int):=by rw[wI (by omega) (by omega)];omega
 have wa:IntKind.i64.wrap (((j+(m+2):Nat):Int)-1)=((j+(m+1):Nat):Int):=by rw[wI (by omega) (by omega)];omega
 have wb:IntKind.i64.wrap (((j+(m+2):Nat):Int)-2)=((j+m:Nat):Int):=by rw[wI (by omega) (by omega)];omega
 have wc:IntKind.i64.wrap (((m+2:Nat):Int)-1)=((m+1:Nat):Int):=by rw[wI (by omega) (by omega)];omega
 have wd:IntKind.i64.wrap (((m+2:Nat):Int)-2)=(m:Int):=by rw[wI (by omega) (by omega)];omega
 have ra:IntKind.i64.wrap (IntKind.i64.wrap ((j:Int)+((m+2:Nat):Int))-1)=((j+(m+1):Nat):Int):=by rw[w0,wa]
 have rb:IntKind.i64.wrap (IntKind.i64.wrap ((j:Int)+((m+2:Nat):Int))-2)=((j+m:Nat):Int):=by rw[w0,wb]
 obtain⟨a1,T,q0,r0,k1,k2,k3,k4,G0,hr0⟩:=mE S;have v0:¬(v1:Int)=0:=by have:=S.top;omega
 have hvl:=S.lv;refine sR 0 ?_;refine sZ 100 ?_;refine AU ev ?_;refine AC.seq ?_;refine B3 w1 200 [0,1,2,3,4,5,6,7,8,9,10,11,12,13] [14,15] (by kernel_rfl) ?_;refine AE (Bk w0 wa ra kN) ?_;refine Bo kT u2 ?_;refine AE (Bk w0 wa ra kN) ?_;refine Bo kT u1 ?_;refine AE (E5 w0 wa ra kN k1 k2) ?_;refine AC.seq ?_;refine B3 w1 300 [0,1,2,3,4,5,6,7,8,9,10,11,12,13,14] [15] (by kernel_rfl) ?_;refine AE (Ae wc kN) ?_;refine Bo kT y1 ?_;refine AE (Ae wc kN) ?_;refine Bo kT y1 ?_;refine AE (Bk wc kN k3 k4) ?_;refine Ck (α:=Nat×Nat) (λp=>⟨[(9,AZ p.1)],[],p.2⟩) (λp=>p.1<RB/\AO ((U.drop j).take (m+3))<(p.1+1)*AO v/\p.1*AO v<=AO ((U.drop j).take (m+3))+AO v) ?_ ?_
 ·refine AC.block ?_
  refine Fv (α:=Nat×Nat×Nat) (λp=>⟨[(0,.sl false 1 (U.map AZ)),(1,.sl false 1 (v.map AZ)),(2,AZ j),(7,i64 ((m+2:Nat):Int)),(9,AZ p.1),(10,AZ p.2.1)],[],p.2.2⟩) (λp=>p.1)
   (λp F'=>F'=F/\Is (AO ((U.drop j).take (m+3))) (AO v) (p1+RB*p2) v1 p1 p.1 p.2.1/\p.2.1<RB) (q0,r0,_) ⟨rfl,G0,hr0⟩ AJ ?_
  rintro⟨t,r,n⟩ F' ⟨rfl,G,hr⟩;dsimp only at G hr⊢;clear G0 hr0 k1 k2 k3 k4 u1 u2 ra wa;have htl:=G.qle S.top;obtain⟨b,hb⟩:∃b,b=decide (RB<=t\/r*RB+p0<t*v2):=⟨_,rfl⟩
  refine AC.seq ?_;refine Ck (α:=Nat) (λn=>⟨[(0,.sl false 1 (U.map AZ)),(1,.sl false 1 (v.map AZ)),(2,AZ j),(7,i64 ((m+2:Nat):Int)),(9,AZ t),(10,AZ r),(63,Au b)],[],n⟩) (λ_=>True) ?_ ?_
  ·rcases BL t RB with h|h
   ·have e1:decide ((t:Int)>=1000000000)=false:=Ah (by unfold RB at h;omega)
    obtain⟨a1,a2,a3,q1,q2,q3,q4⟩:=i8 h hr lv2 l0;rw[<-hb]at q4;clear hb;rw[<-q4];refine B3 w1 400 [0,1,2,3,4,5,6,7,8,9,10,11,12,13,14,15,16,17,18,19] [20,21] (by kernel_rfl) ?_;refine AE e1 ?_;refine AE (Av kF wd kN) ?_;refine Bo kF y2 ?_;refine AE (Cv kF w0 wb rb kN) ?_;refine Bo kF u0 ?_;refine AE (Bk kF q1 q2 q3) ?_;refine AE kF ?_;exact⟨trivial,_,trivial,AJ⟩
   ·have e1:decide ((t:Int)>=1000000000)=true:=AY (by unfold RB at h;omega)
    have e2:b=true:=hb.trans (AY (.inl h));subst e2;refine B3 w1 400 [0,1,2,3,4,5,6,7,8,9,10,11,12,13,14,15,16,17,18,19] [20,21] (by kernel_rfl) ?_;refine AE e1 ?_;refine AE kT ?_;refine AE kT ?_;exact⟨trivial,_,trivial,AJ⟩
  rintro n2 -;cases b with
  |true=>
   have hc:=C3 hb.symm;obtain⟨t0,G2⟩:=cq S G hc;have j1:IntKind.i64.wrap ((t:Int)-1)=((t-1:Nat):Int):=by rw[wI (by omega) (by unfold RB at htl;omega)];omega
   have j2:IntKind.i64.wrap ((r:Int)+(v1:Int))=((r+v1:Nat):Int):=by rw[wI (by omega) (by unfold RB at hr lv1;omega)];omega
   clear hc hb;refine AL ?_;refine Am ?_;refine AC.block ?_;refine sZ 500 ?_;refine AU j1 ?_;refine sZ 600 ?_;refine AE (Ae wc kN) ?_;refine Bo kT y1 ?_;refine AE j2 ?_;refine AC.seq ?_;rcases BL (r+v1) RB with h|h
   ·have e3:decide (((r+v1:Nat):Int)>=1000000000)=false:=Ah (by unfold RB at h;omega)
    refine An w1 700 (by kernel_rfl) ?_;refine AU e3 ?_;refine AL ?_;refine Am ?_;exact⟨(t-1,r+v1,_),⟨rfl,G2,h⟩,by dsimp only;omega,AJ⟩
   ·have e3:decide (((r+v1:Nat):Int)>=1000000000)=true:=AY (by unfold RB at h;omega)
    obtain⟨g1,g2⟩:=UX S G2 (.inl h);refine An w1 700 (by kernel_rfl) ?_;refine AU e3 ?_;refine AL ?_;refine sR 800 ?_;refine Af ?_;exact⟨_,.refl _,AA.out,t-1,rfl,g1,G2.up,g2⟩
  |false=>
   have hc:=DA hb.symm;obtain⟨g1,g2⟩:=UX S G (.inr (mD hc));clear hc hb;refine AL ?_;refine B5 ?_;exact⟨rfl,⟨t,_⟩,⟨g1,G.up,g2⟩,AJ⟩
 rintro⟨q,n⟩ ⟨g1,g2,g3⟩;dsimp only at g1 g2 g3⊢;refine sR 900 ?_;refine Af ?_;exact⟨_,.refl _,AA.out,q,rfl,g1,g2,g3⟩
def Nc (k g k' n:Nat)(env:Ar):Ar->Prop
 | []=>True
 |(t,d)::r=>(d=env.get t\/∃sz i len,env.get t=.osl k g sz i len/\d=.osl k' n sz i len)/\Nc k g k' n env r
theorem Nc.get {k g k' n:Nat}{env:Ar}:∀ {env':Ar},Nc k g k' n env env'->∀t,env'.get t=.any\/env'.get t=env.get t\/∃sz i len,env.get t=.osl k g sz i len/\env'.get t=.osl k' n sz i len
 | [],_,t=>.inl rfl
 |(t0,d)::r,h,t=>by
  simp only[Ar.get];cases hb:Nat.beq t0 t with
  |true=>
   obtain rfl:=B0 hb;rcases h.1 with h1|h1
   ·exact .inr (.inl h1)
   ·exact .inr (.inr h1)
  |false=>exact Nc.get h.2 t
section
variable {C:A8} {B F:Aa} {rd:Option Nat} {Q:Exit->Aa->St->Prop}
theorem uv {c:Code}{env:Ar}{k g k' T sz n:Nat}{es:List D}(env':Ar)(he:Nc k g k' n env env')(h:AC C B rd F c ⟨env',[⟨k',n,T,sz,es⟩],n+1⟩ Q):AC C B rd F c ⟨env,[⟨k,g,T,sz,es⟩],n⟩ Q:=by
 refine⟨λhB hd ρ a w hs=>?_⟩;obtain⟨ρ',hl,hk,hf⟩:∃ρ':Lk,(∀k1 g1 b,ρ k1 g1=some b->ρ' k1 g1=some b)/\ρ' k' n=ρ k g/\IL ρ' (n+1):=by
  cases hb:ρ k g with
  |none=>exact⟨ρ,λ_ _ _ h=>h,hs.fresh _ _ (Ad _),λk1 g1 h=>hs.fresh _ _ (Nat.le_of_succ_le h)⟩
  |some b=>exact⟨ρ.put k' n b,λk1 g1 b1 h1=>MO (hs.fresh _ _ (Ad _)) h1,D5 _ _ _ _,λk1 g1 h1=>by
    unfold Lk.put;split
    ·rename_i hh;omega
    ·exact hs.fresh _ _ (Nat.le_of_succ_le h1)⟩
 have hO:AM F.X ρ' [⟨k',n,T,sz,es⟩]=AM F.X ρ [⟨k,g,T,sz,es⟩]:=funext λb=>propext (by simp[AM,hk])
 have x:BP ρ (AM F.X ρ [⟨k,g,T,sz,es⟩]) w ρ' (AM F.X ρ' [⟨k',n,T,sz,es⟩]) w:=⟨Ad _,hl,λb _ hb=>⟨by rw[hO];exact hb,rfl⟩,λ_ cs _ _ h=>⟨cs,_,h,rfl⟩⟩
 refine h.out hB hd ρ' a w ⟨⟨⟨λe he'=>?_,by simp,λe he' b hb=>?_⟩,hs.mem.os,hs.mem.tape,hs.mem.output,hs.mem.size,hs.mem.blk,hs.mem.xlt,hs.mem.g0,hs.mem.gn,hs.mem.gw,λk1 g1 b h1=>hl _ _ _ (hs.mem.lnk _ _ _ h1),hs.mem.shp⟩,hf,λe he'=>?_,λt=>?_,hs.nt,hs.dfr⟩
 ·simp only[BA,DK,or_false]at he'
  subst he';rcases hs.mem.hok.ent ⟨k,g,T,sz,es⟩ (by simp)with⟨h1,h2⟩|⟨b,cs,h1,h2,h3⟩
  ·exact .inl ⟨h1,by rw[show ρ' k' n=ρ k g from hk];exact h2⟩
  ·refine .inr ⟨b,cs,hk.trans h1,h2,?_⟩
   have h4:=h3.mono x;exact⟨h4.len,h4.siz,h4.one,h4.rep⟩
 ·simp only[BA,DK,or_false]at he'
  subst he';exact hs.mem.hok.own ⟨k,g,T,sz,es⟩ (by simp) b (hk.symm.trans hb)
 ·simp only[BA,DK,or_false]at he'
  subst he';exact Gs _
 ·have h0:=(hs.env t).mono x
  rcases he.get t with h1|h1|⟨sz',i,len,h1,h2⟩
  ·show AV _ _ _ (env'.get t) _
   rw[h1];exact .any _
  ·show AV _ _ _ (env'.get t) _
   rw[h1];exact h0
  ·show AV _ _ _ (env'.get t) _
   rw[h2];have h5:=hs.env t;change AV _ _ _ (env.get t) _ at h5;rw[h1]at h5;generalize a.tmps.getD t undef=v at*;cases h5 with
   |onil=>exact .onil _ _ _
   |osl hr hb hc hs' hm=>exact .osl (hk.trans hr) hb hc hs' hm
end
theorem uO {b m y:Nat}(hl:(AX b).length=m+1)(hy:(AX b)[m]?=some y):∃f,f=1000000000/(y+1)/\0<f/\f<RB/\(AX (b*f)).length=m+1:=by
 have hy0:=Oe b hl hy;have hyl:y<RB:=EL b y (BE hy);have hf0:0<1000000000/(y+1):=Nat.div_pos (by unfold RB at hyl;omega) (by omega);have hf1:1000000000/(y+1)<RB:=HL (by decide) (by omega);have hm:=Nat.div_mul_le_self 1000000000 (y+1);refine⟨_,rfl,hf0,hf1,?_⟩;generalize 1000000000/(y+1)=f at*;refine dC ?_ ?_
 ·exact BQ (RM hl) (Nat.le_mul_of_pos_right _ hf0)
 ·have h2:=S4 hl hy
  have h3:=Ff ((EL b).take m);rw[Bj,hl,Eh (by omega)]at h3;rw[Dp]at h2;have h4:b<RB^m*(y+1):=by rw[BK,Du];omega
  have h5:b*f<RB^m*(y+1)*f:=Qh h4 hf0;have h6:RB^m*(y+1)*f=RB^m*(f*(y+1)):=by rw[Bs,BO (y+1)]
  have h7:RB^m*(f*(y+1))<=RB^m*RB:=CR _ hm;rw[CB];omega
theorem fB {a b f:Nat}{U v:List Nat}{k lu lq:Nat}(hf:0<f)(hU:AO U=a*f)(hv:AO v=b*f)(wU:Rd U)(lU:U.length=lu){q:List Nat}(hq:q=List.replicate lq 0)(hk:lq<=k)
  (hab:a<RB^k*b):K4 (a*f) v U q lu lq k:=by
 subst hq;refine⟨lU,MY,wU,RN _,?_,?_⟩
 ·rw[Gt (by rw[MY];exact hk)]
  rw[show AO []=0 from rfl,EI,GQ,BR,hU]
 ·rcases BL (AO (U.drop k)) (AO v)with h|h
  ·exact h
  ·exfalso
   have e0:AO U=AO (U.take k)+RB^(U.take k).length*AO (U.drop k):=by
    conv=>lhs;rw[<-Ei k U]
    rw[If]
   have h3:a*f<RB^k*b*f:=Qh hab hf;rw[Bs,<-hv]at h3;rcases BL U.length k with hl|hl
   ·rw[Gt (by omega)]at h
    rw[show AO []=0 from rfl]at h;rw[Nat.le_zero.1 h,EI]at h3;omega
   ·rw[Bj,Eh hl]at e0
    have:=CR (RB^k) h
    omega
theorem gN {a b f:Nat}{v U q:List Nat}{lu lq:Nat}(hf:0<f)(I:K4 (a*f) v U q lu lq 0)(hv:AO v=b*f):AO q=a/b/\AO U=a%b*f:=by
 obtain⟨lU,lQ,wU,wq,val,less⟩:=I;simp only[LH,IX,FE]at val less;obtain⟨h1,h2⟩:=Ow val less;rw[hv,OH _ _ hf]at h1;rw[hv,OI]at h2;exact⟨h1,h2⟩
theorem ki {P V q N Pn c z W:Nat}(hI:N+q*V=Pn+W*c)(hP:P=Pn+W*z)(hc:c<=z)(hup:P<(q+1)*V):P/V=q/\P%V=N+W*(z-c):=by
 have e:W*z=W*c+W*(z-c):=by rw[<-BK];congr 1;omega
 exact Rj (N:=N+W*(z-c)) (by omega) hup
theorem kj {P V q N Pn N2 c c2 z W:Nat}(hI:N+q*V=Pn+W*c)(hP:P=Pn+W*z)(hz:z<c)(hN:N<W)(hdn:q*V<=P+V)(hN2:N2+W*c2=N+V)(hc2:c2<=1)(hN2l:N2<W)(hVW:V<W):
  0<q/\P/V=q-1/\P%V=N2/\(z:Int)-c+c2=0:=by
 obtain⟨e,rfl⟩:∃e,c=z+1+e:=⟨c-z-1,by omega⟩
 have h1:W*(z+1+e)=W*z+W+W*e:=by rw[BK,BK,Du]
 have he:e=0:=by
  rcases DR e with h|h
  ·exact h
  ·have:=CR W h
   omega
 subst he;rw[EI]at h1;obtain⟨a1,a2,a3⟩:=VX (U:=P) (V:=V) (q:=q) (N:=N) (N3:=N2) (T:=W) (c:=c2) (by omega) hN hdn hN2 hc2 hN2l;refine⟨a1,a2,a3,?_⟩
 have:c2=1:=by
  rcases DR c2 with h|h
  ·exfalso
   subst h;rcases DR q with h0|h0
   ·subst h0;omega
   ·obtain⟨k,rfl⟩:∃k,q=k+1:=⟨q-1,by omega⟩
    rw[Bp,IX]at hI hdn;omega
  ·omega
 subst this;omega
def blk (A N:List Nat)(top:Int)(Z:List Nat):List D:=A.map AZ++(N.map AZ++(i64 top::Z.map AZ))
theorem YD {A N Z:List Nat}{top:Int}{i z:Nat}(h:N[i]?=some z):(blk A N top Z)[A.length+i]?=some (AZ z):=by
 have hi:i<N.length:=(List.getElem?_eq_some_iff.1 h).1;unfold blk;rw[E3 (by rw[Ap];omega),Ap,J9,F3 (by rw[Ap];exact hi)];exact DY h
theorem Wx {A N Z:List Nat}{top:Int}{i d:Nat}(h:i<N.length):(blk A N top Z).set (A.length+i) (AZ d)=blk A (N.set i d) top Z:=by
 unfold blk;rw[OG _ _ (by rw[Ap];omega),Ap,J9,List.set_append_left _ _ (by rw[Ap];exact h),L1]
theorem SM {A N Z:List Nat}{top:Int}{n:Nat}(h:N.length=n):(blk A N top Z)[A.length+n]?=some (i64 top):=by
 unfold blk;rw[E3 (by rw[Ap];omega),Ap,J9,E3 (by rw[Ap];omega),Ap,h,Nat.sub_self];rfl
theorem WC {A N Z:List Nat}{top t:Int}{n:Nat}(h:N.length=n):(blk A N top Z).set (A.length+n) (i64 t)=blk A N t Z:=by
 unfold blk;rw[OG _ _ (by rw[Ap];omega),Ap,J9,OG _ _ (by rw[Ap];omega),Ap,h,Nat.sub_self];rfl
theorem SL {A N Z:List Nat}{t:Nat}:blk A N (t:Int) Z=(A++((N++[t])++Z)).map AZ:=by
 unfold blk;simp[Cu]
theorem j7 {t x c z:Nat}(ht:t<RB)(hx:x<RB)(hc:c<=RB)(hz:z<RB):∃p lo hi x' d c':Nat,IntKind.i64.wrap ((t:Int)*(x:Int))=(p:Int)/\IntKind.i64.wrap ((p:Int)+(c:Int))=(x':Int)/\((x':Int)).tmod 1000000000=(lo:Int) /\
  IntKind.i64.wrap (((x':Int)).tdiv 1000000000)=(hi:Int)/\IntKind.i64.wrap ((z:Int)-(lo:Int))=(z:Int)-lo/\d<RB/\c'<=RB/\d+t*x+c=z+RB*c' /\
  ((c'=hi/\(z:Int)-lo=d)\/(c'=hi+1/\(z:Int)-lo<0/\IntKind.i64.wrap ((z:Int)-lo+1000000000)=d/\IntKind.i64.wrap ((hi:Int)+1)=((hi+1:Nat):Int))):=by
 have h3:t*x<=999999999*999999999:=H6 (by unfold RB at ht;omega) (by unfold RB at hx;omega);have e:=EW (t*x+c) 1000000000;have l:=By (t*x+c) (show 1000000000>0 by decide);have k0:IntKind.i64.wrap ((t:Int)*(x:Int))=((t*x:Nat):Int):=by rw[<-FU,wI (by omega) (by omega)]
 unfold RB at*;have k1:IntKind.i64.wrap (((t*x:Nat):Int)+(c:Int))=((t*x+c:Nat):Int):=by rw[wI (by omega) (by omega)];omega
 have k2:((t*x+c:Nat):Int).tmod 1000000000=(((t*x+c)%1000000000:Nat):Int):=QN _ 1000000000;have k3:IntKind.i64.wrap (((t*x+c:Nat):Int).tdiv 1000000000)=(((t*x+c)/1000000000:Nat):Int):=Nq _ 1000000000 (by omega);generalize t*x=p at*;generalize(p+c)%1000000000=lo at*;generalize(p+c)/1000000000=hi at*;rcases BL z lo with h|h
 ·exact⟨_,_,_,_,z+1000000000-lo,hi+1,k0,k1,k2,k3,wI (by omega) (by omega),by omega,by omega,by omega,.inr ⟨rfl,by omega,by rw[wI (by omega) (by omega)];omega,by rw[wI (by omega) (by omega)];omega⟩⟩
 ·exact⟨_,_,_,_,z-lo,hi,k0,k1,k2,k3,wI (by omega) (by omega),by omega,by omega,by omega,.inl ⟨rfl,by omega⟩⟩
theorem iz {z x c:Nat}(hz:z<RB)(hx:x<RB)(hc:c<=1):∃p s d c':Nat,IntKind.i64.wrap ((z:Int)+(x:Int))=(p:Int)/\IntKind.i64.wrap ((p:Int)+(c:Int))=(s:Int)/\((s:Int)).tmod 1000000000=(d:Int) /\
  IntKind.i64.wrap (((s:Int)).tdiv 1000000000)=(c':Int)/\d<RB/\c'<=1/\d=(z+x+c)%RB/\c'=(z+x+c)/RB:=by
 have e:=EW (z+x+c) 1000000000;have l:=By (z+x+c) (show 1000000000>0 by decide);unfold RB at*;have k0:IntKind.i64.wrap ((z:Int)+(x:Int))=((z+x:Nat):Int):=by rw[wI (by omega) (by omega)];omega
 have k1:IntKind.i64.wrap (((z+x:Nat):Int)+(c:Int))=((z+x+c:Nat):Int):=by rw[wI (by omega) (by omega)];omega
 have k2:((z+x+c:Nat):Int).tmod 1000000000=(((z+x+c)%1000000000:Nat):Int):=QN _ 1000000000;have k3:IntKind.i64.wrap (((z+x+c:Nat):Int).tdiv 1000000000)=(((z+x+c)/1000000000:Nat):Int):=Nq _ 1000000000 (by omega);exact⟨_,_,_,_,k0,k1,k2,k3,l,by omega,rfl,rfl⟩
set_option maxHeartbeats 2000000
theorem kX:rD 0=.sl false 1 []:=by unfold rD;rw[GA];rfl
theorem R6 {H:Hp}{K g T:Nat}{l:List Nat}{N:Nat}(hl:l.length=N)(he:Hp.get H K=some ⟨K,g,T,1,l.map AZ⟩:=by exact rfl):Fz H [] (.osl K g 1 0 N) (.sl false 1 (l.map AZ)):=by
 subst hl;have key:∀(j:Nat) (d d':D),(l.map AZ)[0+j]?=some d->(l.map AZ)[j]?=some d'->d=d':=λj d d' h1 h2=>by
  rw[BR]at h1;rw[h1]at h2;exact FD h2
 refine .osl (e:=⟨K,g,T,1,l.map AZ⟩) he rfl rfl rfl (by simp) (by simp) (λj d d' h1 h2=>by rw[key j d d' h1 h2]) λj d d' q c c' h1 h2 h3 h4=>?_
 rw[key j d d' h1 h2]at h3;rw[h3]at h4;cases h4;exact Fz.refl _
theorem gO (a b:Nat)(hab:a<b)(ha:(AX a).length<1000000)(hb:(AX b).length<1000000):AK C0 176 [rD a,rD b] (.tup [rD (a/b),rD (a%b)]):=by
 rw[Gr hab,DS hab,kX];refine Ak.walk w1 Sq rfl λF=>?_
 have cc:=QI a b (by omega) (by omega);have e1:=W0 hab;refine sR 0 ?_;refine AC.seq ?_;refine sR 100 ?_;refine cI cc ?_;rw[e1];refine AL ?_;refine sR 200 ?_;refine Af ?_;exact⟨_,Zk (.nil 1) (.refl _),WZ (.sl λe he=>by cases he) (NP _),rfl⟩
theorem jZ (a b:Nat)(hab:b<=a)(ha:(AX a).length<1000000)(hb:(AX b).length=1)(hb0:b≠0):AK C0 176 [rD a,rD b] (.tup [rD (a/b),rD (a%b)]):=by
 have cc:=QI a b (by omega) (by omega);have e1:=PQ hab;have hbl:b<RB:=by
  have:=IB b
  rw[hb,Nat.pow_one]at this;exact this
 have hlb:(AX b)[0]?=some b:=by rw[Od hb0 hbl];rfl
 have hb':=DY hlb;have cd:=Ug a b (Dl hb0) hbl ha;have e3:(((((AX b).map AZ).length:Nat):Int)==1)=true:=by rw[Ap,hb];rfl
 have hml:a%b<RB:=FW (By _ (Dl hb0)) hbl;have hv:AO [a%b]=a%b:=by simp[AO]
 refine Ak.walk w1 Sq rfl λF=>?_
 generalize a/b=q at*;generalize a%b=r at*;unfold rD rL at cc cd⊢;change AC C0 F none F _ _ (QD X1.tt _ (· = .tup [rD q,rD r]));generalize AX a=la at*;generalize AX b=lb at*;refine sR 0 ?_;refine AC.seq ?_;refine sR 100 ?_;refine cI cc ?_;rw[e1];refine AL ?_;refine Am ?_;refine AC.seq ?_;refine sZ 300 ?_;refine AU e3 ?_;refine AL ?_;refine sZ 400 ?_;refine AE kN ?_;refine Bo kT hb' ?_;refine AE kN ?_;refine A9.same _ cd AI ?_;refine BN ?_;refine sR 500 ?_;have hrl:Rd [r]:=λa ha=>by
  simp only[BA,DK,or_false]at ha;subst ha;exact hml
 refine A9.pure [rL [r]] _ ⟨.nn true 1 _,trivial⟩ (Kp [r] hrl (by simp)) AI ?_;refine BN ?_;refine Af ?_;exact AQ (by rw[hv];rfl) AA.out
theorem tq {H:Hp}{d1 d2 d3 e1 e2 e3:D}(h1:Cw H d1 e1)(h2:Cw H d2 e2)(h3:Cw H d3 e3):∀(i:Nat) (a b:D),[d1,d2,d3][i]?=some a->[e1,e2,e3][i]?=some b->Cw H a b
 | 0,_,_,ha,hb=>by cases ha;cases hb;exact h1
 | 1,_,_,ha,hb=>by cases ha;cases hb;exact h2
 | 2,_,_,ha,hb=>by cases ha;cases hb;exact h3
 |_+3,_,_,ha,_=>by cases ha
theorem eF {P v:List Nat}(d:D)(h:V9 P v d):I1 d:=by
 obtain⟨q,rfl,_⟩:=h;exact I1.prim _
theorem km {v N Pn:List Nat}{t i c z x:Nat}(hz:N[i]?=some z)(hx:v[i]?=some x)(ht:t<RB)(hxl:x<RB)(hc:c<=RB)(hzl:z<RB)(hI:AO N+t*AO (v.take i)=AO Pn+RB^i*c):
  ∃(p x' lo hi d c':Nat) (e:Int),IntKind.i64.wrap ((t:Int)*(x:Int))=(p:Int)/\IntKind.i64.wrap ((p:Int)+(c:Int))=(x':Int)/\((x':Int)).tmod 1000000000=(lo:Int) /\
  IntKind.i64.wrap (((x':Int)).tdiv 1000000000)=(hi:Int)/\IntKind.i64.wrap ((z:Int)-(lo:Int))=e/\d<RB/\c'<=RB/\AO (N.set i d)+t*AO (v.take (i+1))=AO Pn+RB^(i+1)*c' /\
  ((decide (e<0)=false/\e=(d:Int)/\hi=c')\/(decide (e<0)=true/\IntKind.i64.wrap (e+1000000000)=(d:Int)/\IntKind.i64.wrap ((hi:Int)+1)=(c':Int))):=by
 obtain⟨p,lo,hi,x',d,c',k1,k2,k3,k4,k5,k6,k7,k8,k9⟩:=j7 ht hxl hc hzl;have J:=bl (b:=0) (c':=0) (lo:=t*x+c) (b':=c') (d:=d) (A:=N) (P:=Pn) (v:=v) (q:=t) hz hx hI rfl (by rw[<-k8];exact EH d (t*x) c ▸ rfl);refine⟨p,x',lo,hi,d,c',_,k1,k2,k3,k4,k5,k6,k7,by rw[J,BR],?_⟩;rcases k9 with⟨h1,h2⟩|⟨h1,h2,h3,h4⟩
 ·exact .inl ⟨Ah (by rw[h2];exact Int.not_lt.2 (Int.natCast_nonneg d)),h2,h1.symm⟩
 ·exact .inr ⟨AY h2,h3,by rw[h1];exact h4⟩
theorem kZ {v N Nb:List Nat}{i c z x:Nat}(hz:N[i]?=some z)(hx:v[i]?=some x)(hxl:x<RB)(hc:c<=1)(hzl:z<RB)(hI:AO N+RB^i*c=AO Nb+AO (v.take i)):
  ∃(p s d c':Nat),IntKind.i64.wrap ((z:Int)+(x:Int))=(p:Int)/\IntKind.i64.wrap ((p:Int)+(c:Int))=(s:Int)/\((s:Int)).tmod 1000000000=(d:Int) /\
  IntKind.i64.wrap (((s:Int)).tdiv 1000000000)=(c':Int)/\d<RB/\c'<=1/\AO (N.set i d)+RB^(i+1)*c'=AO Nb+AO (v.take (i+1)):=by
 obtain⟨p,s,d,c',k1,k2,k3,k4,k5,k6,rfl,rfl⟩:=iz hzl hxl hc;exact⟨p,s,_,_,k1,k2,k3,k4,k5,k6,bh hz hx hI⟩
theorem eZ {U:List Nat}{k:Nat}(h:AO U<RB^k)(hk:k<=U.length):AO (U.take k)=AO U:=by
 have e:AO U=AO (U.take k)+RB^k*AO (U.drop k):=by
  conv=>lhs;rw[<-Ei k U]
  rw[If,Bj,Eh hk]
 rcases DR (AO (U.drop k))with h0|h0
 ·rw[h0,EI,DL]at e;exact e.symm
 ·exfalso
  have:=CR (RB^k) h0
  omega
theorem eX {P v:List Nat}{m p0 p1 p2 v2 v1:Nat}(S:Jp P v m p0 p1 p2 v2 v1):∃Pn,P=Pn++[p2]/\Pn.length=m+2/\Rd Pn/\AO P=AO Pn+RB^(m+2)*p2:=by
 have hl:=S.lP;have e:P=P.take (m+2)++[p2]:=by
  rw[<-En S.h2,B4 (by omega)]
 have hn:(P.take (m+2)).length=m+2:=by rw[Bj];omega
 refine⟨P.take (m+2),e,hn,S.wP.take _,?_⟩
 conv=>lhs;rw[e]
 rw[GV hn]
theorem ZH {P N:List Nat}{m z V:Nat}(hl:N.length=m+2)(hN:Rd N)(hz:z<RB)(hv:AO N+RB^(m+2)*z=AO P%V):(N++[z]).length=m+3/\Rd (N++[z])/\AO (N++[z])=AO P%V:=by
 refine⟨by rw[Bf,hl];rfl,Rd.append hN λa ha=>?_,by rw[GV hl,hv]⟩;simp only[BA,DK,or_false]at ha;subst ha;exact hz
set_option maxHeartbeats 4000000
theorem gP (a b m:Nat)(hab:b<=a)(ha:(AX a).length<1000000)(hb:(AX b).length=m+2):AK C0 176 [rD a,rD b] (.tup [rD (a/b),rD (a%b)]):=by
 have hlen:=IA b a hab;have cc:=QI a b (by omega) (by omega);have e1:=PQ hab;obtain⟨y,hy⟩:=CG (l:=AX b) (i:=m+1) (by omega);have yl:y<RB:=EL b y (BE hy);obtain⟨f,ef,f0,fl,hvl⟩:=uO hb hy;have wf:IntKind.i64.wrap ((1000000000:Int).tdiv ((y+1:Nat):Int))=(f:Int):=by
  rw[ef];exact Nq 1000000000 (y+1) (BQ (GO _ _) (by decide))
 have wy:IntKind.i64.wrap ((y:Int)+1)=((y+1:Nat):Int):=wI (by omega) (by unfold RB at yl;omega);have lf:AX f=[f]:=Od (Nat.pos_iff_ne_zero.1 f0) fl;have cv:=TV b f (by omega) (by rw[lf];exact(by decide:1<1000000));have cu:=TV a f (by omega) (by rw[lf];exact(by decide:1<1000000));have hu1:=RG a f;have hu2:=IA a (a*f) (Nat.le_mul_of_pos_right _ f0);rw[lf]at hu1;change _<=_+1 at hu1;obtain⟨v,hv⟩:∃v,v=AX (b*f):=⟨_,rfl⟩
 have wv:Rd v:=by rw[hv];exact EL _
 have vv:AO v=b*f:=by rw[hv];exact Dp _
 rw[<-hv]at hvl;obtain⟨U0,hU0⟩:∃U0,U0=AX (a*f):=⟨_,rfl⟩
 have wU0:Rd U0:=by rw[hU0];exact EL _
 have vU0:AO U0=a*f:=by rw[hU0];exact Dp _
 rw[<-hU0]at hu1 hu2;obtain⟨v1,h1⟩:=CG (l:=v) (i:=m+1) (by omega);obtain⟨v2,h2⟩:=CG (l:=v) (i:=m) (by omega);have v10:v1≠0:=Oe (b*f) (by rw[<-hv];exact hvl) (by rw[<-hv];exact h1);have b0:0<b:=by
  refine Dl λh=>?_
  subst h;rw[GA]at hb;cases hb
 have vpos:0<AO v:=by rw[vv];exact Gu b0 f0
 have hup:=IB a;have hbge:=RM hb;unfold rD rL at cc cv cu;rw[lf,<-hv]at cv;rw[lf,<-hU0]at cu;refine Ak.walk w1 Sq rfl λF=>?_
 change AC C0 F none F _ ⟨DC 0 [.sl false 1 ((AX a).map AZ),.sl false 1 ((AX b).map AZ)],[],0⟩ _;generalize AX a=la at*;generalize AX b=lb at*;obtain⟨lq,hlq⟩:∃lq,la.length=lq+(m+2):=⟨la.length-(m+2),by omega⟩
 have hy':=DY hy;have e3:((((lb.map AZ).length:Nat):Int)==1)=false:=by rw[Ap,hb];exact Bw.2 (by omega)
 have elb:(((lb.map AZ).length:Nat):Int)=((m+2:Nat):Int):=by rw[Ap,hb]
 have wlb0:IntKind.i64.wrap (((m+2:Nat):Int)-1)=((m+1:Nat):Int):=by rw[wI (by omega) (by omega)];omega
 have wlb:IntKind.i64.wrap ((((lb.map AZ).length:Nat):Int)-1)=((m+1:Nat):Int):=by rw[elb];exact wlb0
 have ea:(((la.map AZ).length:Nat):Int)=(la.length:Int):=by rw[Ap]
 have ev:(((v.map AZ).length:Nat):Int)=((m+2:Nat):Int):=by rw[Ap,hvl]
 have eu:(((U0.map AZ).length:Nat):Int)=(U0.length:Int):=by rw[Ap]
 have wa1:IntKind.i64.wrap ((la.length:Int)+1)=((la.length+1:Nat):Int):=wI (by omega) (by omega);have wq0:IntKind.i64.wrap (((la.length+1:Nat):Int)-((m+2:Nat):Int))=((lq+1:Nat):Int):=by rw[wI (by omega) (by omega)];omega
 have wq1:IntKind.i64.wrap (((lq+1:Nat):Int)-1)=((lq+1:Nat):Int)-1:=wI (by omega) (by omega);have wraw:IntKind.i64.wrap (IntKind.i64.wrap (((la.length+1:Nat):Int)-((m+2:Nat):Int))-1)=((lq+1:Nat):Int)-1:=by rw[wq0,wq1]
 have r3:List.replicate (lq+1) (ofV (.int .i64 0))=(List.replicate (lq+1) 0).map AZ:=by rw[JG];rfl
 refine sR 0 ?_;refine AC.seq ?_;refine sR 100 ?_;refine cI cc ?_;rw[e1];refine AL ?_;refine Am ?_;refine AC.seq ?_;refine sZ 300 ?_;refine AU e3 ?_;refine AL ?_;refine Am ?_;refine sZ 600 ?_;refine AE (Bk wlb elb wlb0 kN) ?_;refine Bo kT hy' ?_;refine AE (Av wy wf kN) ?_;refine sR 700 ?_;refine A9.pure [rL lb,rL [f]] _ ⟨.refl _,.nn true 1 _,trivial⟩ cv AI ?_;refine BN ?_;refine sZ 800 ?_;refine AU ev ?_;clear cc e1 e3 elb wlb wlb0 hy' yl hy wy wf hb;refine Ck (α:=Nat×Nat) (λp=>⟨[(0,.sl false 1 (la.map AZ)),(8,.sl true 1 [AZ f]),(9,.sl false 1 (v.map AZ)),(10,i64 ((m+2:Nat):Int)),(11,.osl 904 p.1 1 0 U0.length)],[⟨904,p.1,3,1,U0.map AZ⟩],p.2⟩) (λ_=>True) ?_ ?_
 ·refine rI 900 ?_
  refine A9.pure [rL la,rL [f]] _ ⟨.refl _,.nn true 1 _,trivial⟩ cu AI ?_;refine BN ?_;exact⟨rfl,⟨_,_⟩,trivial,AJ⟩
 rintro⟨g,n2⟩ -;dsimp only;refine Ck (α:=Nat×Nat×List Nat×Nat) (λp=>⟨[(0,.sl false 1 (la.map AZ)),(8,.sl true 1 [AZ f]),(9,.sl false 1 (v.map AZ)),(10,i64 ((m+2:Nat):Int)),(11,.osl p.1 p.2.1 1 0 (la.length+1))],[⟨p.1,p.2.1,3,1,p.2.2.1.map AZ⟩],p.2.2.2⟩) (λp=>p.2.2.1.length=la.length+1/\Rd p.2.2.1/\AO p.2.2.1=a*f) ?_ ?_
 ·refine AC.block ?_
  rcases Nat.eq_or_lt_of_le hu1 with hl|hl
  ·have eN:decide (((la.length+1:Nat):Int)<((la.length+1:Nat):Int))=false:=Ah (by omega)
   rw[hl];refine Fv (α:=Nat) (λn=>⟨[(0,.sl false 1 (la.map AZ)),(8,.sl true 1 [AZ f]),(9,.sl false 1 (v.map AZ)),(10,i64 ((m+2:Nat):Int)),(11,.osl 904 g 1 0 (la.length+1))],[⟨904,g,3,1,U0.map AZ⟩],n⟩) (λ_=>0) (λ_ F'=>F'=F) n2 rfl AJ ?_;rintro n3 F' rfl;refine AC.seq ?_;refine sZ 1000 ?_;refine AU (Av ea wa1 eN) ?_;refine AL ?_;refine B5 ?_;exact⟨rfl,⟨904,g,U0,_⟩,⟨hl,wU0,vU0⟩,AJ⟩
  ·have hl2:U0.length=la.length:=by omega
   have eN:decide (((la.length+1:Nat):Int)<((la.length+1:Nat):Int))=false:=Ah (by omega);have eY:decide ((la.length:Int)<((la.length+1:Nat):Int))=true:=AY (by omega);have hap:List.take la.length (U0.map AZ)++[D.prim (Value.int IntKind.i64 0)]=(U0++[0]).map AZ:=by
    rw[B4 (by rw[Ap];omega),Cu];rfl
   rw[hl2];refine Fv (α:=Bool×Nat×Nat) (λp=>match p with
    |(false,_,n)=>⟨[(0,.sl false 1 (la.map AZ)),(8,.sl true 1 [AZ f]),(9,.sl false 1 (v.map AZ)),(10,i64 ((m+2:Nat):Int)),(11,.osl 904 g 1 0 la.length)],[⟨904,g,3,1,U0.map AZ⟩],n⟩
    |(true,g1,n)=>⟨[(0,.sl false 1 (la.map AZ)),(8,.sl true 1 [AZ f]),(9,.sl false 1 (v.map AZ)),(10,i64 ((m+2:Nat):Int)),(11,.osl 1102 g1 1 0 (la.length+1))],[⟨1102,g1,3,1,(U0++[0]).map AZ⟩],n⟩) (λp=>cond p.1 0 1) (λ_ F'=>F'=F) (false,0,n2) rfl AJ ?_
   rintro⟨_|_,g1,n3⟩ F' rfl
   ·dsimp only
    refine AC.seq ?_;refine sZ 1000 ?_;refine AU (Av ea wa1 eY) ?_;refine AL ?_;refine Am ?_;refine AC.block ?_;refine rI 1100 ?_;refine⟨(true,n3+8,n3+10),rfl,(by decide:(0:Nat)<1),?_⟩;dsimp only;rw[hap];exact AJ
   ·dsimp only
    refine AC.seq ?_;refine sZ 1000 ?_;refine AU (Av ea wa1 eN) ?_;refine AL ?_;refine B5 ?_;refine⟨rfl,⟨1102,g1,U0++[0],_⟩,⟨by rw[Bf,hl2];rfl,Rd.append wU0 λa ha=>?_,by rw[SF];exact vU0⟩,AJ⟩;simp only[BA,DK,or_false]at ha;subst ha;decide
 rintro⟨K,gK,U1,n3⟩ ⟨lU1,wU1,vU1⟩;dsimp only at lU1 wU1 vU1⊢;refine uv [(8,.sl true 1 [AZ f]),(9,.sl false 1 (v.map AZ)),(10,i64 ((m+2:Nat):Int)),(11,.osl 1102 n3 1 0 (la.length+1))] ⟨.inl rfl,.inl rfl,.inl rfl,.inr ⟨_,_,_,rfl,rfl⟩,trivial⟩ ?_;clear cu hU0 vU0 wU0 hu1 hu2 cv;refine Ck (α:=Nat×Nat) (λp=>⟨[(8,.sl true 1 [AZ f]),(9,.sl false 1 (v.map AZ)),(10,i64 ((m+2:Nat):Int)),(11,.osl 1102 n3 1 0 (la.length+1)),(12,.osl 1204 p.1 1 0 (lq+1))],[⟨1204,p.1,3,1,(List.replicate (lq+1) 0).map AZ⟩,⟨1102,n3,3,1,U1.map AZ⟩],p.2⟩) (λ_=>True) ?_ ?_
 ·refine An w1 1200 (by kernel_rfl) ?_
  refine AU (Av wq0 kN r3) ?_;exact⟨trivial,⟨_,_⟩,trivial,by rw[<-r3];exact AJ⟩
 rintro⟨g,n2⟩ -;dsimp only;have I0:K4 (a*f) v U1 (List.replicate (lq+1) 0) (la.length+1) (lq+1) (lq+1):=by
  refine fB f0 vU1 vv wU1 lU1 rfl (Ad _) ?_
  have:RB^(lq+1)*RB^(m+1)<=RB^(lq+1)*b:=CR _ hbge
  rw[<-FX,show lq+1+(m+1)=la.length by omega]at this;omega
 clear hup hbge;refine AC.seq ?_;refine sZ 1300 ?_;refine AU wraw ?_;refine AC.block ?_;refine AC.loop (α:=Nat×List Nat×List Nat×Nat) (λp=>⟨[(8,.sl true 1 [AZ f]),(9,.sl false 1 (v.map AZ)),(10,i64 ((m+2:Nat):Int)),(11,.osl 1102 n3 1 0 (la.length+1)),(12,.osl 1204 g 1 0 (lq+1)),(13,i64 ((p.1:Int)-1))],[⟨1204,g,3,1,p.2.2.1.map AZ⟩,⟨1102,n3,3,1,p.2.1.map AZ⟩],p.2.2.2⟩) (λp=>p.1)
  (λp=>p.1<=lq+1/\K4 (a*f) v p.2.1 p.2.2.1 (la.length+1) (lq+1) p.1) (lq+1,U1,List.replicate (lq+1) 0,_) ⟨Ad _,I0⟩ AJ ?_
 rintro⟨k,u,q,n4⟩ F ⟨hk,I⟩;dsimp only at hk I⊢;clear I0 wq0 wq1 wraw r3 ea eu wU1 vU1 lU1;refine AC.seq ?_;refine sR 1400 ?_;refine AL ?_
 (refine Br (λh20=>?_) (λh20=>?_))<;>(try simp only[Bb,Bq]at h20)<;>(try simp only[h20])
 ·obtain⟨j,rfl⟩:∃j,k=j+1:=⟨k-1,by
   have:(k:Int)-1>=0:=by simpa using h20
   omega⟩
  have wj:((j+1:Nat):Int)-1=(j:Int):=by omega
  obtain⟨p0,p1,p2,SI,hz,hP⟩:=eW I hvl wv v1 v2 h2 h1 (Dl v10) (by omega);have lu:=I.lU;have cg:=kw u v j m p0 p1 p2 v2 v1 SI (by omega) (by omega);rw[wj];refine Am ?_;refine AC.seq ?_;refine AC.block ?_;refine sR 1600 ?_;refine A9.own _ (uj cg rfl (tq (Cw.of (R6 lu)) (Cw.of (.refl _)) (Cw.of (.refl _))) AI eF) ?_;rintro d H' n5 ⟨⟨t,rfl,ht1,ht2,ht3⟩,rfl,rfl⟩;refine BN ?_;obtain⟨Pn,eP,lPn,wPn,vPn⟩:=eX SI;have hA:(u.take j).length=j:=by rw[Bj];omega
  have p2l:=SI.p2l;have hdl:AO ((u.drop j).take (m+3))/AO v<RB:=Ej SI.less;have hU:u.map AZ=blk (u.take j) Pn (p2:Int) (u.drop (j+(m+3))):=by rw[SL,<-eP,<-aq]
  have J:=λP' h1 h2 h3=>eV (P':=P') I vpos (by omega) (by omega) hz hP h1 h2 h3 hdl
  obtain⟨zq,hzq⟩:=CG (l:=q) (i:=j) (by rw[I.lQ];omega);have hzq':=DY hzq;have wi':IntKind.i64.wrap ((j:Int)-1)=(j:Int)-1:=wI (by omega) (by omega);have wjn:IntKind.i64.wrap ((j:Int)+((m+2:Nat):Int))=((j+(m+2):Nat):Int):=by rw[wI (by omega) (by omega)];omega
  have hVW:=Ff wv;rw[show v.length=m+2 from hvl]at hVW;rw[hU];clear hU cg hP hz SI eP h20 wj I h1 h2 v10;generalize(u.drop j).take (m+3)=P at*;generalize u.take j=A at*;generalize u.drop (j+(m+3))=Z at*;refine sR 1700 ?_;refine AC.seq ?_;refine sR 1800 ?_;refine AC.block ?_;refine AC.loop (α:=Nat×Nat×List Nat×Nat) (λp=>⟨[(8,.sl true 1 [AZ f]),(9,.sl false 1 (v.map AZ)),(10,i64 ((m+2:Nat):Int)),(11,.osl 1102 n3 1 0 (la.length+1)),(12,.osl 1204 g 1 0 (lq+1)),(13,i64 (j:Int)),(14,AZ t),(15,AZ p.2.1),(16,i64 p.1)],[⟨1204,g,3,1,q.map AZ⟩,⟨1102,n3,3,1,blk A p.2.2.1 (p2:Int) Z⟩],p.2.2.2⟩) (λp=>m+2-p.1)
   (λp=>p.1<=m+2/\p.2.1<=RB/\p.2.2.1.length=m+2/\Rd p.2.2.1/\AO p.2.2.1+t*AO (v.take p.1)=AO Pn+RB^p.1*p.2.1) (0,0,Pn,_) ⟨BS _,BS _,lPn,wPn,by simp[AO]⟩ AJ ?_
  rintro⟨i,c,N,n6⟩ F ⟨hi,hc,hNl,hNw,hI⟩;dsimp only at hi hc hNl hNw hI⊢;refine AC.seq ?_;refine sR 1900 ?_;refine AL ?_
  (refine Br (λhlt=>?_) (λhlt=>?_))<;>(try simp only[Bb,Bq]at hlt)<;>(try simp only[hlt])
  ·have hi2:i<m+2:=by
    have:=C3 hlt
    omega
   obtain⟨x,hx⟩:=CG (l:=v) (i:=i) (by omega);have hx':=DY hx;have hxl:x<RB:=wv x (BE hx);obtain⟨z,hz⟩:=CG (l:=N) (i:=i) (by omega);have hzl:=hNw z (BE hz);have hz':=YD (A:=A) (Z:=Z) (top:=(p2:Int)) hz;rw[hA]at hz';obtain⟨p,x',lo,hi',d,c',e,k1,k2,k3,k4,k5,dl,cl,hI',hb⟩:=km hz hx ht1 hxl hc hzl hI;have hset:(blk A N (p2:Int) Z).set (j+i) (AZ d)=blk A (N.set i d) (p2:Int) Z:=by
    have:=Wx (A:=A) (Z:=Z) (top:=(p2:Int)) (i:=i) (d:=d) (N:=N) (by omega)
    rwa [hA]at this
   have wij:IntKind.i64.wrap ((i:Int)+(j:Int))=((j+i:Nat):Int):=by rw[wI (by omega) (by omega)];omega
   have wi:IntKind.i64.wrap ((i:Int)+1)=((i+1:Nat):Int):=wI (by omega) (by omega);clear hI J hVW vPn ht2 ht3 hdl;refine Am ?_;refine AC.seq ?_;refine AC.block ?_;refine sZ 2100 ?_;refine AE kN ?_;refine Bo kT hx' ?_;refine AE (Av kN k1 k2) ?_;refine sZ 2200 ?_;refine AE (E5 wij kN BR hz' k3 k5) ?_;refine sZ 2300 ?_;refine AU k4 ?_;rcases hb with⟨b1,b2,b3⟩|⟨b1,b2,b3⟩
   ·refine AC.seq ?_
    refine sZ 2400 ?_;refine AU b1 ?_;refine AL ?_;refine Am ?_;subst b2 b3;refine An w1 2700 (by kernel_rfl) ?_;refine AE (Bk wij kN BR hz') ?_;rw[hset];refine An w1 2000 (by kernel_rfl) ?_;refine AU wi ?_;exact⟨(i+1,hi',N.set i d,_),⟨hi2,cl,by dsimp only;rw[DT];exact hNl,hNw.set dl,hI'⟩,by dsimp only;omega,AJ⟩
   ·refine AC.seq ?_
    refine sZ 2400 ?_;refine AU b1 ?_;refine AL ?_;refine sZ 2500 ?_;refine AU b2 ?_;refine An w1 2600 (by kernel_rfl) ?_;refine AU b3 ?_;refine An w1 2700 (by kernel_rfl) ?_;refine AE (Bk wij kN BR hz') ?_;rw[hset];refine An w1 2000 (by kernel_rfl) ?_;refine AU wi ?_;exact⟨(i+1,c',N.set i d,_),⟨hi2,cl,by dsimp only;rw[DT];exact hNl,hNw.set dl,hI'⟩,by dsimp only;omega,AJ⟩
  ·have hi2:i=m+2:=by
    have:=DA hlt
    omega
   subst hi2;rw[B4 (by omega)]at hI;have hNlt:=Ff hNw;rw[hNl]at hNlt;have htop:=SM (A:=A) (Z:=Z) (top:=(p2:Int)) hNl;have hstop:=WC (A:=A) (Z:=Z) (top:=(p2:Int)) (t:=(p2:Int)-(c:Int)) hNl;have htop2:=SM (A:=A) (Z:=Z) (top:=(p2:Int)-(c:Int)) hNl;rw[hA]at htop hstop htop2;have p2l9:p2<1000000000:=p2l;have hc9:c<=1000000000:=hc;have wzc:IntKind.i64.wrap ((p2:Int)-(c:Int))=(p2:Int)-(c:Int):=wI (by omega) (by omega);refine B5 ?_;refine sZ 2800 ?_;refine AE (Cv wjn kN BR htop wzc) ?_;rw[hstop];rcases BL p2 c with h|h
   ·have e29:decide ((p2:Int)-(c:Int)<0)=true:=AY (by omega)
    have ht9:t<1000000000:=ht1;have wt:IntKind.i64.wrap ((t:Int)-1)=(t:Int)-1:=wI (by omega) (by omega);refine AC.seq ?_;refine sZ 2900 ?_;refine AE (Cv wjn kN BR htop2 e29) ?_;refine AL ?_;refine sZ 3000 ?_;refine AU wt ?_;refine sR 3100 ?_;refine AC.seq ?_;refine sR 3200 ?_;refine AC.block ?_;refine AC.loop (α:=Nat×Nat×List Nat×Nat) (λp=>⟨[(8,.sl true 1 [AZ f]),(9,.sl false 1 (v.map AZ)),(10,i64 ((m+2:Nat):Int)),(11,.osl 1102 n3 1 0 (la.length+1)),(12,.osl 1204 g 1 0 (lq+1)),(13,i64 (j:Int)),(14,i64 ((t:Int)-1)),(19,AZ p.2.1),(20,i64 p.1)],[⟨1204,g,3,1,q.map AZ⟩,⟨1102,n3,3,1,blk A p.2.2.1 ((p2:Int)-(c:Int)) Z⟩],p.2.2.2⟩) (λp=>m+2-p.1)
     (λp=>p.1<=m+2/\p.2.1<=1/\p.2.2.1.length=m+2/\Rd p.2.2.1/\AO p.2.2.1+RB^p.1*p.2.1=AO N+AO (v.take p.1)) (0,0,N,_) ⟨BS _,BS _,hNl,hNw,by simp[AO]⟩ AJ ?_
    rintro⟨i,c2,N2,n7⟩ F ⟨hi,hc2,hNl2,hNw2,hI2⟩;dsimp only at hi hc2 hNl2 hNw2 hI2⊢;clear htop hstop;refine AC.seq ?_;refine sR 3300 ?_;refine AL ?_
    (refine Br (λhlt2=>?_) (λhlt2=>?_))<;>(try simp only[Bb,Bq]at hlt2)<;>(try simp only[hlt2])
    ·have hi2:i<m+2:=by
      have:=C3 hlt2
      omega
     obtain⟨x,hx⟩:=CG (l:=v) (i:=i) (by omega);have hx':=DY hx;have hxl:x<RB:=wv x (BE hx);obtain⟨z,hz⟩:=CG (l:=N2) (i:=i) (by omega);have hzl:=hNw2 z (BE hz);have hz':=YD (A:=A) (Z:=Z) (top:=(p2:Int)-(c:Int)) hz;rw[hA]at hz';obtain⟨p,s,d,c',k1,k2,k3,k4,dl,cl,hI'⟩:=kZ hz hx hxl hc2 hzl hI2;have hset:(blk A N2 ((p2:Int)-(c:Int)) Z).set (j+i) (AZ d)=blk A (N2.set i d) ((p2:Int)-(c:Int)) Z:=by
      have:=Wx (A:=A) (Z:=Z) (top:=(p2:Int)-(c:Int)) (i:=i) (d:=d) (N:=N2) (by omega)
      rwa [hA]at this
     have wij:IntKind.i64.wrap ((i:Int)+(j:Int))=((j+i:Nat):Int):=by rw[wI (by omega) (by omega)];omega
     have wi:IntKind.i64.wrap ((i:Int)+1)=((i+1:Nat):Int):=wI (by omega) (by omega);clear hI2 hI J hVW vPn ht2 ht3 hdl;refine Am ?_;refine AC.seq ?_;refine AC.block ?_;refine AC.seq ?_;refine B3 w1 3500 [0,1,2,3,4,5,6,7,8,9,10,11] [12,13] (by kernel_rfl) ?_;refine AE (Bk wij kN BR hz') ?_;refine Bo kT hx' ?_;refine AE (Av kN k1 k2) ?_;refine sZ 3600 ?_;refine AE (Cv wij kN BR hz' k3) ?_;rw[hset];refine An w1 3700 (by kernel_rfl) ?_;refine AU k4 ?_;refine An w1 3400 (by kernel_rfl) ?_;refine AU wi ?_;exact⟨(i+1,c',N2.set i d,_),⟨hi2,cl,by dsimp only;rw[DT];exact hNl2,hNw2.set dl,hI'⟩,by dsimp only;omega,AJ⟩
    ·have hi2:i=m+2:=by
      have:=DA hlt2
      omega
     subst hi2;rw[B4 (by omega)]at hI2;have hNlt2:=Ff hNw2;rw[hNl2]at hNlt2;obtain⟨t0,g1,g2,g3⟩:=kj hI vPn h hNlt ht3 hI2 hc2 hNlt2 hVW;have htop3:=SM (A:=A) (Z:=Z) (top:=(p2:Int)-(c:Int)) hNl2;have hstop3:=WC (A:=A) (Z:=Z) (top:=(p2:Int)-(c:Int)) (t:=((0:Nat):Int)) hNl2;rw[hA]at htop3 hstop3;have wfin:IntKind.i64.wrap ((p2:Int)-(c:Int)+(c2:Int))=((0:Nat):Int):=by rw[g3];rfl
     have et:(t:Int)-1=((t-1:Nat):Int):=by omega
     obtain⟨f1,f2,f3⟩:=ZH (P:=P) (V:=AO v) hNl2 hNw2 (z:=0) (by decide) (by rw[EI,DL];exact g2.symm);have J1:=J _ f1 f2 f3;rw[g1]at J1;refine B5 ?_;refine An w1 3800 (by kernel_rfl) ?_;refine AE (Cv wjn kN BR htop3 wfin) ?_;rw[hstop3,SL,et];refine An w1 3900 (by kernel_rfl) ?_;refine AE (Av kN BR hzq') ?_;rw[L1];refine An w1 1500 (by kernel_rfl) ?_;refine AU wi' ?_;exact⟨(j,A++((N2++[0])++Z),q.set j (t-1),_),⟨by dsimp only;omega,J1⟩,by dsimp only;omega,AJ⟩
   ·have e29:decide ((p2:Int)-(c:Int)<0)=false:=Ah (by omega)
    obtain⟨g1,g2⟩:=ki hI vPn h ht2;have ezc:(p2:Int)-(c:Int)=((p2-c:Nat):Int):=by omega
    obtain⟨f1,f2,f3⟩:=ZH hNl hNw (z:=p2-c) (by omega) g2.symm;have J1:=J _ f1 f2 f3;rw[g1]at J1;refine AC.seq ?_;refine sZ 2900 ?_;refine AE (Cv wjn kN BR htop2 e29) ?_;refine AL ?_;refine Am ?_;rw[ezc,SL];refine An w1 3900 (by kernel_rfl) ?_;refine AE (Av kN BR hzq') ?_;rw[L1];refine An w1 1500 (by kernel_rfl) ?_;refine AU wi' ?_;exact⟨(j,A++((N++[p2-c])++Z),q.set j t,_),⟨by dsimp only;omega,J1⟩,by dsimp only;omega,AJ⟩
 ·have hk:k=0:=by
   have:¬((k:Int)-1>=0):=by simpa using h20
   omega
  subst hk;obtain⟨q1,q2⟩:=gN f0 I vv;have wu:=I.wU;have wqq:=I.wq;have lu:=I.lU;have lqq:=I.lQ;have hlt:AO u<RB^(m+2):=by
   have:=I.less
   rw[FE]at this;have h:=Ff wv;rw[show v.length=m+2 from hvl]at h;omega
  have hta:=eZ hlt (by omega);have hll:=KR hlt;rw[q2]at hll hta;have ed:a%b*f/f=a%b:=Nat.mul_div_cancel _ f0;have cd:=Ug (a%b*f) f f0 fl (by omega);rw[ed]at cd;clear I;refine B5 ?_;refine AC.weak ⟨[(8,.sl true 1 [AZ f]),(10,i64 ((m+2:Nat):Int)),(11,.sl false 1 (u.map AZ)),(12,.sl false 1 (q.map AZ))],[],_⟩ ⟨.drop (.drop .nil),⟨.refl _,.refl _,R6 lu,R6 lqq,trivial⟩,Ad _⟩ ?_;have e5:List.take (m+2) (u.map AZ)=(u.take (m+2)).map AZ:=by
   rw[List.map_take]
  have eu2:(u.map AZ).length=la.length+1:=by rw[Ap];omega
  have ct:=Kp (u.take (m+2)) (wu.take _) (by rw[Bj];omega);rw[hta]at ct;refine AC.seq ?_;refine B3 w1 4000 [0,1,2,3,4,5,6,7,8,9,10,11] [12] (by kernel_rfl) ?_;refine AE (Bk kN Nat.sub_zero (@FE D) e5) ?_;refine BT.same _ ct AI ?_;have hf0:([AZ f]:List D)[0]?=some (AZ f):=rfl;refine AE kN ?_;refine Bo kT hf0 ?_;refine AE kN ?_;refine BT.same _ cd AI ?_;refine AE kN ?_;refine sR 4100 ?_;refine A9.same _ (Kp q wqq (by omega)) AI ?_;refine BN ?_;refine Af ?_;exact AQ (by rw[q1]) AA.out
theorem Tf (a b:Nat)(hb:b≠0)(ha:(AX a).length<1000000)(hbl:(AX b).length<1000000):AK C0 176 [rD a,rD b] (.tup [rD (a/b),rD (a%b)]):=by
 rcases BL a b with h|h
 ·exact gO a b h ha hbl
 ·rcases hl:(AX b).length with _|m
  ·have:=IB b
   rw[hl]at this;simp at this;exact Aj this hb
  ·rcases m with _|m
   ·exact jZ a b h ha hl hb
   ·exact gP a b m h ha hl
abbrev rZ (z:Int):D:=.agg [Au (decide (z<0)),rD z.natAbs]
def sg (neg:Bool)(n:Nat):Int:=if neg then -(n:Int)else n
theorem i7 {n:Nat}:0<(AX n).length↔n≠0:=by
 constructor
 ·rintro h rfl
  rw[GA]at h;cases h
 ·intro h
  rw[ID h,Bl];exact Nat.succ_pos _
theorem Vp (n:Nat):decide (((((AX n).map AZ).length:Nat):Int)>0)=decide (n≠0):=by
 have:=@i7 n
 rw[Ap];exact C4.2 ⟨λh=>this.1 (by omega),λh=>by have:=this.2 h;omega⟩
theorem sP (neg:Bool)(n:Nat):rZ (sg neg n)=.agg [Au (neg&&decide (n≠0)),rD n]:=by
 unfold rZ sg;cases neg
 ·simp only[HK,if_false,KG,EA]
  rw[Ah (by omega)]
 ·simp only[if_true,IZ,LD,EA]
  congr 3
  exact C4.2 (by omega)
theorem QC (z:Int):sg (decide (z<0)) z.natAbs=z:=by
 unfold sg
 by_cases h:z<0
 ·rw[AY h,AH rfl];omega
 ·rw[Ah h,AG (by decide)];omega
theorem S2 (b:Bool)(n:Nat):B1 (.agg [Au b,.sl false 1 ((AX n).map AZ)]):=.agg λd hd=>by
 simp only[BA,DK,or_false]at hd;rcases hd with rfl|rfl
 ·exact .prim _
 ·exact NP _
def GL (z:Int):Prop:=(AX z.natAbs).length<1000000
instance  (b:Bool)(n:Nat):AA (.agg [Au b,rD n]):=⟨S2 b n⟩
theorem WE (a b:Nat)(fa:(AX a).length<1000000)(fb:(AX b).length<1000000):AK C0 175 [rD a,rD b] (rD (Nat.gcd a b)):=by
 refine Ak.walk w1 oI rfl λF=>?_
 change AC C0 F none F _ ⟨DC 0 [.sl false 1 ((AX a).map AZ),.sl false 1 ((AX b).map AZ)],[],0⟩ _;refine sR 0 ?_;refine AC.seq ?_;refine AC.block ?_;refine AC.loop (α:=Nat×Nat×Nat) (λp=>⟨[(0,.sl false 1 ((AX p.1).map AZ)),(1,.sl false 1 ((AX p.2.1).map AZ))],[],p.2.2⟩) (λp=>p.2.1)
  (λp=>Nat.gcd p.1 p.2.1=Nat.gcd a b/\(AX p.1).length<1000000/\(AX p.2.1).length<1000000) (a,b,_) ⟨rfl,fa,fb⟩ AJ ?_
 rintro⟨x,y,n⟩ F ⟨h1,h2,h3⟩;dsimp only at h1 h2 h3⊢;have et:=Vp y;refine AC.seq ?_;refine sZ 100 ?_;refine AU et ?_
 by_cases hy:y=0
 ·rw[Ah (by simpa using hy)]
  subst hy;refine AL ?_;refine B5 ?_;refine sR 400 ?_;refine Af ?_;refine AQ (d0:=rD x) ?_ AA.out;rw[<-h1,Nat.gcd_zero_right]
 ·rw[AY hy]
  have cd:=Tf x y hy h2 h3;refine AL ?_;refine Am ?_;refine AC.block ?_;refine sR 200 ?_;refine cI cd ?_;refine rI 300 ?_;refine⟨(y,x%y,_),⟨?_,h3,?_⟩,By x (by omega),AJ⟩
  ·dsimp only
   rw[<-h1,Mb x y,Nat.gcd_rec y x,Mb]
  ·exact DJ (IA _ _ (Nat.mod_le x y)) h2
theorem WG (neg:Bool)(l:List Nat)(h:Rd l)(hl:l.length<1000000000):AK C0 177 [Au neg,rL l] (rZ (sg neg (AO l))):=by
 refine Ak.walk w1 Yy rfl λF=>?_
 rw[sP];have ct:=Kp l h (by omega);generalize AO l=n at*;have et:=Vp n;unfold rD at ct⊢;unfold rL at ct⊢;refine sR 0 ?_;refine sR 100 ?_;refine cI ct ?_;refine AC.seq ?_;cases neg
 ·refine An w1 200 (by kernel_rfl) ?_
  refine AE et ?_;refine Af ?_;exact AQ (by simp) (S2 _ n)
 ·refine An w1 200 (by kernel_rfl) ?_
  refine AE et ?_;refine Af ?_;exact AQ (by simp) (S2 _ n)
theorem Kf (neg:Bool)(n:Nat)(h:(AX n).length<1000000000):AK C0 177 [Au neg,rD n] (rZ (sg neg n)):=by
 have:=WG neg (AX n) (EL n) h
 rwa [Dp]at this
theorem W9 (z:Int)(h:GL z):AK C0 174 [rZ z] (rZ (-z)):=by
 have cs:=Kf (!decide (z<0)) z.natAbs (FW h (by decide));have e:rZ (sg (!decide (z<0)) z.natAbs)=rZ (-z):=by
  congr 1
  unfold sg
  by_cases hz:z<0
  ·rw[AY hz];simp;omega
  ·rw[Ah hz];simp;omega
 rw[e]at cs;refine Ak.walk w1 oH rfl λF=>?_
 refine sR 0 ?_;refine sR 100 ?_;refine cI cs ?_;refine Af ?_;exact AQ rfl AA.out
theorem SW (x y:Int)(hx:GL x)(hy:GL y):AK C0 125 [rZ x,rZ y] (rZ (x*y)):=by
 have cm:=TV x.natAbs y.natAbs hx hy;have hl:(AX (x.natAbs*y.natAbs)).length<1000000000:=DJ (RG _ _) (by unfold GL at hx hy;omega);have cs:=λb=>Kf b (x.natAbs*y.natAbs) hl
 have e:sg (decide (x<0) != decide (y<0)) (x.natAbs*y.natAbs)=x*y:=by
  conv=>rhs;rw[<-QC x,<-QC y]
  generalize decide (x<0)=a;generalize decide (y<0)=b;unfold sg;cases a<;>cases b<;>simp[Int.neg_mul,Int.mul_neg]
 rw[<-e];refine Ak.walk w1 m7 rfl λF=>?_
 refine sR 0 ?_;refine AC.seq ?_;refine B3 w1 100 [0,1,2,3,4,5,6,7,8,9] [10,11] (by kernel_rfl) ?_;refine AE kN ?_;refine BT.same _ cm AI ?_;refine AE kN ?_;refine A9.same _ (cs _) AI ?_;refine BN ?_;refine Af ?_;exact AQ rfl AA.out
theorem iK {a b:Nat}(h:b<=a):decide (Dh (a:Int) (b:Int)>=0)=true:=AY (by unfold Dh;split<;>(try split)<;>omega)
theorem iL {a b:Nat}(h:a<b):decide (Dh (a:Int) (b:Int)>=0)=false:=Ah (by unfold Dh;split<;>(try split)<;>omega)
theorem rG (x y:Int)(hx:GL x)(hy:GL y):AK C0 225 [rZ x,rZ y] (rZ (x+y)):=by
 refine Ak.walk w1 nW rfl λF=>?_
 unfold GL at hx hy;cases hs:(decide (x<0)==decide (y<0))
 ·have hs':decide (x<0)≠decide (y<0):=by simpa using hs
  have hs2:(x<0/\¬y<0)\/(¬x<0/\y<0):=by
   by_cases h1:x<0<;>by_cases h2:y<0<;>simp_all
  have cc:=QI x.natAbs y.natAbs (by omega) (by omega);refine sR 0 ?_;refine AC.seq ?_;refine sZ 100 ?_;refine AU hs ?_;refine AL ?_;refine Am ?_;refine AC.seq ?_;refine sR 300 ?_;refine cI cc ?_;rcases BL x.natAbs y.natAbs with h|h
  ·have cb:=ad y.natAbs x.natAbs (JE h) hy
   have cs:=Kf (decide (y<0)) (y.natAbs-x.natAbs) (DJ (Um _ _) (by omega));have e:sg (decide (y<0)) (y.natAbs-x.natAbs)=x+y:=by
    unfold sg
    by_cases hy0:y<0
    ·rw[AY hy0,AH rfl];omega
    ·rw[Ah hy0,AG (by decide)];omega
   rw[e]at cs;rw[iL h];refine AL ?_;refine Am ?_;refine AC.seq ?_;refine B3 w1 500 [0,1,2,3,4,5,6] [7,8] (by kernel_rfl) ?_;refine AE kN ?_;refine BT.same _ cb AI ?_;refine AE kN ?_;refine A9.same _ cs AI ?_;refine BN ?_;refine Af ?_;exact AQ rfl AA.out
  ·have cb:=ad x.natAbs y.natAbs h hx
   have cs:=Kf (decide (x<0)) (x.natAbs-y.natAbs) (DJ (Um _ _) (by omega));have e:sg (decide (x<0)) (x.natAbs-y.natAbs)=x+y:=by
    unfold sg
    by_cases hx0:x<0
    ·rw[AY hx0,AH rfl];omega
    ·rw[Ah hx0,AG (by decide)];omega
   rw[e]at cs;rw[iK h];refine AL ?_;refine AC.seq ?_;refine B3 w1 400 [0,1,2,3,4,5,6] [7,8] (by kernel_rfl) ?_;refine AE kN ?_;refine BT.same _ cb AI ?_;refine AE kN ?_;refine A9.same _ cs AI ?_;refine BN ?_;refine Af ?_;exact AQ rfl AA.out
 ·have hs':decide (x<0)=decide (y<0):=by simpa using hs
  have ca:=sG x.natAbs y.natAbs hx hy;have cs:=Kf (decide (x<0)) (x.natAbs+y.natAbs) (DJ (Ul _ _) (by omega));have e:sg (decide (x<0)) (x.natAbs+y.natAbs)=x+y:=by
   unfold sg
   by_cases hx0:x<0
   ·have hy0:y<0:=C3 (hs'.symm.trans (AY hx0))
    rw[AY hx0,AH rfl];omega
   ·have hy0:¬y<0:=DA (hs'.symm.trans (Ah hx0))
    rw[Ah hx0,AG (by decide)];omega
  rw[e]at cs;refine sR 0 ?_;refine AC.seq ?_;refine sZ 100 ?_;refine AU hs ?_;refine AL ?_;refine AC.seq ?_;refine B3 w1 200 [0,1,2,3,4,5,6] [7,8] (by kernel_rfl) ?_;refine AE kN ?_;refine BT.same _ ca AI ?_;refine AE kN ?_;refine A9.same _ cs AI ?_;refine BN ?_;refine Af ?_;exact AQ rfl AA.out
theorem dL (k m:Nat):Eb (k+1) m []=Eb k (m/10) []++[UInt8.ofNat (48+m%10)]:=by
 rw[<-US (k+1) m [] (.inr (Nat.succ_pos k))];unfold Eb K7
 by_cases h:m/10=0
 ·rw[AH h,AH h];simp
 ·rw[AG h,AG h]
  rw[DE,Bf,F5,Nat.add_sub_add_right,Dm]
theorem SN:∀(k hi d:Nat),hi≠0->d<10^k->Lib.decDigits (hi*10^k+d)=Lib.decDigits hi++Eb k d []
 | 0,hi,d,_,hd=>by
  have h0:d=0:=by simpa using hd
  subst h0;rw[LH,Du,DL];simp[Eb,K7]
 |k+1,hi,d,hh,hd=>by
  have e1:hi*10^(k+1)=10*(hi*10^k):=by rw[CB,<-Bs,BO]
  have h1:1<=10^k:=Nat.pow_pos (by decide);have h2:1<=hi*10^k:=Gu (Dl hh) h1;have h3:¬hi*10^(k+1)+d<10:=by omega
  have h4:d/10<10^k:=by rw[CB]at hd;omega
  rw[dL,<-Dm,<-SN k hi (d/10) hh h4];rw[Lib.decDigits,dif_neg h3,e1]
  congr 2
  ·omega
  ·congr 1;omega
theorem nF (hi d:Nat)(h:hi≠0)(hd:d<RB):Lib.decDigits (d+RB*hi)=Lib.decDigits hi++Eb 9 d []:=by
 have:=SN 9 hi d h (CM hd (by decide))
 rw[<-this]
 congr 1
 rw[BO,KH]
theorem ND {l:List Nat}(h:Rd l):(Lib.decDigits (AO l)).length<=9*l.length+1:=by
 have h1:=Ff h;have e:RB^l.length=10^(9*l.length):=by rw[Nat.pow_mul]
 rw[e]at h1;refine LN _ _ (FW h1 ?_);exact Nat.pow_lt_pow_right (by decide) (Gs _)
theorem W3 (neg:Bool)(n:Nat)(h:neg=true->n≠0):Lib.itoa (sg neg n)=if neg then 45::Lib.decDigits n else Lib.decDigits n:=by
 unfold Lib.itoa sg;cases neg
 ·simp only[HK,if_false]
  rw[AG (by omega)];rfl
 ·have:=h rfl
  simp only[if_true];rw[AH (by omega),LD];rfl
theorem qf (neg:Bool)(n:Nat)(h:neg=true->n≠0)(hl:(AX n).length<1000000):AK C0 126 [.agg [Au neg,rD n]] (str (sb (Lib.itoa (sg neg n)))):=by
 refine Ak.walk w1 m8 rfl λF=>?_
 rw[W3 neg n h];change AC C0 F none F _ ⟨DC 0 [.agg [Au neg,.sl false 1 ((AX n).map AZ)]],[],0⟩ _;have vn:=Dp n;have wn:=EL n;have tp:=λk a=>Oe n (k:=k) (a:=a)
 generalize AX n=l at*;subst vn;rcases hc:l.length with _|m
 ·have e0:l=[]:=ER hc
  subst e0;have hn:neg=false:=by cases neg;rfl;exact Aj rfl (h rfl)
  subst hn;have e1:Lib.decDigits (AO [])=[48]:=by unfold Lib.decDigits AO;rw[dif_pos (by decide)];rfl
  rw[AG (by decide),e1];refine sR 0 ?_;refine AC.seq ?_;refine sR 100 ?_;refine AL ?_;refine sR 200 ?_;refine Af ?_;exact AQ rfl AA.out
 ·obtain⟨y,hy⟩:=CG (l:=l) (i:=m) (by omega)
  have yl:=wn y (BE hy);have y0:=tp m y hc hy;have hy':=DY hy;have el:(((l.map AZ).length:Nat):Int)=((m+1:Nat):Int):=by rw[Ap,hc]
  have et:(((m+1:Nat):Int)==0)=false:=Bw.2 (by omega);have w0:IntKind.i64.wrap (((m+1:Nat):Int)-1)=(m:Int):=by rw[wI (by omega) (by omega)];omega
  have w2:IntKind.i64.wrap (((m+1:Nat):Int)-2)=(m:Int)-1:=by rw[wI (by omega) (by omega)];omega
  have cd:=Oh y 1 (by unfold RB at yl;omega);rw[W2]at cd;have wr0:IntKind.i64.wrap ((((l.map AZ).length:Nat):Int)-1)=(m:Int):=by rw[el,w0]
  have ed:l.drop m=[y]:=by
   rw[D9 (by omega),Gt (by omega)];rw[BH (by omega)]at hy;rw[FD hy]
  refine sR 0 ?_;refine AC.seq ?_;refine sZ 100 ?_;refine AU (Ae el et) ?_;refine AL ?_;refine Am ?_;refine sZ 300 ?_;refine AE (Bk el w0 wr0 kN) ?_;refine Bo kT hy' ?_;refine AE kN ?_;refine A9.same _ cd AI ?_;refine BN ?_;have ev:AO (l.drop m)=y:=by rw[ed];simp[AO]
  refine AC.seq ?_;refine sZ 400 ?_;refine AU (Ae el w2) ?_;refine AC.block ?_;refine AC.loop (α:=Nat×Nat) (λp=>⟨[(1,.optr 0 0 2 0 0),(3,str (sb (Lib.decDigits (AO (l.drop p.1))))),(4,i64 ((p.1:Int)-1))],[⟨0,0,165,2,[.agg [Au neg,.sl false 1 (l.map AZ)]]⟩],p.2⟩) (λp=>p.1)
   (λp=>p.1<=m/\AO (l.drop p.1)≠0) (m,_) ⟨Ad _,by dsimp only;rw[ev];exact y0⟩ (by dsimp only;rw[ev];exact AJ) ?_
  rintro⟨k,n1⟩ F ⟨h1,h2⟩;dsimp only at h1 h2⊢;clear cd;refine AC.seq ?_;refine sR 500 ?_;refine AL ?_
  (refine Br (λh20=>?_) (λh20=>?_))<;>(try simp only[Bb,Bq]at h20)<;>(try simp only[h20])
  ·obtain⟨j,rfl⟩:∃j,k=j+1:=⟨k-1,by
    have:(k:Int)-1>=0:=by simpa using h20
    omega⟩
   have wj:((j+1:Nat):Int)-1=(j:Int):=by omega
   obtain⟨d,hd⟩:=CG (l:=l) (i:=j) (by omega);have hd':=DY hd;have dl:=wn d (BE hd);have c9:=Oh d 9 (by unfold RB at dl;omega);have eD:Lib.decDigits (AO (l.drop (j+1)))++Eb 9 d []=Lib.decDigits (AO (l.drop j)):=by rw[Ol hd,nF _ _ h2 dl]
   have hlen:=ND (l:=l.drop j) λa ha=>wn a (KE ha)
   rw[<-eD,Bf,Do]at hlen;have h3:AO (l.drop j)≠0:=by
    rw[Ol hd]
    have:0<RB*AO (l.drop (j+1)):=Gu (by decide) (Dl h2)
    omega
   have z1:=CX (Lib.decDigits (AO (l.drop (j+1))));have z2:=NL (Eb 9 d []);have wi:IntKind.i64.wrap ((j:Int)-1)=(j:Int)-1:=wI (by omega) (by omega);rw[wj];refine Am ?_;refine AC.seq ?_;refine AC.block ?_;refine An w1 700 (by kernel_rfl) ?_;refine AE kN ?_;refine Bo kT hd' ?_;refine AE kN ?_;refine A9.same _ c9 AI ?_;refine BN ?_;rw[IJ,eD];refine An w1 600 (by kernel_rfl) ?_;refine AU wi ?_;exact⟨(j,_),⟨by dsimp only;omega,h3⟩,by dsimp only;omega,AJ⟩
  ·have hk:k=0:=by
    have:¬((k:Int)-1>=0):=by simpa using h20
    omega
   subst hk;rw[FE]at h2⊢;have hlen:=ND wn;have z1:=CX (Lib.decDigits (AO l));have z2:(⟨#[45]⟩:ByteArray).size=1:=rfl;refine B5 ?_;refine AC.seq ?_;refine AC.seq ?_;cases neg
   ·refine rI 800 ?_
    refine AL ?_;refine Am ?_;rw[AG (by decide)];refine sR 1000 ?_;refine Af ?_;exact AQ rfl AA.out
   ·refine rI 800 ?_
    refine AL ?_;rw[AH rfl];refine sR 900 ?_;refine Af ?_;refine AQ ?_ AA.out;show str ((⟨([45]:List UInt8).toArray⟩:ByteArray)++⟨(Lib.decDigits (AO l)).toArray⟩)=_;rw[IJ];rfl
theorem ZO (z:Int)(h:GL z):AK C0 126 [rZ z] (str (sb (Lib.itoa z))):=by
 have:=qf (decide (z<0)) z.natAbs (λh=>by have:=C3 h;omega) h
 rwa [QC]at this
theorem MP {C:A8}{f:Nat}{ds ds':List D}{Φ:D->Prop}{H:Hp}{n:Nat}(Hf:Hp)(hc:Ak C f ds' Φ)(hH:CU H Hf H Hf)(hv:EK H Hf ds ds')
  (hp:Ag ds'):CS C f ds H n (λd' H' n'=>Φ d'/\H'=Hf/\n'=n+1):=by
 refine⟨hc.1,λF ρ w vs m hfr hg hvs hr=>?_⟩;obtain⟨m',hO,hN⟩:=hH.mem m;obtain⟨l1,l2⟩:=hv.spec;refine(hc.2 (AM F.X ρ Hf) w vs m.g (BQ m.gn m.size) (λb hb=>m'.own_lt hb) (by omega) λi x hx=>?_).mono ?_
 ·have hi:i<ds'.length:=(List.getElem?_eq_some_iff.1 hx).1
  have hd0:ds[i]?=some ds[i]:=BH (by omega);exact hp.out x (BE hx) _ _ _ _ _ ((l2 i _ x hd0 hx).rep m hO hN (hr i _ hd0))
 ·rintro e w' ⟨v,d',rfl,hb,hd',rep⟩
  have hb2:∀(b:Nat) (cs:Array Value) (T:Nat) (fz:Nat×Nat),w.heap[b]?=some (.cells cs T fz)->∃(cs':Array Value) (fz':Nat×Nat),w'.heap[b]?=some (.cells cs' T fz')/\cs'.size=cs.size:=λb cs T fz hh=>⟨cs,_,by
   rw[hb.block b (Array.getElem?_eq_some_iff.1 hh).1];exact hh,rfl⟩
  have x:BP ρ (AM F.X ρ H) w ρ (AM F.X ρ Hf) w':=⟨hb.size,λ_ _ _ h=>h,λb hb' hO2=>⟨λh=>hO2 (hO b h),hb.block b hb'⟩,hb2⟩
  have x':BP ρ (AM F.X ρ Hf) w ρ (AM F.X ρ Hf) w':=⟨hb.size,λ_ _ _ h=>h,λb hb' hO2=>⟨hO2,hb.block b hb'⟩,hb2⟩
  refine⟨v,_,Hf,n+1,ρ,rfl,⟨hd',rfl,rfl⟩,m'.same x' hb.os hb.tape hb.output hb.block,x,λk g hg'=>hfr k g (by omega),λe he=>?_,rep.mono ⟨Ad _,λ_ _ _ h=>(by cases h),λb _ hO2=>⟨hO2,rfl⟩,λb cs T fz h=>⟨cs,_,h,rfl⟩⟩⟩;obtain⟨e',h1,h2,h3,_⟩:=hH.names e he
  have:=hg e' h1
  omega
theorem d8 {l:List UInt8}{i:Nat}{c:UInt8}(hc:l[i]?=some c)(hi:i<=BG l):(((c.toNat:Nat):Int)==47)=decide (i=BG l):=by
 have e1:(((c.toNat:Nat):Int)==47)=(c==47):=by
  rw[GN,Dv,Dv,<-UInt8.toNat_inj];exact⟨λh=>(show c.toNat=47 by omega),λh=>by rw[h];rfl⟩
 rw[e1];unfold BG at hi⊢;clear e1
 induction l generalizing i with
 |nil=>cases hc
 |cons a l ih=>
  rw[OM]at hi⊢;cases i with
  |zero=>
   cases hc
   by_cases h:c=47
   ·subst h;rfl
   ·have h1:(c != 47)=true:=by simpa using h
    have h2:(c==47)=false:=by simpa using h
    rw[AH h1,h2,Bl,Ah (by omega)]
  |succ i=>
   by_cases h:a=47
   ·subst h
    exact Aj hi (by simp)
   ·have h1:(a != 47)=true:=by simpa using h
    rw[AH h1,Bl]at hi⊢;rw[ih hc (by omega)];exact C4.2 (by omega)
theorem PV (l:List UInt8)(h:l.all BZ=true)(hl:l.length<=18):AK C0 170 [str (sb l)] (i64 (dv l:Int)):=by
 refine Ak.walk w1 oD rfl λF=>?_
 have hsz:=CX l;refine sR 0 ?_;refine sR 100 ?_;refine AC.seq ?_;refine sR 200 ?_;refine AC.block ?_;refine AC.loop (α:=Nat×Nat) (λp=>⟨[(0,str (sb l)),(3,i64 (dv (l.take p.1):Int)),(4,i64 (p.1:Int))],[],p.2⟩) (λp=>l.length-p.1) (λp=>p.1<=l.length) (0,_) (BS _) AJ ?_;rintro⟨i,n⟩ F hi;dsimp only at hi⊢;refine AC.seq ?_;refine sZ 300 ?_;refine AU hsz ?_;refine AL ?_
 (refine Br (λhlt=>?_) (λhlt=>?_))<;>(try simp only[Bb,Bq]at hlt)<;>(try simp only[hlt])
 ·have hi2:i<l.length:=by
   have:=C3 hlt
   omega
  obtain⟨c,hc⟩:∃c,l[i]?=some c:=⟨l[i],BH hi2⟩
  have hcd:BZ c=true:=CQ.1 h c (BE hc);obtain⟨c1,c2⟩:=KV hcd;have hg:(sb l).data.toList.getD i 0=c:=by
   show(l.toArray.toList).getD i 0=c;simp[hc]
  have hdl:dv (l.take i)<10^17:=by
   have:=Fk (l.take i) (CQ.2 λa ha=>CQ.1 h a (Hy ha))
   rw[Bj,Eh hi]at this;exact CM this (E4 (by decide) (by omega))
  have hnx:dv (l.take (i+1))=dv (l.take i)*10+(c.toNat-48):=by
   rw[EB,hc];show dv (l.take i++[c])=_;rw[Mz];simp[dv,GR]
  have k1:IntKind.i64.wrap (10*(dv (l.take i):Int))=((10*dv (l.take i):Nat):Int):=by rw[wI (by omega) (by omega)];omega
  have k2:IntKind.i64.wrap ((c.toNat:Nat):Int)=((c.toNat:Nat):Int):=wI (by omega) (by omega);have k3:IntKind.i64.wrap (((10*dv (l.take i):Nat):Int)+((c.toNat:Nat):Int))=((10*dv (l.take i)+c.toNat:Nat):Int):=by rw[wI (by omega) (by omega)];omega
  have k4:IntKind.i64.wrap (((10*dv (l.take i)+c.toNat:Nat):Int)-48)=((dv (l.take (i+1)):Nat):Int):=by rw[hnx,wI (by omega) (by omega)];omega
  have wi:IntKind.i64.wrap ((i:Int)+1)=((i+1:Nat):Int):=wI (by omega) (by omega);refine Am ?_;refine AC.seq ?_;refine AC.block ?_;refine An w1 500 (by kernel_rfl) ?_;refine AU (E5 kN hg k1 k2 k3 k4) ?_;refine An w1 400 (by kernel_rfl) ?_;refine AU wi ?_;exact⟨(i+1,_),hi2,by dsimp only;omega,AJ⟩
 ·have hi2:i=l.length:=by
   have:=DA hlt
   omega
  subst hi2;rw[B4 (Ad _)];refine B5 ?_;refine sR 600 ?_;refine Af ?_;exact AQ rfl AA.out
theorem SS (l:List UInt8)(hl:l.length<=1000000000):AK C0 169 [str (sb l)] (i64 (BG l:Int)):=by
 refine Ak.walk w1 oC rfl λF=>?_
 have hsz:=CX l;refine sR 0 ?_;refine AC.seq ?_;refine sR 100 ?_;refine AC.block ?_;refine AC.loop (α:=Nat×Nat) (λp=>⟨[(0,str (sb l)),(3,i64 (p.1:Int))],[],p.2⟩) (λp=>l.length-p.1) (λp=>p.1<=BG l) (0,_) (BS _) AJ ?_;rintro⟨i,n⟩ F hi;dsimp only at hi⊢;have hsl:=KY l;refine AC.seq ?_;refine sZ 200 ?_;refine AU hsz ?_;refine AL ?_
 (refine Br (λhlt=>?_) (λhlt=>?_))<;>(try simp only[Bb,Bq]at hlt)<;>(try simp only[hlt])
 ·have hi2:i<l.length:=by
   have:=C3 hlt
   omega
  obtain⟨c,hc⟩:∃c,l[i]?=some c:=⟨l[i],BH hi2⟩
  have hg:(sb l).data.toList.getD i 0=c:=by
   show(l.toArray.toList).getD i 0=c;simp[hc]
  have wi:IntKind.i64.wrap ((i:Int)+1)=((i+1:Nat):Int):=wI (by omega) (by omega);have ht:(((c.toNat:Nat):Int)==47)=decide (i=BG l):=d8 hc hi;refine Am ?_;refine AC.seq ?_;refine AC.block ?_;refine sZ 400 ?_;refine AU (Av kN hg ht) ?_
  by_cases he:i=BG l
  ·rw[AY he]
   refine AL ?_;refine sR 500 ?_;refine Af ?_;exact AQ (by rw[he]) AA.out
  ·rw[Ah he]
   refine AL ?_;refine Am ?_;refine An w1 300 (by kernel_rfl) ?_;refine AU wi ?_;exact⟨(i+1,_),by dsimp only;omega,by dsimp only;omega,AJ⟩
 ·have hi2:i=l.length:=by
   have:=DA hlt
   omega
  refine B5 ?_;refine sZ 600 ?_;refine AU hsz ?_;refine Af ?_;exact AQ (by congr 3;omega) AA.out
theorem V7 {H Hf:Hp}{K g T:Nat}{l:List Nat}{N:Nat}(hl:l.length=N)(he:Hp.get H K=some ⟨K,g,T,1,l.map AZ⟩:=by exact rfl)(hn:Hp.get Hf K=none:=by exact rfl):Fz H Hf (.osl K g 1 0 N) (.sl false 1 (l.map AZ)):=by
 subst hl;have key:∀(j:Nat) (d d':D),(l.map AZ)[0+j]?=some d->(l.map AZ)[j]?=some d'->d=d':=λj d d' h1 h2=>by
  rw[BR]at h1;rw[h1]at h2;exact FD h2
 refine .osl (e:=⟨K,g,T,1,l.map AZ⟩) he hn rfl rfl (by simp) (by simp) (λj d d' h1 h2=>by rw[key j d d' h1 h2]) λj d d' q c c' h1 h2 h3 h4=>?_
 rw[key j d d' h1 h2]at h3;rw[h3]at h4;cases h4;exact Fz.refl _
theorem PG (c:UInt8)(l:List UInt8):(((c.toNat:Nat):Int)==45)=C8 (c::l):=by
 show _=(c==45);rw[GN,Dv,Dv,<-UInt8.toNat_inj];exact⟨λh=>(show c.toNat=45 by omega),λh=>by rw[h];rfl⟩
abbrev L5:Ax:=⟨0,0,165,2,[.agg [Au false,CD]]⟩
theorem nJ {x:List UInt8}(h:9<x.length):dv x=dv (x.take (x.length-9))*RB+dv (x.drop (x.length-9)):=by
 conv=>lhs;rw[<-Ei (x.length-9) x,Mz,Do,show x.length-(x.length-9)=9 by omega]
theorem rJ (A B t n v:Nat):(A*B+t)*B^n+v=A*B^(n+1)+(v+B^n*t):=by
 rw[Bp,Bs,CB,BO B,BO t];omega
theorem VF {x x0:List UInt8}{w:List Nat}(h9:9<x.length)(g1:x.all BZ=true)(g2:x.length+w.length*9=x0.length)(g3:Rd w)(g4:dv x0=dv x*RB^w.length+AO w):
  (x.take (x.length-9)).all BZ=true/\(x.take (x.length-9)).length+(w++[dv (x.drop (x.length-9))]).length*9=x0.length/\Rd (w++[dv (x.drop (x.length-9))]) /\
  dv x0=dv (x.take (x.length-9))*RB^(w++[dv (x.drop (x.length-9))]).length+AO (w++[dv (x.drop (x.length-9))]):=by
 refine⟨CQ.2 λa ha=>CQ.1 g1 a (Hy ha),?_,Rd.append g3 λa ha=>?_,?_⟩
 ·rw[Bj,Bf,F5];omega
 ·simp only[BA,DK,or_false]at ha
  subst ha
  have:=Fk (x.drop (x.length-9)) (CQ.2 λa ha=>CQ.1 g1 a (KE ha))
  rwa [Do,show x.length-(x.length-9)=9 by omega]at this
 ·rw[g4,nJ h9,GV rfl,Bf,F5]
  exact rJ _ _ _ _ _
theorem gj {x x0:List UInt8}{w:List Nat}(h9:x.length<=9)(g1:x.all BZ=true)(g3:Rd w)(g4:dv x0=dv x*RB^w.length+AO w):Rd (w++[dv x])/\AO (w++[dv x])=dv x0:=by
 refine⟨Rd.append g3 λa ha=>?_,?_⟩
 ·simp only[BA,DK,or_false]at ha
  subst ha;exact CM (Fk x g1) (E4 (by decide) h9)
 ·rw[g4,GV rfl,BO,KH]
theorem Wu {w:List Nat}{a:Nat}:List.take w.length (w.map AZ)++[i64 (a:Int)]=(w++[a]).map AZ:=by
 rw[B4 (by rw[Ap];exact Ad _),Cu];rfl
theorem XS (l:List UInt8)(hd:(Bi l).all BZ=true)(hl:l.length<=1000000):AK C0 173 [str (sb l)] (rZ (rv l)):=by
 have er:rv l=sg (C8 l) (dv (Bi l)):=rfl;rw[er];refine Ak.walk w1 oG rfl λF=>?_
 have hsz:=CX l;have hdl:(Bi l).length<=l.length:=by
  unfold Bi;split
  ·rw[Do];omega
  ·exact Ad _
 refine sR 0 ?_;refine Ck (α:=Nat) (λn=>⟨[(0,str (sb l)),(2,.optr 0 0 2 0 0),(3,Au (C8 l))],[L5],n⟩) (λ_=>True) ?_ ?_
 ·cases l with
  |nil=>
   have e0:(sb []).size=0:=rfl;have e1:decide (((0:Nat):Int)>0)=false:=rfl;refine An w1 100 (by kernel_rfl) ?_;refine AE (Ae e0 e1) ?_;refine AE (Ae kF e1) ?_;exact⟨trivial,_,trivial,AJ⟩
  |cons c l=>
   have hpos:(sb (c::l)).size=l.length+1:=hsz;have e0:decide (((sb (c::l)).size:Int)>0)=true:=AY (by omega);have e1:((((c::l).getD (Int.toNat 0) 0).toNat:Int)==45)=C8 (c::l):=PG c l;refine An w1 100 (by kernel_rfl) ?_;refine AE e0 ?_;refine AE (Av kT e0 e1) ?_;exact⟨trivial,_,trivial,AJ⟩
 rintro n0 -;refine Ck (α:=Nat) (λn=>⟨[(0,str (sb (Bi l))),(2,.optr 0 0 2 0 0),(3,Au (C8 l))],[L5],n⟩) (λ_=>True) ?_ ?_
 ·refine sR 200 ?_
  cases hb:C8 l
  ·have ed:Bi l=l:=by unfold Bi;rw[hb];rfl
   rw[ed];refine AL ?_;refine Am ?_;exact⟨rfl,_,trivial,AJ⟩
  ·have ed:Bi l=l.drop 1:=by unfold Bi;rw[hb];rfl
   have hl0:1<=l.length:=by
    cases l with
    |nil=>cases hb
    |cons c l=>rw[Bl];omega
   have ee:(sb l).extract (Int.toNat 1) l.length=sb (Bi l):=by
    rw[Ec,B4 (Ad _),ed];rfl
   refine AL ?_;refine An w1 300 (by kernel_rfl) ?_;refine AE (Ae hsz kN) ?_;rw[ee];exact⟨trivial,_,trivial,AJ⟩
 rintro n1 -;generalize C8 l=neg at*;generalize Bi l=x0 at*;clear er hsz;have hx0:x0.length<=1000000:=BQ hdl hl;clear hdl hl l;refine sR 400 ?_;refine AC.seq ?_;refine AC.block ?_;refine AC.loop (α:=Bool×List UInt8×List Nat×Nat×Nat) (λp=>match p with
  |(false,x,_,_,n)=>⟨[(0,str (sb x)),(2,.optr 0 0 2 0 0),(3,Au neg),(4,CD)],[L5],n⟩
  |(true,x,w,g,n)=>⟨[(0,str (sb x)),(2,.optr 0 0 2 0 0),(3,Au neg),(4,.osl 608 g 1 0 w.length)],[⟨608,g,3,1,w.map AZ⟩,L5],n⟩) (λp=>p.2.1.length)
  (λp=>p.2.1.all BZ=true/\p.2.1.length+p.2.2.1.length*9=x0.length/\Rd p.2.2.1/\dv x0=dv p.2.1*RB^p.2.2.1.length+AO p.2.2.1/\(p.1=false->p.2.2.1=[]))
  (false,x0,[],0,_) ⟨hd,rfl,(λa ha=>by cases ha),by simp[AO],λ_=>rfl⟩ AJ ?_
 rintro⟨t,x,w,g,n2⟩ F ⟨g1,g2,g3,g4,g5⟩;dsimp only at g1 g2 g3 g4 g5;have hsz:=CX x
 by_cases h9:9<x.length
 ·have ht:decide ((x.length:Int)>9)=true:=AY (by omega)
  have cv:=PV (x.drop (x.length-9)) (CQ.2 λa ha=>CQ.1 g1 a (KE ha)) (by rw[Do];omega);have wk:IntKind.i64.wrap ((x.length:Int)-9)=((x.length-9:Nat):Int):=by rw[wI (by omega) (by omega)];omega
  have wr:IntKind.i64.wrap (((sb x).size:Int)-9)=((x.length-9:Nat):Int):=by rw[hsz,wk]
  have e1:(sb x).extract (x.length-9) x.length=sb (x.drop (x.length-9)):=by rw[Ec,B4 (Ad _)]
  have e2:(sb x).extract 0 (x.length-9)=sb (x.take (x.length-9)):=by rw[Ec,FE]
  cases t
  ·dsimp only
   obtain rfl:=g5 rfl;refine AC.seq ?_;refine sZ 500 ?_;refine AU (Ae hsz ht) ?_;refine AL ?_;refine Am ?_;refine AC.block ?_;refine sZ 600 ?_;refine AE (Cv hsz wk wr kN e1) ?_;refine A9.same _ cv AI ?_;refine BN ?_;have J:=VF h9 g1 g2 g3 g4;rw[Fy]at J;refine An w1 700 (by kernel_rfl) ?_;refine AE (Bk hsz wk wr kN) ?_;refine AE e2 ?_;exact⟨(true,x.take (x.length-9),[dv (x.drop (x.length-9))],n2+11,_),⟨J.1,J.2.1,J.2.2.1,J.2.2.2,λh=>by cases h⟩,by dsimp only;rw[Bj];omega,AJ⟩
  ·dsimp only
   clear g5;have J:=VF h9 g1 g2 g3 g4;have ew:(w.map AZ).length=w.length:=Ap _;have el:w.length+1=(w++[dv (x.drop (x.length-9))]).length:=by rw[Bf];rfl
   refine AC.seq ?_;refine sZ 500 ?_;refine AU (Ae hsz ht) ?_;refine AL ?_;refine Am ?_;refine AC.block ?_;refine sZ 600 ?_;refine AE (Cv hsz wk wr kN e1) ?_;refine A9.same _ cv AI ?_;refine BN ?_;rw[Wu,el];refine An w1 700 (by kernel_rfl) ?_;refine AE (Bk hsz wk wr kN) ?_;refine AE e2 ?_;exact⟨(true,x.take (x.length-9),w++[dv (x.drop (x.length-9))],n2+11,_),⟨J.1,J.2.1,J.2.2.1,J.2.2.2,λh=>by cases h⟩,by dsimp only;rw[Bj];omega,AJ⟩
 ·have ht:decide ((x.length:Int)>9)=false:=Ah (by omega)
  have cv:=PV x g1 (by omega);obtain⟨r1,r2⟩:=gj (by omega) g1 g3 g4;have cs:=WG neg (w++[dv x]) r1 (by rw[Bf,F5];omega);rw[r2]at cs;cases t
  ·dsimp only
   obtain rfl:=g5 rfl;refine AC.seq ?_;refine sZ 500 ?_;refine AU (Ae hsz ht) ?_;refine AL ?_;refine B5 ?_;refine sR 800 ?_;refine A9.same _ cv AI ?_;refine BN ?_;refine A9.own _ (MP [L5] cs (.drop (.keep .nil)) ⟨.refl _,V7 rfl,trivial⟩ AI) ?_;rintro d H' n' ⟨rfl,rfl,rfl⟩;refine BN ?_;refine Af ?_;exact AQ rfl AA.out
  ·dsimp only
   clear g5;have ew:(w.map AZ).length=w.length:=Ap _;have el:w.length+1=(w++[dv x]).length:=by rw[Bf];rfl
   refine AC.seq ?_;refine sZ 500 ?_;refine AU (Ae hsz ht) ?_;refine AL ?_;refine B5 ?_;refine sR 800 ?_;refine A9.same _ cv AI ?_;refine BN ?_;rw[Wu,el];refine A9.own _ (MP [L5] cs (.drop (.keep .nil)) ⟨.refl _,V7 rfl,trivial⟩ AI) ?_;rintro d H' n' ⟨rfl,rfl,rfl⟩;refine BN ?_;refine Af ?_;exact AQ rfl AA.out
def T4 (o:Option D):Bool:=match o with
 |some (.agg [.prim (.bool false),.sl false 1 [.prim (.int .i64 1)]])=>true
 |_=>false
theorem iW {o:Option D}(h:T4 o=true):o=some (rZ 1):=by
 have h1:AX 1=[1]:=Od (by decide) (by decide);unfold T4 at h;split at h
 ·show _=some (D.agg [Au (decide ((1:Int)<0)),rL (AX 1)])
  rw[h1];rfl
 ·cases h
theorem di:T4 ((F7 X1 1000 60).1 127 [i64 1])=true:=by kernel_rfl
theorem iQ:AK C0 127 [i64 1] (rZ 1):=B8 DG 1000 60 (iW di)
def N4 (l:List UInt8):Int:=rv (Bv l)
def Nw (l:List UInt8):Int:=if Ce l then rv (BU l)else 1
instance  (x y:Int):AA (.tup [rZ x,rZ y]):=⟨.tup λd hd=>by
 simp only[BA,DK,or_false]at hd;rcases hd with rfl|rfl
 ·exact AA.out
 ·exact AA.out⟩
theorem SE (l:List UInt8)(hn:(Bi (Bv l)).all BZ=true)(hd:(Bi (BU l)).all BZ=true)(hl:l.length<=1000000):AK C0 123 [str (sb l)] (.tup [rZ (N4 l),rZ (Nw l)]):=by
 refine Ak.walk w1 m5 rfl λF=>?_
 have hsz:=CX l;have cs:=SS l (by omega);have hsl:=KY l;have c1:=XS (Bv l) hn (by unfold Bv;rw[Bj];omega);have c2:=XS (BU l) hd (by unfold BU;rw[Do];omega);have cw:=iQ;unfold N4 Nw;refine sR 0 ?_;refine sR 100 ?_;refine sR 200 ?_;refine cI cs ?_;cases hh:Ce l
 ·have he:BG l=l.length:=by
   unfold Ce at hh
   have:=DA hh
   omega
  have e0:(((BG l:Nat):Int)==(l.length:Int))=true:=Dv.2 (by omega);have en:Bv l=l:=by unfold Bv;rw[he,B4 (Ad _)]
  rw[en]at c1⊢;refine AC.seq ?_;refine sZ 300 ?_;refine AU (Ae hsz e0) ?_;refine AL ?_;refine sR 400 ?_;refine cI c1 ?_;refine A9.same _ cw AI ?_;refine BN ?_;refine Af ?_;exact AQ rfl AA.out
 ·have he:BG l<l.length:=C3 hh
  have e0:(((BG l:Nat):Int)==(l.length:Int))=false:=Bw.2 (by omega);have x1:(sb l).extract 0 (BG l)=sb (Bv l):=by rw[Ec,FE];rfl
  have x2:(sb l).extract (BG l+1) l.length=sb (BU l):=by rw[Ec,B4 (Ad _)];rfl
  have wk:IntKind.i64.wrap (((BG l:Nat):Int)+1)=((BG l+1:Nat):Int):=wI (by omega) (by omega);refine AC.seq ?_;refine sZ 300 ?_;refine AU (Ae hsz e0) ?_;refine AL ?_;refine Am ?_;refine AC.seq ?_;refine B3 w1 500 [0,1,2,3,4,5,6,7] [8,9,10] (by kernel_rfl) ?_;refine AE (Cv hsz wk kN x1 x2) ?_;refine BT.same _ c1 AI ?_;refine AE (Cv hsz wk kN x1 x2) ?_;refine A9.same _ c2 AI ?_;refine BN ?_;refine Af ?_;exact AQ rfl AA.out
def BM (r:Rat):List UInt8:=if r.den=1 then Lib.itoa r.num else Lib.itoa r.num++47::Lib.decDigits r.den
def qZ (x y:Int):Rat:=mkRat (if y<0 then -x else x) y.natAbs
theorem Rz {x:Int}{d:Nat}(hd:d≠0):(mkRat x d).num=sg (decide (x<0)) (x.natAbs/Nat.gcd x.natAbs d)/\(mkRat x d).den=d/Nat.gcd x.natAbs d:=by
 rw[mkRat,dif_neg hd,Rat.normalize_eq];refine⟨?_,rfl⟩;dsimp only;have hg:0<Nat.gcd x.natAbs d:=OB _ (Dl hd);obtain⟨p,hp⟩:=Nat.gcd_dvd_left x.natAbs d;have e1:x.natAbs/Nat.gcd x.natAbs d=p:=by
  refine Nat.div_eq_of_eq_mul_right hg hp
 have e2:x=(Nat.gcd x.natAbs d:Int)*sg (decide (x<0)) p:=by
  have h0:(x.natAbs:Int)=(Nat.gcd x.natAbs d:Int)*(p:Int):=by rw[<-FU,<-hp]
  unfold sg
  by_cases hx:x<0
  ·rw[AY hx,AH rfl,Int.mul_neg,<-h0];omega
  ·rw[Ah hx,AG (by decide),<-h0];omega
 rw[e1]
 conv=>lhs;arg 1;rw[e2]
 rw[Int.mul_ediv_cancel_left _ (by omega)]
theorem WV (q:Nat):((((((AX q).map AZ).length:Nat):Int)==1)=true/\∃a,(AX q)[0]?=some a/\(((a:Nat):Int)==1)=decide (q=1))\/((((((AX q).map AZ).length:Nat):Int)==1)=false/\q≠1):=by
 rw[Ap]
 by_cases h:(AX q).length=1
 ·refine .inl ⟨Dv.2 (by omega),?_⟩
  obtain⟨a,ha⟩:=CG (l:=AX q) (i:=0) (by omega);refine⟨a,ha,?_⟩;have e:AX q=[a]:=by
   obtain⟨b,hb⟩:=List.length_eq_one_iff.1 h;rw[hb]at ha⊢;cases ha;rfl
  have e2:q=a:=by rw[<-Dp q,e];simp[AO]
  rw[e2];rw[GN,Dv,decide_eq_true_iff];omega
 ·refine .inr ⟨Bw.2 (by omega),λhq=>h ?_⟩
  rw[hq,Od (by decide) (by decide)];rfl
theorem eE (x y:Int)(hy0:y≠0)(hx:GL x)(hy:GL y):AK C0 124 [rZ x,rZ y] (str (sb (BM (qZ x y)))):=by
 refine Ak.walk w1 m6 rfl λF=>?_
 unfold qZ;refine sR 0 ?_;refine Ck (α:=Nat) (λn=>⟨[(2,.optr 0 0 2 0 0),(3,.optr 1 1 2 0 0)],[⟨1,1,165,2,[.agg [Au false,rD y.natAbs]]⟩,⟨0,0,165,2,[rZ (if y<0 then -x else x)]⟩],n⟩) (λ_=>True) ?_ ?_
 ·by_cases h:y<0
  ·have cx:=W9 x hx
   have cy:=W9 y hy;have e1:rZ (-y)=.agg [Au false,rD y.natAbs]:=by
    show D.agg [Au (decide (-y<0)),rD (-y).natAbs]=_;rw[Ah (by omega),LD]
   rw[e1]at cy;rw[AH h];refine sZ 100 ?_;refine AU (AY h) ?_;refine AL ?_;refine B3 w1 200 [0,1,2] [3,4,5] (by kernel_rfl) ?_;refine AE kN ?_;refine BT.same _ cx AI ?_;refine AE kN ?_;refine A9.same _ cy AI ?_;refine BN ?_;exact⟨trivial,_,trivial,AJ⟩
  ·have e1:rZ y=.agg [Au false,rD y.natAbs]:=by
    show D.agg [Au (decide (y<0)),rD y.natAbs]=_;rw[Ah h]
   rw[AG h];refine sZ 100 ?_;refine AU (Ah h) ?_;refine AL ?_;refine Am ?_;refine⟨rfl,5,trivial,?_⟩;rw[<-e1];exact AJ
 rintro n0 -;obtain⟨z,hz⟩:∃z,z=(if y<0 then -x else x):=⟨_,rfl⟩
 have hza:z.natAbs=x.natAbs:=by rw[hz];split<;>omega
 obtain⟨d,hd⟩:∃d,d=y.natAbs:=⟨_,rfl⟩
 have hd0:d≠0:=by omega
 unfold GL at hx hy;rw[<-hza]at hx;rw[<-hd]at hy;rw[<-hz,<-hd];clear hz hza hd hy0;clear x y;have cg:=WE z.natAbs d hx hy;obtain⟨qn,qd⟩:=Rz (x:=z) hd0;have hg:0<Nat.gcd z.natAbs d:=OB _ (Dl hd0);have hgl:(AX (Nat.gcd z.natAbs d)).length<1000000:=DJ (IA _ _ (Nat.gcd_le_right _ (Dl hd0))) hy;have c4:=Tf z.natAbs (Nat.gcd z.natAbs d) (by omega) hx hgl;have c5:AK C0 176 [rD d,rD (Nat.gcd z.natAbs d)] (.tup [.sl false 1 ((AX (d/Nat.gcd z.natAbs d)).map AZ),rD (d%Nat.gcd z.natAbs d)]):=Tf d (Nat.gcd z.natAbs d) (by omega) hy hgl;have hpl:(AX (z.natAbs/Nat.gcd z.natAbs d)).length<1000000:=DJ (IA _ _ (GO _ _)) hx;have hql:(AX (d/Nat.gcd z.natAbs d)).length<1000000:=DJ (IA _ _ (GO _ _)) hy;have etx:BM (mkRat z d)=if d/Nat.gcd z.natAbs d=1 then Lib.itoa (sg (decide (z<0)) (z.natAbs/Nat.gcd z.natAbs d))else Lib.itoa (sg (decide (z<0)) (z.natAbs/Nat.gcd z.natAbs d))++47::Lib.decDigits (d/Nat.gcd z.natAbs d):=by
  unfold BM;rw[qn,qd]
 rw[etx];clear etx qn qd hg hgl;generalize z.natAbs/Nat.gcd z.natAbs d=p at*;generalize d/Nat.gcd z.natAbs d=q at*;generalize z.natAbs%Nat.gcd z.natAbs d=r1 at*;generalize d%Nat.gcd z.natAbs d=r2 at*;generalize Nat.gcd z.natAbs d=gg at*;have c6:=Kf (decide (z<0)) p (by omega);have hab:(sg (decide (z<0)) p).natAbs=p:=by unfold sg;split<;>omega
 have c7:=ZO (sg (decide (z<0)) p) (by unfold GL;rw[hab];exact hpl);have c8:=Kf false q (by omega);have c9:=ZO (sg false q) (by unfold GL;show(AX q).length<1000000;exact hql);have e9:Lib.itoa (sg false q)=Lib.decDigits q:=by rw[W3 false q (by simp)];rfl
 rw[e9]at c9;have l1:=ND (EL p);rw[Dp]at l1;have l2:=ND (EL q);rw[Dp]at l2;have l3:(Lib.itoa (sg (decide (z<0)) p)).length<=(Lib.decDigits p).length+1:=by
  unfold Lib.itoa;split
  ·rw[hab,Bl];exact Ad _
  ·rw[show(sg (decide (z<0)) p).toNat=p by omega];omega
 generalize sg (decide (z<0)) p=pz at*;have s1:=CX (Lib.itoa pz);have s2:=CX (Lib.decDigits q);have s3:(⟨#[47]⟩:ByteArray).size=1:=rfl;have s4:(sb (Lib.itoa pz)++(⟨#[47]⟩:ByteArray)).size=(sb (Lib.itoa pz)).size+(⟨#[47]⟩:ByteArray).size:=ByteArray.size_append;generalize Lib.itoa pz=t1 at*;generalize Lib.decDigits q=t2 at*;refine sR 300 ?_;refine cI cg ?_;refine sR 400 ?_;refine cI c4 ?_;refine sR 500 ?_;refine cI c5 ?_;refine sR 600 ?_;refine cI c6 ?_;refine cI c7 ?_;have ht:=WV q;rcases ht with⟨h1,a,ha,h2⟩|⟨h1,h2⟩
 ·have ha':=DY ha
  refine AC.seq ?_;refine sZ 700 ?_;refine AE h1 ?_;refine Bo kT ha' ?_;refine AE (Ae h1 h2) ?_
  by_cases hq:q=1
  ·rw[AY hq,AH hq]
   refine AL ?_;refine sR 800 ?_;refine Af ?_;exact AQ rfl AA.out
  ·rw[Ah hq,AG hq]
   refine AL ?_;refine Am ?_;refine sR 900 ?_;refine A9.same _ c8 AI ?_;refine BN ?_;refine A9.same _ c9 AI ?_;refine BN ?_;refine Af ?_;refine AQ ?_ AA.out;show str ((⟨t1.toArray⟩++⟨([47]:List UInt8).toArray⟩:ByteArray)++⟨t2.toArray⟩)=_;rw[IJ,IJ,Dm];rfl
 ·rw[AG h2]
  refine AC.seq ?_;refine sZ 700 ?_;refine AU h1 ?_;refine AE kF ?_;refine AL ?_;refine Am ?_;refine sR 900 ?_;refine A9.same _ c8 AI ?_;refine BN ?_;refine A9.same _ c9 AI ?_;refine BN ?_;refine Af ?_;refine AQ ?_ AA.out;show str ((⟨t1.toArray⟩++⟨([47]:List UInt8).toArray⟩:ByteArray)++⟨t2.toArray⟩)=_;rw[IJ,IJ,Dm];rfl
set_option maxHeartbeats 2000000
theorem PA (k:Nat)(h:k<10):(UInt8.ofNat (48+k)).toNat=48+k:=by
 rw[UInt8.toNat_ofNat'];omega
theorem ED:∀n:Nat,(Lib.decDigits n).all BZ=true/\dv (Lib.decDigits n)=n/\(Lib.decDigits n)≠[]:=λn=>by
 induction n using Nat.strongRecOn with
 |_ n ih=>
  have one:∀k,k<10->BZ (UInt8.ofNat (48+k))=true:=λk hk=>by
   unfold BZ;rw[PA k hk,BY];exact⟨Nat.ble_eq_true_of_le (by omega),Nat.ble_eq_true_of_le (by omega)⟩
  have vone:∀k,k<10->dv [UInt8.ofNat (48+k)]=k:=λk hk=>by
   show 0*10+((UInt8.ofNat (48+k)).toNat-48)=k;rw[PA k hk];omega
  rw[Lib.decDigits];split
  ·rename_i h
   exact⟨by rw[F6,one n h];rfl,vone n h,by simp⟩
  ·rename_i h
   obtain⟨h1,h2,h3⟩:=ih (n/10) (by omega);refine⟨by rw[LC,h1,F6,one _ (By _ (by decide))];rfl,?_,by simp⟩;rw[Mz,h2,vone _ (By _ (by decide)),F5];omega
theorem jD {n:Nat}(h:n≠0):∃c l,Lib.decDigits n=c::l/\c≠48:=by
 induction n using Nat.strongRecOn with
 |_ n ih=>
  rw[Lib.decDigits];split
  ·rename_i h1
   refine⟨_,_,rfl,λhh=>?_⟩
   have:=congrArg UInt8.toNat hh
   rw[PA n h1]at this
   have:48+n=48:=this
   omega
  ·rename_i h1
   obtain⟨c,l,e,hc⟩:=ih (n/10) (by omega) (by omega);rw[e];exact⟨c,l++_,rfl,hc⟩
theorem nI {c:UInt8}(h:BZ c=true):c≠47/\c≠45:=by
 obtain⟨h1,h2⟩:=KV h;exact⟨λhh=>by subst hh;simp at h1,λhh=>by subst hh;simp at h1⟩
theorem LX (z:Int):C8 (Lib.itoa z)=decide (z<0)/\Bi (Lib.itoa z)=Lib.decDigits z.natAbs:=by
 unfold Lib.itoa
 by_cases h:z<0
 ·rw[AH h,AY h]
  exact⟨rfl,rfl⟩
 ·rw[AG h,Ah h,show z.toNat=z.natAbs by omega]
  have h1:=RE (ED z.natAbs).1;exact⟨h1,JP (ED z.natAbs).1⟩
theorem XM (z:Int):rv (Lib.itoa z)=z:=by
 unfold rv;rw[(LX z).1,(LX z).2,(ED z.natAbs).2.1]
 by_cases h:z<0
 ·rw[AY h,AH rfl];omega
 ·rw[Ah h,AG (by decide)];omega
theorem UO (z:Int):∀c∈Lib.itoa z,(c != 47)=true:=λc hc=>by
 have hd:∀n,∀c∈Lib.decDigits n,(c != 47)=true:=λn c h=>by
  have:=(nI (CQ.1 (ED n).1 c h)).1
  simpa using this
 unfold Lib.itoa at hc;split at hc
 ·rcases BA.1 hc with rfl|h
  ·rfl
  ·exact hd _ c h
 ·exact hd _ c hc
theorem Q3 {p:UInt8->Bool}:∀ {l:List UInt8} (m:List UInt8),(∀c∈l,p c=true)->(l++m).takeWhile p=l++m.takeWhile p
 | [],_,_=>rfl
 |a::l,m,h=>by
  rw[ES,OM,AH (h a CH),Q3 m λc hc=>h c (CN _ hc)];rfl
theorem M4 (r:Rat):BG (BM r)=(Lib.itoa r.num).length:=by
 unfold BG BM;split
 ·have:=Q3 (p:=(· != 47)) [] (UO r.num)
  rw[DE]at this;rw[this];simp
 ·rw[Q3 (p:=(· != 47)) _ (UO r.num)]
  simp
theorem NN (r:Rat):Bv (BM r)=Lib.itoa r.num:=by
 unfold Bv;rw[M4];unfold BM;split
 ·exact B4 (Ad _)
 ·exact List.take_left' rfl
theorem Li (r:Rat):BU (BM r)=if r.den=1 then[]else Lib.decDigits r.den:=by
 unfold BU;rw[M4];unfold BM;split
 ·exact Gt (Nat.le_succ _)
 ·rw[List.drop_append]
  rw[Gt (Nat.le_succ _),J9];rfl
theorem PU (r:Rat):Ce (BM r) = !decide (r.den=1):=by
 unfold Ce;rw[M4];unfold BM
 by_cases h:r.den=1
 ·rw[AH h,AY h,Ah (by omega)];rfl
 ·rw[AG h,Ah h,Bf,Bl,AY (by omega)];rfl
theorem WM (r:Rat):N4 (BM r)=r.num:=by unfold N4;rw[NN,XM]
theorem jd (r:Rat):Nw (BM r)=r.den:=by
 unfold Nw;rw[PU,Li]
 by_cases h:r.den=1
 ·rw[AY h,h];rfl
 ·rw[Ah h,AG h,AH (show(!false)=true from rfl),Lt (ED _).1,(ED _).2.1]
theorem WL (r:Rat):(Bi (Bv (BM r))).all BZ=true:=by rw[NN,(LX _).2];exact(ED _).1
theorem WK (r:Rat):(Bi (BU (BM r))).all BZ=true:=by
 rw[Li];split
 ·rfl
 ·rw[JP (ED _).1];exact(ED _).1
theorem XL (z:Int):Lib.itoa z≠[]:=by
 unfold Lib.itoa;split
 ·simp
 ·exact(ED _).2.2
theorem ZT (r:Rat):BM r≠[]:=by
 unfold BM;split
 ·exact XL _
 ·simp
theorem SX (r:Rat):C8 (BM r)=decide (r.num<0):=by
 rw[<-(LX r.num).1];unfold BM;split
 ·rfl
 ·have:=XL r.num
  cases h:Lib.itoa r.num with
  |nil=>exact Aj h this
  |cons c l=>rfl
theorem WN (r:Rat):decide (BM r=[48])=decide (r.num=0):=by
 refine C4.2 ⟨λh=>?_,λh=>?_⟩
 ·have h1:=WM r
  rw[h]at h1;rw[<-h1];decide
 ·have:r.den=1:=by
   have:=r.reduced
   rw[h]at this;simpa using this
  unfold BM;rw[AH this,h];show Lib.decDigits 0=[48];rw[Lib.decDigits,dif_pos (by decide)];rfl
abbrev rR (r:Rat):D:=str (sb (BM r))
def LA (r:Rat):Prop:=(BM r).length<=1000000
theorem ZJ (r:Rat)(hl:LA r):AK C0 166 [rR r] (i64 (GH r)):=by
 refine Ak.walk w1 oA rfl λF=>?_
 have hsz:=CX (BM r);unfold LA at hl;have ez:=Et (BM r) [48];rw[WN]at ez;have en:=SX r;refine sR 0 ?_;refine AC.seq ?_;refine AC.seq ?_;have ez2:Bh (sb (BM r)) ⟨#[48]⟩=decide (r.num=0):=ez;have hne:=ZT r;refine An w1 100 (by kernel_rfl) ?_;refine AU ez2 ?_
 by_cases h0:r.num=0
 ·rw[AY h0]
  refine AL ?_;refine sR 200 ?_;refine Af ?_;exact AQ (by unfold GH;rw[h0];rfl) AA.out
 ·rw[Ah h0]
  have hpos:0<(BM r).length:=List.length_pos_iff.2 hne;have e0:decide (((sb (BM r)).size:Int)>0)=true:=AY (by omega);have e1:((((BM r).getD (Int.toNat 0) 0).toNat:Int)==45)=decide (r.num<0):=by
   rw[<-en];cases ht:BM r with
   |nil=>exact Aj ht hne
   |cons c l=>exact PG c l
  refine AL ?_;refine Am ?_;refine AC.seq ?_;refine sZ 300 ?_;refine AE e0 ?_;refine AE (Av kT e0 e1) ?_
  by_cases hn:r.num<0
  ·rw[AY hn]
   refine AL ?_;refine sR 400 ?_;refine Af ?_;exact AQ (by unfold GH;congr 3;omega) AA.out
  ·rw[Ah hn]
   refine AL ?_;refine Am ?_;refine sR 500 ?_;refine Af ?_;exact AQ (by unfold GH;congr 3;omega) AA.out
theorem Xf {r:Rat}(h:r.num<0):(BM r).drop 1=BM (-r)/\(BM (-r)).length+1=(BM r).length:=by
 have e:Lib.itoa r.num=45::Lib.itoa (-r.num):=by
  unfold Lib.itoa;rw[AH h,AG (by omega),show(-r.num).toNat=r.num.natAbs by omega]
 have e2:BM r=45::BM (-r):=by
  unfold BM;rw[Rat.neg_den,Rat.neg_num,e];split<;>rfl
 rw[e2];exact⟨rfl,rfl⟩
def Cy (r:Rat):Rat:=if r.num<0 then -r else r
theorem O6 (r:Rat):(Cy r).num=r.num.natAbs/\(Cy r).den=r.den:=by
 unfold Cy;split
 ·rw[Rat.neg_num,Rat.neg_den];exact⟨by omega,rfl⟩
 ·exact⟨by omega,rfl⟩
def qk (r:Rat):Bool:=!decide (20<(BM r).length) && !(decide (9<BG (BM (Cy r)))||decide (10<(BM (Cy r)).length-BG (BM (Cy r))))
theorem iC (r:Rat):(BM (Cy r)).length<=(BM r).length:=by
 unfold Cy;split
 ·rename_i h
  have:=(Xf h).2
  omega
 ·exact Ad _
theorem RV (r:Rat):Lib.itoa (Cy r).num=Lib.decDigits r.num.natAbs:=by
 rw[(O6 r).1];unfold Lib.itoa;rw[AG (by omega)];rfl
theorem R0 {r:Rat}(h:qk r=true):r.num.natAbs<10^9/\r.den<10^9:=by
 unfold qk at h;simp only[BY,Bb,JF,KA]at h;obtain⟨h1,h2,h3⟩:=h;have hs:=M4 (Cy r);rw[RV]at hs;have hd:=Li (Cy r);rw[(O6 r).2]at hd;have hdl:(BU (BM (Cy r))).length=(BM (Cy r)).length-(BG (BM (Cy r))+1):=by unfold BU;rw[Do]
 have d1:=Fk _ (ED r.num.natAbs).1;have d2:=Fk _ (ED r.den).1;rw[(ED _).2.1]at d1 d2;refine⟨CM d1 (E4 (by decide) (by omega)),?_⟩
 by_cases h1:r.den=1
 ·rw[h1];decide
 ·rw[AG h1]at hd
  rw[hd]at hdl;exact CM d2 (E4 (by decide) (by omega))
theorem XU (r:Rat)(hl:LA r):AK C0 121 [rR r] (.tup [i64 (if qk r then r.num else 0),i64 (if qk r then(r.den:Int)else 0),Au (qk r)]):=by
 refine Ak.walk w1 mV rfl λF=>?_
 have hsz:=CX (BM r);unfold LA at hl;have hne:=ZT r;have hpos:0<(BM r).length:=List.length_pos_iff.2 hne;refine sR 0 ?_;refine sR 100 ?_;refine AC.seq ?_;refine AC.seq ?_
 by_cases h20:20<(BM r).length
 ·have e2:decide (((BM r).length:Int)>20)=true:=AY (by omega)
  have eq:qk r=false:=by unfold qk;rw[AY h20];rfl
  rw[eq];refine An w1 200 (by kernel_rfl) ?_;refine AU (Ae hsz e2) ?_;refine AL ?_;refine sR 300 ?_;refine Af ?_;exact AQ rfl AA.out
 ·have e2:decide (((BM r).length:Int)>20)=false:=Ah (by omega)
  have eq:qk r = !(decide (9<BG (BM (Cy r)))||decide (10<(BM (Cy r)).length-BG (BM (Cy r)))):=by unfold qk;rw[Ah h20];rfl
  have en:=SX r;refine An w1 200 (by kernel_rfl) ?_;refine AU (Ae hsz e2) ?_;refine AL ?_;refine Am ?_;refine Ck (α:=Nat) (λn=>⟨[(5,rR r),(6,Au (decide (r.num<0)))],[],n⟩) (λ_=>True) ?_ ?_
  ·have e0:decide (((sb (BM r)).size:Int)>0)=true:=AY (by omega)
   have e1:((((BM r).getD (Int.toNat 0) 0).toNat:Int)==45)=decide (r.num<0):=by
    rw[<-en];cases ht:BM r with
    |nil=>exact Aj ht hne
    |cons c l=>exact PG c l
   refine An w1 400 (by kernel_rfl) ?_;refine AE e0 ?_;refine AE (Av kT e0 e1) ?_;exact⟨trivial,_,trivial,AJ⟩
  rintro n0 -;refine Ck (α:=Nat) (λn=>⟨[(5,rR (Cy r)),(6,Au (decide (r.num<0)))],[],n⟩) (λ_=>True) ?_ ?_
  ·refine sR 500 ?_
   by_cases h:r.num<0
   ·obtain⟨t1,t2⟩:=Xf h
    have ea:Cy r = -r:=by unfold Cy;rw[AH h]
    have ee:(sb (BM r)).extract (Int.toNat 1) (BM r).length=sb (BM (Cy r)):=by
     rw[ea,Ec,B4 (Ad _),<-t1];rfl
    rw[AY h];refine AL ?_;refine An w1 600 (by kernel_rfl) ?_;refine AE (Ae hsz kN) ?_;rw[ee];exact⟨trivial,_,trivial,AJ⟩
   ·have ea:Cy r=r:=by unfold Cy;rw[AG h]
    rw[Ah h,ea];refine AL ?_;refine Am ?_;exact⟨rfl,_,trivial,AJ⟩
  rintro n1 -;have hal:=iC r;have hsa:=M4 (Cy r);rw[RV]at hsa;have hn:=NN (Cy r);rw[RV]at hn;have hd:=Li (Cy r);rw[(O6 r).2]at hd;have hh:=PU (Cy r);rw[(O6 r).2]at hh;unfold Ce at hh;have hle:=KY (BM (Cy r));have cs:=SS (BM (Cy r)) (by omega);have hszA:=CX (BM (Cy r));clear hsz hne hpos e2 en;generalize hT:BM (Cy r)=T at*;have eR:rR (Cy r)=str (sb T):=by rw[<-hT]
  rw[eR];clear hT eR;refine sR 700 ?_;refine cI cs ?_;have w8:IntKind.i64.wrap ((T.length:Int)-(BG T:Int))=((T.length-BG T:Nat):Int):=by rw[wI (by omega) (by omega)];omega
  have eb:decide (((T.length-BG T:Nat):Int)>10)=decide (10<T.length-BG T):=C4.2 (by omega)
  by_cases h9:9<BG T
  ·have e8:decide ((BG T:Int)>9)=true:=AY (by omega)
   rw[AY h9]at eq;have eq2:qk r=false:=eq;rw[eq2];refine AC.seq ?_;refine sZ 800 ?_;refine AU e8 ?_;refine AE kT ?_;refine AL ?_;refine sR 900 ?_;refine Af ?_;exact AQ rfl AA.out
  have e8:decide ((BG T:Int)>9)=false:=Ah (by omega);rw[Ah h9]at eq
  by_cases h10:10<T.length-BG T
  ·rw[AY h10]at eq eb
   have eq2:qk r=false:=eq;rw[eq2];refine AC.seq ?_;refine sZ 800 ?_;refine AU e8 ?_;refine AE (Bk kF hszA w8 eb) ?_;refine AL ?_;refine sR 900 ?_;refine Af ?_;exact AQ rfl AA.out
  rw[Ah h10]at eq eb;have eq2:qk r=true:=eq;rw[eq2];refine AC.seq ?_;refine sZ 800 ?_;refine AU e8 ?_;refine AE (Bk kF hszA w8 eb) ?_;refine AL ?_;refine Am ?_;have hd1:=ED r.num.natAbs;have hd2:=ED r.den;have c1:=PV (Lib.decDigits r.num.natAbs) hd1.1 (by omega);rw[hd1.2.1]at c1;have e10:(sb T).extract 0 (BG T)=sb (Lib.decDigits r.num.natAbs):=by
   rw[Ec,FE,<-hn];rfl
  refine sZ 1000 ?_;refine AE (Ae hszA kN) ?_;refine AE e10 ?_;refine A9.same _ c1 AI ?_;refine BN ?_;refine Ck (α:=Nat) (λn=>⟨[(6,Au (decide (r.num<0))),(8,i64 (r.num.natAbs:Int)),(9,i64 (r.den:Int))],[],n⟩) (λ_=>True) ?_ ?_
  ·by_cases hden:r.den=1
   ·rw[AY hden]at hh
    have e11:decide ((BG T:Int)<(T.length:Int))=false:=Ah (by have:=DA (p:=BG T<T.length) hh;omega);rw[hden];refine sZ 1100 ?_;refine AU (Ae hszA e11) ?_;refine AL ?_;refine Am ?_;exact⟨rfl,_,trivial,AJ⟩
   ·rw[Ah hden]at hh
    rw[AG hden]at hd;have hlt:=C3 (p:=BG T<T.length) hh;have e11:decide ((BG T:Int)<(T.length:Int))=true:=AY (by omega);have wk:IntKind.i64.wrap (((BG T:Nat):Int)+1)=((BG T+1:Nat):Int):=wI (by omega) (by omega);have e12:(sb T).extract (BG T+1) T.length=sb (Lib.decDigits r.den):=by
     rw[Ec,B4 (Ad _),<-hd];rfl
    have hdl:(Lib.decDigits r.den).length<=18:=by
     rw[<-hd];unfold BU;rw[Do];omega
    have c2:=PV (Lib.decDigits r.den) hd2.1 hdl;rw[hd2.2.1]at c2;refine sZ 1100 ?_;refine AU (Ae hszA e11) ?_;refine AL ?_;refine An w1 1200 (by kernel_rfl) ?_;refine AE (Av hszA wk kN) ?_;refine AE e12 ?_;refine A9.same _ c2 AI ?_;refine BN ?_;exact⟨trivial,_,trivial,AJ⟩
  rintro n2 -;obtain⟨b1,b2⟩:=R0 eq2;refine Ck (α:=Nat) (λn=>⟨[(8,i64 r.num),(9,i64 (r.den:Int))],[],n⟩) (λ_=>True) ?_ ?_
  ·refine sR 1300 ?_
   by_cases h:r.num<0
   ·have wn:IntKind.i64.wrap (0-(r.num.natAbs:Int))=r.num:=by rw[wI (by omega) (by omega)];omega
    rw[AY h];refine AL ?_;refine An w1 1400 (by kernel_rfl) ?_;refine AU wn ?_;exact⟨trivial,_,trivial,AJ⟩
   ·have en:(r.num.natAbs:Int)=r.num:=by omega
    rw[Ah h,en];refine AL ?_;refine Am ?_;exact⟨rfl,_,trivial,AJ⟩
  rintro n3 -;refine sR 1500 ?_;refine Af ?_;exact AQ rfl AA.out
theorem gW (b:Bool)(n:Nat):(sg b n).natAbs=n:=by unfold sg;split<;>omega
theorem sS (z:Int)(d:Nat)(hz:z.natAbs<=4000000000000000000)(hd0:0<d)(hd:d<=4000000000000000000):AK C0 122 [i64 z,i64 (d:Int)] (rR (mkRat z d)):=by
 refine Ak.walk w1 mX rfl λF=>?_
 have hg:0<Nat.gcd z.natAbs d:=OB _ hd0;have hgl:Nat.gcd z.natAbs d<=d:=Nat.gcd_le_right _ hd0;obtain⟨qn,qd⟩:=Rz (x:=z) (d:=d) (by omega);have etx:BM (mkRat z d)=if d/Nat.gcd z.natAbs d=1 then Lib.itoa (mkRat z d).num else Lib.itoa (mkRat z d).num++47::Lib.decDigits (d/Nat.gcd z.natAbs d):=by
  unfold BM;rw[qd]
 have q1:z.tdiv (Nat.gcd z.natAbs d:Nat)=(mkRat z d).num:=by
  rw[qn];obtain⟨p,hp⟩:=Nat.gcd_dvd_left z.natAbs d;have e1:z.natAbs/Nat.gcd z.natAbs d=p:=Nat.div_eq_of_eq_mul_right hg hp;have e2:z=(Nat.gcd z.natAbs d:Int)*sg (decide (z<0)) p:=by
   have h0:(z.natAbs:Int)=(Nat.gcd z.natAbs d:Int)*(p:Int):=by rw[<-FU,<-hp]
   unfold sg
   by_cases hx:z<0
   ·rw[AY hx,AH rfl,Int.mul_neg,<-h0];omega
   ·rw[Ah hx,AG (by decide),<-h0];omega
  rw[e1]
  conv=>lhs;arg 1;rw[e2]
  rw[Int.mul_tdiv_cancel_left _ (by omega)]
 have q2:(d:Int).tdiv (Nat.gcd z.natAbs d:Nat)=((d/Nat.gcd z.natAbs d:Nat):Int):=rfl;have q5:(mkRat z d).num.natAbs<=4000000000000000000:=by
  rw[qn];rw[gW];exact BQ (GO _ _) hz
 have q4:d/Nat.gcd z.natAbs d<=4000000000000000000:=BQ (GO _ _) hd;have hx:0<d/Nat.gcd z.natAbs d:=Nat.div_pos hgl hg;have ert:rR (mkRat z d)=str (sb (if d/Nat.gcd z.natAbs d=1 then Lib.itoa (mkRat z d).num else Lib.itoa (mkRat z d).num++47::Lib.decDigits (d/Nat.gcd z.natAbs d))):=by rw[<-etx]
 rw[ert];clear etx ert qn qd;generalize(mkRat z d).num=pz at*;refine fR 0 ?_;refine Db ⟨[(0,i64 z),(1,i64 d),(4,str ⟨#[]⟩)],[],50⟩ ?_ ?_
 ·refine AC.seq ?_
  have l1:(decide (z < -4000000000000000000))=false:=by apply Ah;omega
  have l2:(decide (z>4000000000000000000))=false:=by apply Ah;omega
  have l3:(decide ((d:Int) < -4000000000000000000))=false:=by apply Ah;omega
  have l4:(decide ((d:Int)>4000000000000000000))=false:=by apply Ah;omega
  refine An w1 100 (by kernel_rfl) ?_
  repeat'(first|(refine And.intro (by exact Bz) ?_;(refine At ?_);(try simp only[L4,QF,l1,l2,l3,l4]))|((refine Br (λhb=>?_) (λhb=>?_))<;>(try simp only[Bb,Bq]at hb)<;>(try simp only[hb])<;>(refine At ?_)))
  refine AL ?_;refine Am ?_;exact And.intro (by trivial) (AJ)
 refine Db ⟨[(0,i64 z),(1,i64 d),(4,str ⟨#[]⟩)],[],100⟩ ?_ ?_
 ·refine fR 300 ?_
  refine AL ?_;have e27:(decide ((d:Int)<0))=false:=by simp
  rw[e27];refine Am ?_;exact And.intro (by trivial) (AJ)
 refine AC.seq ?_;have m1:max z (IntKind.i64.wrap (0-z))=(z.natAbs:Int):=by rw[wI (by omega) (by omega)];omega
 refine An w1 500 (by kernel_rfl) ?_;refine JK m1 ?_;refine dI (kh z.natAbs d (by omega) (by omega)) ?_;refine AC.seq ?_;refine B3 w1 600 [0,1,2,3,4,5,6] [7] (by kernel_rfl) ?_;refine B6 ?_;have w1p:IntKind.i64.wrap pz=pz:=wI (by omega) (by omega);rw[q1,q2,w1p,wN (BQ q4 (by decide))];clear q1 q2 hg hgl;generalize d/Nat.gcd z.natAbs d=y at*;refine fR 700 ?_;have c1:=Oh pz.natAbs 1 (by omega);have c2:=Oh y 1 (by omega);rw[W2]at c1 c2;have s1:=LN 18 pz.natAbs (DJ q5 (by decide));have s2:=LN 18 y (DJ q4 (by decide));have z1:=NL (Lib.decDigits pz.natAbs);have z2:=NL (Lib.decDigits y);have m1:max pz (IntKind.i64.wrap (0-pz))=(pz.natAbs:Int):=by rw[wI (by omega) (by omega)];omega
 refine Ck (α:=Nat) (λn=>⟨[(0,i64 pz),(1,i64 (y:Int)),(4,str ⟨#[]⟩),(6,str (sb (if pz<0 then[45]else[])))],[],n⟩) (λ_=>True) ?_ ?_
 ·refine fR 800 ?_
  by_cases h:pz<0
  ·rw[AY h,AH h]
   refine AL ?_;refine fI 900 ?_;exact⟨rfl,_,trivial,AJ⟩
  ·rw[Ah h,AG h]
   refine AL ?_;refine Am ?_;exact⟨rfl,_,trivial,AJ⟩
 rintro n0 -;have ei:(if pz<0 then[45]else[])++Lib.decDigits pz.natAbs=Lib.itoa pz:=by
  unfold Lib.itoa;split
  ·rfl
  ·rw[show pz.toNat=pz.natAbs by omega];rfl
 have z3:=CX (if pz<0 then[45]else[]);have z4:(if pz<0 then[45]else[]:List UInt8).length<=1:=by split<;>simp
 have z5:(Lib.itoa pz).length<=20:=by rw[<-ei,Bf];omega
 refine sZ 1000 ?_;refine JK m1 ?_;refine dI c1 ?_;rw[IJ,ei];have z6:=NL (Lib.itoa pz);generalize Lib.itoa pz=t1 at*;clear ei z3 z4;refine Ck (α:=Nat) (λn=>⟨[(6,str (sb (if y=1 then t1 else t1++47::Lib.decDigits y)))],[],n⟩) (λ_=>True) ?_ ?_
 ·refine fR 1100 ?_
  by_cases hy:y=1
  ·rw[AH hy]
   have e54:(decide ((y:Int)>1))=false:=by apply Ah;omega
   rw[e54];refine AL ?_;refine Am ?_;exact⟨rfl,_,trivial,AJ⟩
  ·rw[AG hy]
   have e54:(decide ((y:Int)>1))=true:=by apply AY;omega
   have s3:(⟨#[47]⟩:ByteArray).size=1:=rfl;have sc:((⟨t1.toArray⟩:ByteArray)++(⟨#[47]⟩:ByteArray)).size=(⟨t1.toArray⟩:ByteArray).size+(⟨#[47]⟩:ByteArray).size:=ByteArray.size_append;rw[e54];refine AL ?_;refine fI 1200 ?_;refine dI c2 ?_;have e47:(⟨#[47]⟩:ByteArray)=⟨([47]:List UInt8).toArray⟩:=rfl;rw[e47,IJ,IJ,Dm,ES,Fy];exact⟨rfl,_,trivial,AJ⟩
 rintro n1 -;refine fR 1300 ?_;refine Af ?_;exact AQ rfl AA.out
theorem R8 {n k:Nat}(h:(Ab n).length<=k):(AX n).length<=3*k:=by
 refine KR (CM (Ii n) ?_);rw[Nat.pow_mul];exact BQ (E4 (by decide) h) (MU (by decide) k)
theorem Lr {n k:Nat}(h:(Ab n).length<=k):(Lib.decDigits n).length<=27*k+1:=by
 have h1:=ND (EL n);rw[Dp]at h1
 have:=R8 h
 omega
theorem lF {z:Int}{k:Nat}(h:(Ab z.natAbs).length<=k):(Lib.itoa z).length<=27*k+2:=by
 have:=Lr h
 unfold Lib.itoa;split
 ·rw[Bl];omega
 ·rw[show z.toNat=z.natAbs by omega];omega
theorem SV {r:Rat}{k:Nat}(h:rk r k)(hk:k<=10000):LA r:=by
 have h1:=lF h.1;have h2:=Lr h.2;unfold LA BM;split
 ·omega
 ·rw[Bf,Bl];omega
def LZ (x:Int)(p:Nat):Prop:=(AX x.natAbs).length<=p
theorem LZ.mul {x y:Int}{p q:Nat}(hx:LZ x p)(hy:LZ y q):LZ (x*y) (p+q):=by
 unfold LZ at*;rw[MZ]
 have:=RG x.natAbs y.natAbs
 omega
theorem LZ.add {x y:Int}{p q:Nat}(hx:LZ x p)(hy:LZ y q):LZ (x+y) (p+q+1):=by
 unfold LZ at*;have h1:=IA (x+y).natAbs (x.natAbs+y.natAbs) (Int.natAbs_add_le x y);have h2:=Ul x.natAbs y.natAbs;omega
theorem LZ.few {x:Int}{p:Nat}(h:LZ x p)(hp:p<1000000):GL x:=DJ h hp
theorem LZ.num {r:Rat}{k:Nat}(h:rk r k):LZ r.num (3*k):=R8 h.1
theorem LZ.den {r:Rat}{k:Nat}(h:rk r k):LZ (r.den:Int) (3*k):=R8 h.2
theorem rM (a b:Rat):qZ (a.num*b.den+b.num*a.den) ((a.den:Int)*b.den)=a+b:=by
 unfold qZ;have h:¬((a.den:Int)*b.den<0):=by
  rw[<-FU];omega
 rw[AG h,<-FU,EA,Rat.add_def',]
theorem Rh {x y:Int}(hx:x.natAbs<10^9)(hy:y.natAbs<10^9):(x*y).natAbs<10^18:=by
 rw[MZ];exact CM (Nat.mul_lt_mul'' hx hy) (by decide)
theorem ay (a b:Rat)(i j:Nat)(ha:rk a i)(hb:rk b j)(hij:i+j<=10000):AK C0 167 [rR a,rR b] (rR (a+b)):=by
 refine Ak.walk w1 oB rfl λF=>?_
 have ta:=SV ha (by omega);have tb:=SV hb (by omega);have qa:=XU a ta;have qb:=XU b tb
 by_cases hq:qk a=true/\qk b=true
 ·obtain⟨h1,h2⟩:=hq
  obtain⟨n1,d1⟩:=R0 h1;obtain⟨n2,d2⟩:=R0 h2;rw[h1,AH rfl,AH rfl]at qa;rw[h2,AH rfl,AH rfl]at qb;have p1:=Rh n1 (y:=(b.den:Int)) (by omega);have p2:=Rh n2 (y:=(a.den:Int)) (by omega);have p3:=Rh (x:=(a.den:Int)) (y:=(b.den:Int)) (by omega) (by omega);have m1:IntKind.i64.wrap (a.num*(b.den:Int))=a.num*b.den:=wI (by omega) (by omega);have m2:IntKind.i64.wrap (b.num*(a.den:Int))=b.num*a.den:=wI (by omega) (by omega);have m3:IntKind.i64.wrap (a.num*(b.den:Int)+b.num*(a.den:Int))=a.num*b.den+b.num*a.den:=wI (by omega) (by omega);have m4:IntKind.i64.wrap ((a.den:Int)*(b.den:Int))=((a.den*b.den:Nat):Int):=by rw[wI (by omega) (by omega),FU]
  have p4:a.den*b.den<10^18:=by rw[<-FU,EA]at p3;exact p3
  have cf:=sS (a.num*b.den+b.num*a.den) (a.den*b.den) (by omega) (Gu a.den_pos b.den_pos) (by omega);rw[<-Rat.add_def']at cf;refine sR 0 ?_;refine sR 100 ?_;refine cI qa ?_;refine sR 200 ?_;refine cI qb ?_;refine AC.seq ?_;refine sZ 300 ?_;refine AE kT ?_;refine AL ?_;refine sZ 400 ?_;refine AU (Bk m1 m2 m3 m4) ?_;refine cI cf ?_;refine Af ?_;exact AQ rfl AA.out
 ·refine sR 0 ?_
  refine sR 100 ?_;refine cI qa ?_;refine sR 200 ?_;refine cI qb ?_;refine Ck (α:=Nat) (λn=>⟨[(0,rR a),(1,rR b)],[],n⟩) (λ_=>True) ?_ ?_
  ·cases h1:qk a
   ·refine sZ 300 ?_
    refine AE h1 ?_;refine AE kF ?_;refine AL ?_;refine Am ?_;exact⟨rfl,_,trivial,AJ⟩
   ·have h2:qk b=false:=by
     cases h2:qk b
     ·rfl
     ·exact Aj ⟨h1,h2⟩ hq
    rw[h2];refine sZ 300 ?_;refine AE h1 ?_;refine AE kT ?_;refine AL ?_;refine Am ?_;exact⟨rfl,_,trivial,AJ⟩
  rintro n0 -;clear qa qb hq;have pa:=SE (BM a) (WL a) (WK a) ta;have pb:=SE (BM b) (WL b) (WK b) tb;rw[WM,jd]at pa pb;have lan:=LZ.num ha;have lad:=LZ.den ha;have lbn:=LZ.num hb;have lbd:=LZ.den hb;have da:=a.den_pos;have db:=b.den_pos;have c1:=SW a.num b.den (lan.few (by omega)) (lbd.few (by omega));have c2:=SW b.num a.den (lbn.few (by omega)) (lad.few (by omega));have c3:=rG (a.num*b.den) (b.num*a.den) ((lan.mul lbd).few (by omega)) ((lbn.mul lad).few (by omega));have c4:=SW (a.den:Int) b.den (lad.few (by omega)) (lbd.few (by omega));have c5:=eE (a.num*b.den+b.num*a.den) ((a.den:Int)*b.den) (by rw[<-FU];have:=Gu da db;omega) (((lan.mul lbd).add (lbn.mul lad)).few (by omega)) ((lad.mul lbd).few (by omega));rw[rM]at c5;refine sR 500 ?_;refine cI pa ?_;refine sR 600 ?_;refine cI pb ?_;refine AC.seq ?_;refine B3 w1 700 [0,1,2,3,4,5,6,7,8] [9,10,11] (by kernel_rfl) ?_;refine AE kN ?_
  first|refine BT.same _ c1 AI ?_|refine A9.same _ c1 AI ?_
  refine AE kN ?_
  first|refine BT.same _ c2 AI ?_|refine A9.same _ c2 AI ?_
  refine AE kN ?_
  first|refine BT.same _ c3 AI ?_|refine A9.same _ c3 AI ?_
  refine AE kN ?_
  first|refine BT.same _ c4 AI ?_|refine A9.same _ c4 AI ?_
  refine AE kN ?_
  first|refine BT.same _ c5 AI ?_|refine A9.same _ c5 AI ?_
  refine AE kN ?_;refine Af ?_;exact AQ rfl AA.out
theorem iV (c:UInt8):BZ c=(!decide ((c.toNat:Int)<48) && !decide ((c.toNat:Int)>57)):=by
 unfold BZ;rw[GN,BY,BY];simp only[Bb,KA,Nat.ble_eq];omega
theorem bq {l:List UInt8}{i:Nat}{c:UInt8}(hc:l[i]?=some c)(h:(l.take i).all BZ=true):(l.take (i+1)).all BZ=BZ c:=by
 rw[EB,hc,LC,h];simp
theorem l9 {l:List UInt8}{i:Nat}{c:UInt8}(hc:l[i]?=some c)(h:BZ c=false):l.all BZ=false:=by
 cases ha:l.all BZ
 ·rfl
 ·have:=CQ.1 ha c (BE hc)
  rw[h]at this;cases this
theorem jI (l:List UInt8)(hl:l.length<=1000000000):AK C0 268 [str (sb l)] (Au (l.all BZ)):=by
 refine Ak.walk w1 pQ rfl λF=>?_
 have hsz:=CX l;refine sR 0 ?_;refine AC.seq ?_;refine sR 100 ?_;refine AC.block ?_;refine AC.loop (α:=Nat×Nat) (λp=>⟨[(0,str (sb l)),(3,i64 (p.1:Int))],[],p.2⟩) (λp=>l.length-p.1) (λp=>p.1<=l.length/\(l.take p.1).all BZ=true) (0,_) ⟨BS _,rfl⟩ AJ ?_;rintro⟨i,n⟩ F ⟨hi,ha⟩;dsimp only at hi ha⊢;refine AC.seq ?_;refine sZ 200 ?_;refine AU hsz ?_;refine AL ?_
 (refine Br (λhlt=>?_) (λhlt=>?_))<;>(try simp only[Bb,Bq]at hlt)<;>(try simp only[hlt])
 ·have hi2:i<l.length:=by
   have:=C3 hlt
   omega
  obtain⟨c,hc⟩:∃c,l[i]?=some c:=⟨l[i],BH hi2⟩
  have hg:l.getD i 0=c:=by simp[hc]
  have wi:IntKind.i64.wrap ((i:Int)+1)=((i+1:Nat):Int):=wI (by omega) (by omega);have hid:=iV c;have hat:=bq hc ha;have hno:=l9 hc;refine Am ?_;refine AC.seq ?_;refine AC.block ?_;refine sZ 400 ?_;refine AU (Ae kN hg) ?_
  by_cases c1:(c.toNat:Int)<48
  ·rw[AY c1]at hid
   have e4:=AY c1;simp only[e4];refine AE kT ?_;refine AL ?_;refine sR 500 ?_;refine Af ?_;exact AQ (by rw[hno hid]) AA.out
  ·rw[Ah c1]at hid
   have e4:=Ah c1;simp only[e4];refine AE (Av kF kN hg) ?_
   by_cases c2:(c.toNat:Int)>57
   ·rw[AY c2]at hid⊢
    refine AL ?_;refine sR 500 ?_;refine Af ?_;exact AQ (by rw[hno hid]) AA.out
   ·rw[Ah c2]at hid⊢
    refine AL ?_;refine Am ?_;refine An w1 300 (by kernel_rfl) ?_;refine AU wi ?_;exact⟨(i+1,_),⟨hi2,hat.trans hid⟩,by dsimp only;omega,AJ⟩
 ·have hi2:i=l.length:=by
   have:=DA hlt
   omega
  subst hi2;rw[B4 (Ad _)]at ha;refine B5 ?_;refine sR 600 ?_;refine Af ?_;exact AQ (by rw[ha]) AA.out
theorem gH (c:UInt8):(((c.toNat:Nat):Int)==48)=decide (c=48):=by
 rw[GN,Dv,decide_eq_true_iff,<-UInt8.toNat_inj];exact⟨λh=>(show c.toNat=48 by omega),λh=>by rw[h];rfl⟩
theorem Zf (l:List UInt8)(hl:l.length<=1000000000):AK C0 224 [str (sb l)] (Au (Cr l)):=by
 refine Ak.walk w1 nV rfl λF=>?_
 have hsz:=CX l;have cd:=jI l hl;refine sR 0 ?_;refine AC.seq ?_;refine AC.seq ?_
 match l,hl,hsz,cd with
 | [],_,hsz,_=>
  have e1:((((sb []).size:Nat):Int)==0)=true:=rfl;refine An w1 100 (by kernel_rfl) ?_;refine AU e1 ?_;refine AE kT ?_;refine AL ?_;refine sR 200 ?_;refine Af ?_;exact AQ rfl AA.out
 | [c],hl,hsz,cd=>
  have e1:((((sb [c]).size:Nat):Int)==0)=false:=rfl;have e2:decide ((((sb [c]).size:Nat):Int)>1)=false:=rfl;have ep:Cr [c]=[c].all BZ:=by
   unfold Cr Jx
   by_cases h:c=48
   ·subst h;rfl
   ·simp[h]
  rw[ep];refine An w1 100 (by kernel_rfl) ?_;refine AU e1 ?_;refine AE kF ?_;simp only[e2];refine AE kF ?_;refine AL ?_;refine Am ?_;refine sR 300 ?_;refine cI cd ?_;refine Af ?_;exact AQ rfl AA.out
 |c::d::l,hl,hsz,cd=>
  have hs2:(sb (c::d::l)).size=l.length+2:=hsz;have e1:((((sb (c::d::l)).size:Nat):Int)==0)=false:=Bw.2 (by omega);have e2:decide ((((sb (c::d::l)).size:Nat):Int)>1)=true:=AY (by omega);have e3:((((c::d::l).getD (Int.toNat 0) 0).toNat:Int)==48)=decide (c=48):=gH c;have ep:Cr (c::d::l)=if c=48 then false else(c::d::l).all BZ:=by
   unfold Cr Jx
   by_cases h:c=48
   ·subst h;simp
   ·simp[h]
  rw[ep];refine An w1 100 (by kernel_rfl) ?_;refine AU e1 ?_;refine AE (Ae kF e2) ?_;refine AE (Bk kT e2 e3 kF) ?_
  by_cases h:c=48
  ·rw[AY h,AH h]
   refine AL ?_;refine sR 200 ?_;refine Af ?_;exact AQ rfl AA.out
  ·rw[Ah h,AG h]
   refine AL ?_;refine Am ?_;refine sR 300 ?_;refine cI cd ?_;refine Af ?_;exact AQ rfl AA.out
def Da (r:Rat):Bool:=decide (600<(Lib.decDigits r.num.natAbs).length)||decide (600<(Lib.decDigits r.den).length)
theorem gZ (l:List UInt8):BG l=(Bv l).length:=by
 have:=KY l
 unfold Bv;rw[Bj];omega
theorem RJ (l:List UInt8):Bv (Bi l)=Bx l/\BU (Bi l)=BU l/\Ce (Bi l)=Ce l/\decide (Bv l=[45,48])=(C8 l&&decide (Bx l=[48])):=by
 cases hb:C8 l
 ·have ed:Bi l=l:=by unfold Bi;rw[hb];rfl
  have en:C8 (Bv l)=false:=by
   unfold Bv;cases l with
   |nil=>rfl
   |cons c l=>
    cases hk:BG (c::l)with
    |zero=>rfl
    |succ k=>exact hb
  have es:Bx l=Bv l:=by unfold Bx Bi;rw[en];rfl
  rw[ed,es];refine⟨rfl,rfl,rfl,?_⟩;rw[KG];refine Ah λh=>?_
  rw[h]at en;cases en
 ·cases l with
  |nil=>cases hb
  |cons c m=>
   have hc:c=45:=by simpa[C8]using hb
   subst hc;have ed:Bi (45::m)=m:=rfl;have e1:BG (45::m)=BG m+1:=by
    unfold BG;rw[OM,AH (by decide),Bl]
   have e2:Bv (45::m)=45::Bv m:=by unfold Bv;rw[e1,List.take_succ_cons]
   have e3:BU (45::m)=BU m:=by unfold BU;rw[e1,Qr]
   have e4:Ce (45::m)=Ce m:=by unfold Ce;rw[e1,Bl];exact C4.2 (by omega)
   have e5:Bx (45::m)=Bv m:=by unfold Bx;rw[e2];rfl
   rw[ed,e2,e3,e4,e5];refine⟨rfl,rfl,rfl,?_⟩;rw[IZ];exact C4.2 (by simp)
theorem Og (l:List UInt8):Im l=((!Cr (Bx l)||(C8 l&&decide (Bx l=[48])))||(Ce l&&(!Cr (BU l)||decide (BU l=[48])||decide (BU l=[49])))):=by
 unfold Im;rw[(RJ l).2.2.2]
theorem iu {l:List UInt8}(h:Cr l=true):l≠[]:=(JU h).1
theorem Zr {l:List UInt8}(h:0<l.length):(((l.getD (Int.toNat 0) 0).toNat:Int)==45)=C8 l:=by
 cases l with
 |nil=>cases h
 |cons c l=>exact PG c l
theorem rQ (l:List UInt8)(hl:l.length<=100000):AK C0 165 [str (sb l)] (i64 (CP l)):=by
 refine Ak.walk w1 mu rfl λF=>?_
 have hsz:=CX l;obtain⟨p1,p2,p3,-⟩:=RJ l;have hdl:(Bi l).length<=l.length:=by
  unfold Bi;split
  ·rw[Do];omega
  ·exact Ad _
 have hbf:=Og l;have hchk1:(!Cr (Bx l)||(C8 l&&decide (Bx l=[48])))=true->CP l=1:=λh=>by
  unfold CP;rw[hbf,h,Bool.true_or,AH rfl]
 have hchk2:(Ce l&&(!Cr (BU l)||decide (BU l=[48])||decide (BU l=[49])))=true->CP l=1:=λh=>by
  unfold CP;rw[hbf,h,Bool.or_true,AH rfl]
 have hne:Cr (Bx l)=true->0<l.length:=λh=>by
  cases l with
  |nil=>exact Aj rfl (iu h)
  |cons c l=>rw[Bl];omega
 refine sR 0 ?_;refine sR 100 ?_;refine Ck (α:=Nat) (λn=>⟨[(0,str (sb l)),(3,str (sb (Bi l)))],[],n⟩) (λ_=>True) ?_ ?_
 ·rcases DR l.length with h0|h0
  ·have e0:l=[]:=ER h0
   have e1:decide (((sb []).size:Int)>0)=false:=rfl;have ed:Bi l=l:=by rw[e0];rfl
   rw[ed,e0];refine sZ 200 ?_;refine AU e1 ?_;refine AE kF ?_;refine AL ?_;refine Am ?_;exact⟨rfl,_,trivial,AJ⟩
  ·have e0:decide (((sb l).size:Int)>0)=true:=AY (by omega)
   have e1:=Zr h0;refine sZ 200 ?_;refine AE e0 ?_;refine AE (Av kT e0 e1) ?_;cases hb:C8 l
   ·have ed:Bi l=l:=by unfold Bi;rw[hb];rfl
    rw[ed];refine AL ?_;refine Am ?_;exact⟨rfl,_,trivial,AJ⟩
   ·have ed:Bi l=l.drop 1:=by unfold Bi;rw[hb];rfl
    have ee:(sb l).extract (Int.toNat 1) l.length=sb (Bi l):=by
     rw[Ec,B4 (Ad _),ed];rfl
    refine AL ?_;refine An w1 300 (by kernel_rfl) ?_;refine AE (Ae hsz kN) ?_;rw[ee];exact⟨trivial,_,trivial,AJ⟩
 rintro n0 -;have cs:=SS (Bi l) (by omega);have hle:=KY (Bi l);have hszS:=CX (Bi l);have hhs:Ce l=decide (BG (Bi l)<(Bi l).length):=p3.symm;have e10:(sb (Bi l)).extract 0 (BG (Bi l))=sb (Bx l):=by rw[<-p1,Ec,FE];rfl
 have e11:(sb (Bi l)).extract (BG (Bi l)+1) (Bi l).length=sb (BU l):=by rw[<-p2,Ec,B4 (Ad _)];rfl
 have hNl:BG (Bi l)=(Bx l).length:=by rw[<-p1];exact gZ _
 have hDl:(BU l).length=(Bi l).length-(BG (Bi l)+1):=by rw[<-p2];unfold BU;rw[Do]
 have pp:=λh1 h2=>SE (Bi l) h1 h2 (by omega)
 unfold N4 Nw at pp;rw[p1,p2,p3]at pp;have edef:CP l=if Im l then 1 else if 600<(Bx l).length\/600<(BU l).length then 4 else if Ce l=true/\Nat.gcd (dv (Bx l)) (dv (BU l))≠1 then 1 else 0:=rfl
 rw[hbf]at edef;generalize hN:Bx l=Nn at*;generalize hD:BU l=Dn at*;generalize hH:Ce l=hv at*;generalize hK:CP l=KnV at*;generalize Bi l=Sn at*;generalize BG Sn=k at*;clear p1 p2 p3 hbf hN hD hH hK;have cf:=Zf Nn (by omega);have cf2:=Zf Dn (by omega);have q0:=Et Nn [48];have q1:=Et Dn [48];have q2:=Et Dn [49];refine sR 400 ?_;refine cI cs ?_;refine Ck (α:=Nat) (λn=>⟨[(0,str (sb l)),(3,str (sb Sn)),(4,i64 (k:Int))],[],n⟩) (λ_=>(!Cr Nn||(C8 l&&decide (Nn=[48])))=false) ?_ ?_
 ·refine sZ 500 ?_
  refine AE (Ae hszS kN) ?_;refine AE e10 ?_;cases hp:Cr Nn
  ·rw[hp]at cf
   refine A9.same _ cf AI ?_;refine BN ?_;simp only[Qi];refine AE kT ?_;refine AL ?_;refine sR 600 ?_;refine Af ?_;exact AQ (by rw[hchk1 (by rw[hp];rfl)];rfl) AA.out
  ·rw[hp]at cf
   have hl0:=hne hp;have e1:=Zr hl0;refine A9.same _ cf AI ?_;refine BN ?_;simp only[OF];refine AE (Av kF hsz e1) ?_;have q0':Bh (sb Nn) ⟨#[48]⟩=decide (Nn=[48]):=q0;cases hb:C8 l
   ·refine AE kF ?_
    refine AL ?_;refine Am ?_;exact⟨rfl,_,rfl,AJ⟩
   ·refine AE (Bk kT kF hszS kN) ?_
    refine AE (Bk kT kF e10 q0') ?_
    by_cases h0:Nn=[48]
    ·rw[AY h0]
     refine AL ?_;refine sR 600 ?_;refine Af ?_;exact AQ (by rw[hchk1 (by simp[hp,hb,h0])];rfl) AA.out
    ·rw[Ah h0]
     refine AL ?_;refine Am ?_;exact⟨rfl,_,by simp,AJ⟩
 rintro n1 hb1;clear hchk1 hne cf q0;refine Ck (α:=Nat) (λn=>⟨[(0,str (sb l)),(3,str (sb Sn)),(4,i64 (k:Int))],[],n⟩) (λ_=>(hv&&(!Cr Dn||decide (Dn=[48])||decide (Dn=[49])))=false) ?_ ?_
 ·cases hv
  ·have e40:decide ((k:Int)<(Sn.length:Int))=false:=Ah (by have:=DA hhs.symm;omega)
   refine sZ 700 ?_;refine AU (Ae hszS e40) ?_;refine AE kF ?_;refine AL ?_;refine Am ?_;exact⟨rfl,_,rfl,AJ⟩
  ·have hkl:=C3 hhs.symm
   have e40:decide ((k:Int)<(Sn.length:Int))=true:=AY (by omega);have wk:IntKind.i64.wrap ((k:Int)+1)=((k+1:Nat):Int):=wI (by omega) (by omega);have q1':Bh (sb Dn) ⟨#[48]⟩=decide (Dn=[48]):=q1;have q2':Bh (sb Dn) ⟨#[49]⟩=decide (Dn=[49]):=q2;refine sZ 700 ?_;refine AU (Ae hszS e40) ?_;refine AE (Bk kT wk hszS kN) ?_;simp only[e11];refine Mh kT ?_;cases hp:Cr Dn
   ·rw[hp]at cf2
    refine A9.same _ cf2 AI ?_;refine AE kB ?_;refine AE kT ?_;refine AL ?_;refine sR 800 ?_;refine Af ?_;exact AQ (by rw[hchk2 (by simp[hp])];rfl) AA.out
   ·rw[hp]at cf2
    have e12:(sb Sn).extract (IntKind.i64.wrap ((k:Int)+1)).toNat (sb Sn).size=sb Dn:=by rw[wk,hszS,Int.toNat_natCast];exact e11
    refine A9.same _ cf2 AI ?_;refine AE kB ?_;simp only[e12,q1']
    by_cases h48:Dn=[48]
    ·rw[AY h48]
     refine AE kT ?_;refine AL ?_;refine sR 800 ?_;refine Af ?_;exact AQ (by rw[hchk2 (by simp[h48])];rfl) AA.out
    ·rw[Ah h48]
     refine AE kB ?_;simp only[e12,q2']
     by_cases h49:Dn=[49]
     ·rw[AY h49]
      refine AL ?_;refine sR 800 ?_;refine Af ?_;exact AQ (by rw[hchk2 (by simp[h49])];rfl) AA.out
     ·rw[Ah h49]
      refine AL ?_;refine Am ?_;exact⟨rfl,_,by simp,AJ⟩
 rintro n2 hb2;clear hchk2 cf2 q1 q2 e10 e11 hsz;have hpN:Cr Nn=true:=by
  cases h:Cr Nn
  ·rw[h]at hb1;simp at hb1
  ·rfl
 have hpD:hv=true->Cr Dn=true:=λh0=>by
  cases h:Cr Dn
  ·rw[h,h0]at hb2;simp at hb2
  ·rfl
 rw[hb1,hb2]at edef;rw[AG (by decide)]at edef;have wl1:IntKind.i64.wrap ((Sn.length:Int)-(k:Int))=(Sn.length:Int)-(k:Int):=wI (by omega) (by omega);have wl2:IntKind.i64.wrap ((Sn.length:Int)-(k:Int)-1)=(Sn.length:Int)-(k:Int)-1:=wI (by omega) (by omega);have e91:decide ((Sn.length:Int)-(k:Int)-1>600)=decide (600<Dn.length):=C4.2 (by omega);refine Ck (α:=Nat) (λn=>⟨[(3,str (sb Sn)),(4,i64 (k:Int))],[],n⟩) (λ_=>Nn.length<=600/\Dn.length<=600) ?_ ?_
 ·by_cases g1:600<k
  ·have e9:decide ((k:Int)>600)=true:=AY (by omega)
   rw[AH (.inl (by omega))]at edef;refine sZ 900 ?_;refine AU e9 ?_;refine AE kT ?_;refine AL ?_;refine sR 1000 ?_;refine Af ?_;exact AQ (by rw[edef];rfl) AA.out
  ·have e9:decide ((k:Int)>600)=false:=Ah (by omega)
   refine sZ 900 ?_;refine AU e9 ?_;refine AE (Cv kF hszS wl1 wl2 e91) ?_
   by_cases g2:600<Dn.length
   ·rw[AH (.inr g2)]at edef
    rw[AY g2];refine AL ?_;refine sR 1000 ?_;refine Af ?_;exact AQ (by rw[edef];rfl) AA.out
   ·rw[Ah g2]
    refine AL ?_;refine Am ?_;exact⟨rfl,_,⟨by omega,by omega⟩,AJ⟩
 rintro n3 ⟨g1,g2⟩;rw[AG (by omega)]at edef;clear e91 wl1 wl2 hb1 hb2;obtain⟨-,dN⟩:=JU hpN;refine Ck (α:=Nat) (λn=>⟨[],[],n⟩) (λ_=>KnV=0) ?_ ?_
 ·cases hv
  ·have e40:decide ((k:Int)<(Sn.length:Int))=false:=Ah (by have:=DA hhs.symm;omega)
   rw[AG (by simp)]at edef;refine sZ 1100 ?_;refine AU (Ae hszS e40) ?_;refine AL ?_;refine Am ?_;exact⟨rfl,_,edef,AJ⟩
  ·have hkl:=C3 hhs.symm
   have e40:decide ((k:Int)<(Sn.length:Int))=true:=AY (by omega);obtain⟨-,dD⟩:=JU (hpD rfl);have pa:=pp (by rw[JP dN];exact dN) (by rw[JP dD];exact dD);rw[AH rfl,Lt dN,Lt dD]at pa;have lN:(AX (dv Nn)).length<1000000:=DJ (KR (CM (Fk Nn dN) (MU (by decide) Nn.length))) (by omega);have lD:(AX (dv Dn)).length<1000000:=DJ (KR (CM (Fk Dn dD) (MU (by decide) Dn.length))) (by omega);have cg:AK C0 175 [rD ((dv Nn:Int)).natAbs,rD ((dv Dn:Int)).natAbs] (.sl false 1 ((AX (Nat.gcd (dv Nn) (dv Dn))).map AZ)):=WE (dv Nn) (dv Dn) lN lD;have ht:=WV (Nat.gcd (dv Nn) (dv Dn));have ed1:Nat.gcd (dv Nn) (dv Dn)≠1->KnV=1:=λh=>by rw[AH ⟨rfl,h⟩]at edef;exact edef
   have ed0:Nat.gcd (dv Nn) (dv Dn)=1->KnV=0:=λh=>by rw[AG (λhh=>hh.2 h)]at edef;exact edef
   clear edef;generalize Nat.gcd (dv Nn) (dv Dn)=gg at*;refine sZ 1100 ?_;refine AU (Ae hszS e40) ?_;refine AL ?_;refine sR 1200 ?_;refine cI pa ?_;refine sR 1300 ?_;refine cI cg ?_;rcases ht with⟨t1,a,ha,t2⟩|⟨t1,t2⟩
   ·have ha':=DY ha
    have t1n:((((AX gg).map AZ).length:Int) != 1)=false:=by unfold bne;rw[t1];rfl
    have t2n:((a:Int) != 1) = !decide (gg=1):=by unfold bne;rw[t2]
    refine sZ 1400 ?_;refine AU t1n ?_;refine AE kF ?_;refine Bo kF ha' ?_;refine AE (Ae kF t2n) ?_
    by_cases hg1:gg=1
    ·rw[AY hg1]
     refine AL ?_;refine Am ?_;exact⟨rfl,_,ed0 hg1,AJ⟩
    ·rw[Ah hg1]
     refine AL ?_;refine sR 1500 ?_;refine Af ?_;exact AQ (by rw[ed1 hg1];rfl) AA.out
   ·have edf:=ed1 t2
    have t1n:((((AX gg).map AZ).length:Int) != 1)=true:=by unfold bne;rw[t1];rfl
    refine sZ 1400 ?_;refine AU t1n ?_;refine AE kT ?_;refine AL ?_;refine sR 1500 ?_;refine Af ?_;exact AQ (by rw[edf];rfl) AA.out
 rintro n4 h0;refine sR 1600 ?_;refine Af ?_;exact AQ (by rw[h0];rfl) AA.out
theorem jG {n k:Nat}(hn:n≠0)(hk:k<10):Lib.decDigits (n*10+k)=Lib.decDigits n++[UInt8.ofNat (48+k)]:=by
 rw[Lib.decDigits,dif_neg (by omega)]
 congr 2
 ·omega
 ·congr 2;omega
theorem Vw {c:UInt8}(h:BZ c=true):UInt8.ofNat (48+(c.toNat-48))=c:=by
 obtain⟨h1,h2⟩:=KV h;rw[<-UInt8.toNat_inj,PA _ (by omega)];omega
theorem jn (l:List UInt8)(c:UInt8):dv (l++[c])=dv l*10+(c.toNat-48):=by
 rw[Mz];simp[dv,GR]
theorem nH:∀(n:Nat) (l:List UInt8),l.length=n->l≠[]->l.all BZ=true->l.head? ≠ some 48->dv l≠0/\Lib.decDigits (dv l)=l:=λn=>by
 induction n with
 |zero=>intro l h0 h1;exact Aj (ER h0) h1
 |succ n ih=>
  intro l h0 h1 h2 h3;rcases Qn l with rfl|⟨m,c,rfl⟩
  ·exact Aj rfl h1
  ·rw[Ql]at h0 h1 h2 h3⊢
   rw[LC,BY]at h2;have hc:BZ c=true:=by simpa using h2.2
   obtain⟨c1,c2⟩:=KV hc;rw[jn]
   by_cases hm:m=[]
   ·subst hm
    have hc48:c≠48:=λh=>h3 (by rw[h];rfl)
    have hcn:c.toNat≠48:=λh=>hc48 (UInt8.toNat_inj.1 h)
    have e0:dv []*10+(c.toNat-48)=c.toNat-48:=by simp[dv,GR]
    rw[e0];refine⟨by omega,?_⟩;rw[Lib.decDigits,dif_pos (by omega),Vw hc];rfl
   ·have hh:m.head? ≠ some 48:=by
     cases m with
     |nil=>exact Aj rfl hm
     |cons a m=>exact h3
    obtain⟨i1,i2⟩:=ih m (by rw[Bf,F5]at h0;omega) hm h2.1 hh;refine⟨by omega,?_⟩;rw[jG i1 (by omega),i2,Vw hc]
theorem Rb {l:List UInt8}(h:Cr l=true):Lib.decDigits (dv l)=l/\(l≠[48]->dv l≠0):=by
 obtain⟨h1,h2⟩:=JU h
 by_cases h0:l=[48]
 ·subst h0
  refine⟨?_,λhh=>Aj rfl hh⟩;show Lib.decDigits 0=[48];rw[Lib.decDigits,dif_pos (by decide)];rfl
 ·have h3:l.head? ≠ some 48:=by
   unfold Cr at h;rw[BY,Ah h0,Bool.false_or]at h
   have:=h.2
   simpa using this
  obtain⟨a,b⟩:=nH _ l rfl h1 h2 h3;exact⟨b,λ_=>a⟩
theorem WH:∀ {l:List UInt8},BG l<l.length->l.drop (BG l)=47::l.drop (BG l+1)
 | [],h=>by cases h
 |c::l,h=>by
  by_cases hc:c=47
  ·subst hc;rfl
  ·have e1:BG (c::l)=BG l+1:=by
    unfold BG;rw[OM,AH (by simpa using hc),Bl]
   rw[e1,Bl]at h;rw[e1,Qr,Qr];exact WH (by omega)
def GK (l:List UInt8):Nat:=if Ce l then dv (BU l)else 1
def CF (l:List UInt8):Rat:=mkRat (rv (Bv l)) (GK l)
theorem fv {n:Int}{d:Nat}(hd:d≠0)(h:Nat.gcd n.natAbs d=1):(mkRat n d).num=n/\(mkRat n d).den=d:=by
 obtain⟨q1,q2⟩:=Rz (x:=n) hd;rw[h,Nat.div_one]at q1 q2;rw[QC]at q1;exact⟨q1,q2⟩
theorem O9 {l:List UInt8}(h:CP l=0):Im l=false/\(Bx l).length<=600/\(BU l).length<=600/\(Ce l=true->Nat.gcd (dv (Bx l)) (dv (BU l))=1):=by
 unfold CP at h;cases hb:Im l
 ·rw[hb,AG (by decide)]at h
  split at h
  ·cases h
  ·rename_i h1
   split at h
   ·cases h
   ·rename_i h2
    refine⟨rfl,by omega,by omega,λh3=>?_⟩;rcases Nat.decEq (Nat.gcd (dv (Bx l)) (dv (BU l))) 1 with h4|h4
    ·exact Aj ⟨h3,h4⟩ h2
    ·exact h4
 ·rw[hb,AH rfl]at h;cases h
theorem My {l:List UInt8}(h:CP l=0):(CF l).num=rv (Bv l)/\(CF l).den=GK l/\BM (CF l)=l/\(rv (Bv l)).natAbs=dv (Bx l):=by
 obtain⟨h1,h2,h3,h4⟩:=O9 h;rw[Og]at h1;simp only[JF]at h1;obtain⟨⟨b1,b2⟩,b3⟩:=h1;have p1:Cr (Bx l)=true:=by simpa using b1
 obtain⟨d1,d2⟩:=Rb p1;have hab:(rv (Bv l)).natAbs=dv (Bx l):=by
  show(rv (Bv l)).natAbs=dv (Bi (Bv l));unfold rv;split<;>omega
 have hdd:Ce l=true->Cr (BU l)=true/\BU l≠[48]/\BU l≠[49]:=λhs=>by
  rw[hs,IZ]at b3;simp only[JF]at b3;exact⟨by simpa using b3.1.1,DA b3.1.2,DA b3.2⟩
 have hd0:GK l≠0:=by
  unfold GK;cases hs:Ce l
  ·simp
  ·obtain⟨e1,e2,e3⟩:=hdd hs
   simpa using(Rb e1).2 e2
 have hg:Nat.gcd (rv (Bv l)).natAbs (GK l)=1:=by
  rw[hab];unfold GK;cases hs:Ce l
  ·simp
  ·simpa using h4 hs
 obtain⟨m1,m2⟩:=fv hd0 hg;refine⟨m1,m2,?_,hab⟩;have hi:Lib.itoa (rv (Bv l))=Bv l:=by
  cases hb:C8 (Bv l)
  ·have e1:Bx l=Bv l:=by unfold Bx Bi;rw[hb];rfl
   rw[e1]at d1;have e2:rv (Bv l)=(dv (Bv l):Int):=by unfold rv Bi;rw[hb];rfl
   rw[e2];unfold Lib.itoa;rw[AG (by omega)];exact d1
  ·obtain⟨m,hm⟩:∃m,Bv l=45::m:=by
    cases hn:Bv l with
    |nil=>rw[hn]at hb;cases hb
    |cons c m=>
     rw[hn]at hb;exact⟨m,by rw[show c=45 by simpa[C8]using hb]⟩
   have e1:Bx l=m:=by unfold Bx;rw[hm];rfl
   have hne:Bx l≠[48]:=λh=>by
    have:=(RJ l).2.2.2
    rw[b2,hm]at this;have h2:=DA this;rw[e1]at h;exact h2 (by rw[h])
   have hpos:=d2 hne;rw[e1]at d1 hpos;have e2:rv (Bv l) = -(dv m:Int):=by rw[hm];rfl
   rw[e2];unfold Lib.itoa;rw[AH (by omega),LD,EA,d1,hm]
 unfold BM;rw[show(CF l).num=rv (Bv l)from m1,show(CF l).den=GK l from m2,hi];have hle:=KY l;cases hs:Ce l
 ·have e1:GK l=1:=by unfold GK;rw[hs];rfl
  have e2:=DA (p:=BG l<l.length) hs;rw[AH e1];unfold Bv;exact B4 (by omega)
 ·obtain⟨e1,e2,e3⟩:=hdd hs
  have e4:GK l=dv (BU l):=by unfold GK;rw[hs];rfl
  have e5:=(Rb e1).1;have e6:dv (BU l)≠1:=λh=>by
   rw[h,Lib.decDigits,dif_pos (by decide)]at e5;exact e3 e5.symm
  rw[e4,AG e6,e5];unfold Bv BU;rw[<-WH (C3 hs),Ei]
theorem Oc {l:List UInt8}(h:CP l=0):(Bx l).all BZ=true/\(Ce l=true->(BU l).all BZ=true):=by
 obtain⟨h1,-,-,-⟩:=O9 h;rw[Og]at h1;simp only[JF]at h1;obtain⟨⟨b1,-⟩,b3⟩:=h1;refine⟨(JU (by simpa using b1)).2,λhs=>?_⟩;rw[hs,IZ]at b3;simp only[JF]at b3;exact(JU (by simpa using b3.1.1)).2
theorem Lq {l:List UInt8}(h:CP l=0):rk (CF l) 600:=by
 obtain⟨m1,m2,-,m4⟩:=My h;obtain⟨-,h2,h3,-⟩:=O9 h;obtain⟨p1,p2⟩:=Oc h;have hb:∀k,(10:Nat)^k<=BB^k:=λk=>MU (by decide) k
 refine⟨?_,?_⟩
 ·rw[m1,m4]
  exact BQ (GU (CM (Fk _ p1) (hb _))) h2
 ·rw[m2]
  unfold GK;cases hs:Ce l
  ·exact BQ (GU (n:=1) (k:=1) (by decide)) (by decide)
  ·exact BQ (GU (CM (Fk _ (p2 hs)) (hb _))) h3
theorem P0 {l:List UInt8}(h:CP l=0):FR (CF l) (Fl l) 600:=by
 obtain⟨m1,m2,-,-⟩:=My h;refine⟨⟨CT _,?_,?_⟩,Lq h⟩
 ·show(AW (rv (Bv l))).z=_
  rw[DX,m1]
 ·show(if Ce l then dv (BU l)else 1)=_
  rw[m2];rfl
theorem Pr {l:List UInt8}(hl:l.length<=100000)(h:CP l=0):AK C0 103 [str (sb l)] (Fl l).D:=ju l hl (Oc h).1 (Oc h).2
end Go.Ide
