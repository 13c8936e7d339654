/- The layer of own lemmas and contracts, part 8. -/
import Derived.Test.YteeceibhhdapaaaGreatDoorP7
set_option linter.unusedVariables false
set_option linter.unusedSimpArgs false
namespace Go.Ide
open Go.Proofs Go.RowKit
set_option maxRecDepth 20000
def Cc (b:Nat):Bool:=((decide (97<=b)&&decide (b<=122))||(decide (65<=b)&&decide (b<=90)))||(decide (48<=b)&&decide (b<=57))||b==45||b==95||b==46
def DO (l:List UInt8):Bool:=l.all (λb=>Cc b.toNat)&&(decide (1<=l.length)&&decide (l.length<=24))
theorem bA (s:ByteArray)(p:Nat)(hp:p<s.size):s.data.toList[p]?=some (s.get! p):=by
 have hp':p<s.data.size:=hp;rw[J7,Ba hp']
 congr 1
 show _=s.data[p]!;rw[getElem!_pos s.data p hp']
theorem Wv (s:ByteArray)(p:Nat)(h:(s.get! p).toNat<128):Utf8.decode s p=((s.get! p).toNat,1):=by
 unfold Utf8.decode;exact AH h
theorem jK (s:ByteArray)(p:Nat)(h:¬(s.get! p).toNat<128):128<=(Utf8.decode s p).1:=by
 unfold Utf8.decode;dsimp only;simp only[DL];rw[AE h];have hv:128<=Utf8.runeError:=by decide
 repeat' split
 all_goals first|exact hv|(rename_i h1;simp only[ge_iff_le,BX,Gs]at h1;dsimp only;omega)
theorem fo (s:ByteArray):AI C0 56 [str s] (Aq (DO s.data.toList)):=by
 refine Ah.walk w1 aY rfl λB=>?_
 have hsz:s.data.toList.length=s.size:=HP;refine fR 0 ?_;refine AC.seq ?_;refine AC.seq ?_;refine uw w1 100 [0] 1 rfl (by kernel_rfl) rfl ?_;refine B7 ?_;intro F hF;refine At ?_;refine AC.block ?_;refine FY (α:=Nat×Nat) (λp=>⟨[(0,str s),(7,.optr 101 2 0 0 0)],[],p.2⟩) (λp=>s.size-p.1) (λp F=>Lq C0 B F 101 2 s p.1/\p.1<=s.size/\(s.data.toList.take p.1).all (λb=>Cc b.toNat)=true) (0,3) ⟨hF,BT _,rfl⟩ AL ?_;rintro⟨p,n⟩ F ⟨hIt,hp,hall⟩;dsimp only at hIt hp hall⊢;refine AC.seq ?_;refine uv w1 200 0 [1] rfl (by kernel_rfl) s p ?_;refine And.intro hIt (And.intro (λhlt F hIt=>?_) (λhge=>?_))
 ·refine B7 ?_
  generalize hc:(Utf8.decode s p).1=c;refine AC.seq ?_;refine AJ ?_;refine Ak ?_;refine AC.block ?_;refine fR 300 ?_;refine FF ⟨[(0,str s),(7,.optr 101 2 0 0 0),(4,.prim (.int .i32 c)),(5,Aq ((decide ((c:Int)>=97)&&decide ((c:Int)<=122))||(decide ((c:Int)>=65)&&decide ((c:Int)<=90))))],[],n+30⟩ (Am w1 400 (by kernel_rfl) ?_) ?_
  ·repeat'(first|(refine And.intro (by exact B4) ?_;refine At ?_)|((refine Bq (λhb=>?_) (λhb=>?_))<;>(try simp only[Bd,Bn]at hb)<;>(try simp only[hb])<;>(refine At ?_)))
   all_goals exact AL
  generalize hL:((decide ((c:Int)>=97)&&decide ((c:Int)<=122))||(decide ((c:Int)>=65)&&decide ((c:Int)<=90)))=L;refine FF ⟨[(0,str s),(7,.optr 101 2 0 0 0),(47,Aq ((((!L && !(decide ((c:Int)>=48)&&decide ((c:Int)<=57)))&&((c:Int) != 45))&&((c:Int) != 95))&&((c:Int) != 46)))],[],n+60⟩ (Am w1 500 (by kernel_rfl) ?_) ?_
  ·repeat'(first|(refine And.intro (by exact B4) ?_;refine At ?_)|((refine Bq (λhb=>?_) (λhb=>?_))<;>(try simp only[Bd,Bn]at hb)<;>(try simp only[hb])<;>(refine At ?_)))
   all_goals exact AL
  have hbad:((((!L && !(decide ((c:Int)>=48)&&decide ((c:Int)<=57)))&&((c:Int) != 45))&&((c:Int) != 95))&&((c:Int) != 46)) = !(Cc c):=by
   subst hL;rw[F7];simp only[Cc,BX,Bd,JC,Bool.and_eq_false_iff,KG,bne_iff_ne,ne_eq,B3];omega
  rw[hbad];refine AJ ?_
  (refine Bq (λhb=>?_) (λhb=>?_))<;>(try simp only[Bd,Bn]at hb)<;>(try simp only[hb])
  ·have hbf:Cc c=false:=by simpa using hb
   refine fR 600 ?_;refine Ab ?_;refine AO ?_ AA.out;have hb8:Cc (s.get! p).toNat=false:=by
    by_cases hlow:(s.get! p).toNat<128
    ·rw[Wv s p hlow]at hc
     rw[show(s.get! p).toNat=c from hc];exact hbf
    ·unfold Cc;simp;omega
   have:DO s.data.toList=false:=by
    unfold DO
    have:s.data.toList.all (λb=>Cc b.toNat)=false:=by
     rw[List.all_eq_false];exact⟨_,BA (bA s p hlt),by rw[hb8];simp⟩
    rw[this];rfl
   rw[this]
  ·have hbt:Cc c=true:=by simpa using hb
   have hclt:c<128:=by
    unfold Cc at hbt;simp only[Me,BX,Gs,Dp]at hbt;omega
   have hlow:(s.get! p).toNat<128:=by
    apply Cq;intro h
    have:=jK s p h
    omega
   rw[Wv s p hlow]at hc hIt;refine Ak ?_;refine⟨(p+1,n+60),⟨hIt,hlt,?_⟩,by dsimp only;omega,AL⟩;rw[Dx,bA s p hlt,LF,hall];simp;rw[show(s.get! p).toNat=c from hc];exact hbt
 ·have hpe:p=s.size:=by omega
  refine B7 ?_;refine AC.seq ?_;refine AJ ?_;refine B6 ?_;refine FF ⟨[(2,Aq (decide (1<=(s.size:Int))&&decide ((s.size:Int)<=24)))],[],n+60⟩ (Am w1 700 (by kernel_rfl) ?_) ?_
  ·repeat'(first|(refine And.intro (by exact B4) ?_;refine At ?_)|((refine Bq (λhb=>?_) (λhb=>?_))<;>(try simp only[Bd,Bn]at hb)<;>(try simp only[hb])<;>(refine At ?_)))
   all_goals exact AL
  refine Ab ?_;refine AO ?_ AA.out;have hall':s.data.toList.all (λb=>Cc b.toNat)=true:=by rw[<-hall,hpe,<-hsz,DG]
  unfold DO;rw[hall',IU,hsz];have e:(decide (1<=(s.size:Int))&&decide ((s.size:Int)<=24))=(decide (1<=s.size)&&decide (s.size<=24)):=by
   rw[F7];simp only[BX,Gs];omega
  rw[<-e]
def TY:Value->Value->Bool
 | .int .i64 a,.int .i64 b=>a==b
 | .string a,.string b=>a.data.toList==b.data.toList
 | .bool a,.bool b=>a==b
 | .slice none 0 0,.slice none 0 0=>true
 |_,_=>false
theorem iV {a b:Value}(h:TY a b=true):a=b:=by
 unfold TY at h;split at h
 ·rw[eq_of_beq h]
 ·rename_i a b
  have:=eq_of_beq h
  congr 1
  exact ByteArray.ext (Array.toList_inj.1 this)
 ·rw[eq_of_beq h]
 ·rfl
 ·cases h
def KK (f:D->D->Bool):List D->List D->Bool
 | [],[]=>true
 |a::l,b::m=>f a b&&KK f l m
 |_,_=>false
theorem Py {f:D->D->Bool}(hf:∀a b,f a b=true->a=b):∀ {l m:List D},KK f l m=true->l=m
 | [],[],_=>rfl
 |a::l,b::m,h=>by
  simp only[KK,BX]at h;rw[hf a b h.1,Py hf h.2]
 | [],_::_,h=>by simp[KK]at h
 |_::_,[],h=>by simp[KK]at h
def Mf:Nat->D->D->Bool
 | 0,_,_=>false
 |n+1,a,b=>match a,b with
  | .prim a,.prim b=>TY a b
  | .agg l,.agg m=>KK (Mf n) l m
  | .sl x y l,.sl x' y' m=>(x==x')&&Nat.beq y y'&&KK (Mf n) l m
  |_,_=>false
theorem Sk:∀(n:Nat) (a b:D),Mf n a b=true->a=b
 | 0,_,_,h=>by simp[Mf]at h
 |n+1,a,b,h=>by
  unfold Mf at h;split at h
  ·rw[iV h]
  ·rw[Py (Sk n) h]
  ·simp only[BX]at h
   rw[eq_of_beq h.1.1,By h.1.2,Py (Sk n) h.2]
  ·cases h
def vX:Nat->Nat->List UInt8
 | 0,_=>[]
 |k+1,u=>match Nat.blt u 10 with
  |true=>[UInt8.ofNat (48+u)]
  |false=>vX k (u/10)++[UInt8.ofNat (48+u%10)]
def Q5 (t:Nat)(name:String):Option Nat:=match Nat.beq t 141 with
 |true=>match decide (name = "Cmp")with
  |true=>some 232
  |false=>none
 |false=>none
theorem Y9 (t:Nat)(name:String)(f:Nat)(h:Q5 t name=some f)(v:Value)(w:World):(method (C0.P.types.size+Made.depth) t v name).run C0.P w=.ok (f,v) w:=by
 unfold Q5 at h;split at h<;>try(cases h;done)
 rename_i ht;split at h<;>try(cases h;done)
 rename_i hn;obtain rfl:=By ht;obtain rfl:=Cw hn;cases h
 kernel_rfl
def uQ:Ax:=⟨.arr 256 1 false,256,256,true,.agg (Array.replicate 256 (.bool false))⟩
noncomputable def Oa (t:Nat):Option Ax:=match Nat.beq t 323 with
 |true=>some uQ
 |false=>OY.get t
theorem T1:CX C0.P Oa:=λt i h=>by
 unfold Oa at h;split at h
 ·rename_i ht
  obtain rfl:=By ht;cases h
  kernel_rfl
 ·exact ba t i h
set_option maxHeartbeats 2000000
def BY (c:UInt8):Bool:=Nat.ble 48 c.toNat&&Nat.ble c.toNat 57
def Gj:D:=.agg ((List.range 256).map λi=>Aq (Nat.ble 48 i&&Nat.ble i 57))
abbrev RC:List UInt8:=[48,49,50,51,52,53,54,55,56,57]
noncomputable def X4:EV:=⟨Oa,LN.get,Mg.get,λ_=>false,λ_ _=>none,λ_ _=>none,Jz⟩
theorem To:Et C0 X4:=⟨T1,Qa,JI,λ_ _ _ h=>by simp[X4]at h,by kernel_rfl,λ_ _ _ h=>by simp[X4]at h,Pq⟩
theorem w4:C6 C0 X4:=To.w
theorem fE:AI C0 310 [str (sb RC)] (.tup [Gj,Aq true]):=CA To 1000 40 (by kernel_rfl)
def Ty (o:Option D)(b:Bool):Bool:=match o with
 |some (.prim (.bool c))=>c==b
 |_=>false
theorem gU {o:Option D}{b:Bool}(h:Ty o b=true):o=some (Aq b):=by
 unfold Ty at h;split at h
 ·rw[Dp]at h;subst h;rfl
 ·cases h
theorem bx:((List.range 256).all λc=>Ty ((F8 X4 1000 40).1 319 [.pptr Gj,.prim (.int .u8 (c:Nat))]) (Nat.ble 48 c&&Nat.ble c 57))=true:=by kernel_rfl
theorem Uf (c:UInt8):AI C0 319 [.pptr Gj,.prim (.int .u8 (c.toNat:Nat))] (Aq (BY c)):=by
 refine CA To 1000 40 ?_;have h:=CI.1 bx c.toNat (List.mem_range.2 c.toNat_lt);exact gU h
instance:Aj Gj:=⟨λc hc=>by
 change c∈(List.range 256).map (λi=>Aq (Nat.ble 48 i&&Nat.ble i 57))at hc;obtain⟨i,_,rfl⟩:=List.mem_map.1 hc;exact .prim _⟩
def Ft (l:List UInt8):List UInt8:=(l.reverse.dropWhile BY).reverse
theorem du (m:List UInt8)(c:UInt8):Ft (m++[c])=if BY c then Ft m else m++[c]:=by
 unfold Ft;rw[List.reverse_append,List.reverse_singleton,List.singleton_append,MW];split
 ·rfl
 ·rw[List.reverse_cons,List.reverse_reverse]
theorem jR (l:List UInt8):((Ft l).dropWhile BY=[])↔l.all BY=true:=by
 constructor
 ·intro h
  have h1:∀m:List UInt8,m.dropWhile BY=[]->m.all BY=true:=λm=>by
   induction m with
   |nil=>intro _;rfl
   |cons c m ih=>
    intro hm;rw[MW]at hm;split at hm
    ·rename_i hc
     rw[F5,hc,ih hm];rfl
    ·cases hm
  have h2:(l.reverse.dropWhile BY).all BY=true:=by
   have:=h1 _ h
   unfold Ft at this
   rwa [List.all_reverse]at this
  have h3:∀m:List UInt8,(m.dropWhile BY).all BY=true->m.all BY=true:=λm=>by
   induction m with
   |nil=>intro _;rfl
   |cons c m ih=>
    intro hm;rw[MW]at hm;split at hm
    ·rename_i hc
     rw[F5,hc,ih hm];rfl
    ·exact hm
  have:=h3 _ h2
  rwa [List.all_reverse]at this
 ·intro h
  have h1:∀m:List UInt8,m.all BY=true->m.dropWhile BY=[]:=λm=>by
   induction m with
   |nil=>intro _;rfl
   |cons c m ih=>
    intro hm;rw[F5,BX]at hm;rw[MW,AH hm.1];exact ih hm.2
  have hx:=h1 l.reverse (by rw[List.all_reverse];exact h);unfold Ft;rw[hx];rfl
theorem dT (l:List UInt8)(hl:l.length<=1000000000):AI C0 311 [str (sb l),.pptr Gj] (str (sb (l.dropWhile BY))):=by
 refine Ah.walk w1 Zj rfl λF=>?_
 have hps:Aj Gj:=AG;have hcc:=Uf;generalize Gj=sd at*;refine sR 0 ?_;refine AC.seq ?_;refine AC.block ?_;refine AC.loop (α:=List UInt8×Nat) (λp=>⟨[(0,str (sb p.1)),(1,.pptr sd)],[],p.2⟩) (λp=>p.1.length) (λp=>p.1.dropWhile BY=l.dropWhile BY/\p.1.length<=l.length) (l,_) ⟨rfl,Ae _⟩ AL ?_;rintro⟨m,n⟩ F ⟨h1,h2⟩;dsimp only at h1 h2⊢;refine AC.seq ?_;refine AC.seq ?_;cases m with
 |nil=>
  have e1:decide (((sb []).size:Int)>0)=false:=rfl;refine Am w1 100 (by kernel_rfl) ?_;refine AT e1 ?_;refine AJ ?_;refine B6 ?_;refine sR 400 ?_;refine Ab ?_;exact AO (by rw[<-h1];rfl) AA.out
 |cons c m=>
  have hsz:=CL (c::m);have e1:decide (((sb (c::m)).size:Int)>0)=true:=AZ (by rw[hsz,Bk];omega);have hx:(((sb (c::m)).data.toList.getD ((0:Int)).toNat 0).toNat:Int)=(c.toNat:Int):=rfl;have b1:(0:Int)<((sb (c::m)).size:Int):=by rw[hsz,Bk];omega
  have b2:(1:Int)<=((sb (c::m)).size:Int):=by omega
  have e3:(sb (c::m)).extract ((1:Int)).toNat (sb (c::m)).size=sb m:=by
   rw[D9,hsz,B1 (Ae _)];rfl
  have cc:=hcc c;refine Am w1 100 (by kernel_rfl) ?_;refine AT e1 ?_;refine AJ ?_;refine Ak ?_;refine AC.block ?_;refine AC.seq ?_;refine sZ 200 ?_;refine AT hx ?_;refine cI cc ?_;rcases hb:BY c with _|_
  ·refine AJ ?_
   refine B6 ?_;refine sR 400 ?_;refine Ab ?_;refine AO ?_ AA.out;rw[<-h1,MW,AE (by rw[hb];simp)]
  ·refine AJ ?_
   refine Ak ?_;refine Am w1 300 (by kernel_rfl) ?_;refine AT e3 ?_;refine⟨(m,_),⟨?_,?_⟩,?_,AL⟩
   ·rw[<-h1,MW,AH hb]
   ·rw[Bk]at h2;dsimp only;omega
   ·show m.length<m.length+1;omega
theorem dG (l:List UInt8)(hl:l.length<=1000000000):AI C0 312 [str (sb l),.pptr Gj] (str (sb (Ft l))):=by
 refine Ah.walk w1 Zk rfl λF=>?_
 have hps:Aj Gj:=AG;have hcc:=Uf;generalize Gj=sd at*;refine sR 0 ?_;refine AC.seq ?_;refine AC.block ?_;refine AC.loop (α:=List UInt8×Nat) (λp=>⟨[(0,str (sb p.1)),(1,.pptr sd)],[],p.2⟩) (λp=>p.1.length) (λp=>Ft p.1=Ft l/\p.1.length<=l.length) (l,_) ⟨rfl,Ae _⟩ AL ?_;rintro⟨m,n⟩ F ⟨h1,h2⟩;dsimp only at h1 h2⊢;refine AC.seq ?_;refine AC.seq ?_;rcases Q1 m with rfl|⟨m,c,rfl⟩
 ·have e1:decide (((sb []).size:Int)>0)=false:=rfl
  refine Am w1 100 (by kernel_rfl) ?_;refine AT e1 ?_;refine AJ ?_;refine B6 ?_;refine sR 400 ?_;refine Ab ?_;exact AO (by rw[<-h1];rfl) AA.out
 ·rw[Q0]at h1 h2⊢
  have hsz:=CL (m++[c]);rw[Bo,GM]at hsz h2;have e1:decide (((sb (m++[c])).size:Int)>0)=true:=AZ (by rw[hsz];omega);have wk1:IntKind.i64.wrap (((sb (m++[c])).size:Int)-1)=(m.length:Int):=by rw[hsz,wI (by omega) (by omega)];omega
  have hx:(((sb (m++[c])).data.toList.getD (((m.length:Nat):Int)).toNat 0).toNat:Int)=(c.toNat:Int):=by
   show(((m++[c]).getD m.length 0).toNat:Int)=_;simp
  have b1:((m.length:Nat):Int)<((sb (m++[c])).size:Int):=by rw[hsz];omega
  have e3:(sb (m++[c])).extract 0 (((m.length:Nat):Int)).toNat=sb m:=by
   rw[D9];simp
  have cc:=hcc c;have ht:=du m c;refine Am w1 100 (by kernel_rfl) ?_;refine AT e1 ?_;refine AJ ?_;refine Ak ?_;refine AC.block ?_;refine AC.seq ?_;refine sZ 200 ?_;refine AT (Ac wk1 hx) ?_;refine cI cc ?_;rcases hb:BY c with _|_
  ·rw[AE (by rw[hb];simp)]at ht
   refine AJ ?_;refine B6 ?_;refine sR 400 ?_;refine Ab ?_;exact AO (by rw[<-h1,ht]) AA.out
  ·rw[AH hb]at ht
   refine AJ ?_;refine Ak ?_;refine Am w1 300 (by kernel_rfl) ?_;refine AT (Ac wk1 e3) ?_;refine⟨(m,_),⟨by rw[<-h1,ht],by dsimp only;omega⟩,?_,AL⟩;dsimp only;rw[Bo,GM];omega
namespace TrimW
theorem w1:C6 C0 X4:=w4
theorem trim_ok (l:List UInt8)(hl:l.length<=1000000000):AI C0 296 [str (sb l),str (sb RC)] (str (sb ((Ft l).dropWhile BY))):=by
 refine Ah.walk w1 Zi rfl λF=>?_
 have cm:=fE;have c1:=dG l hl;have hlr:(Ft l).length<=1000000000:=by
  unfold Ft;rw[List.length_reverse];exact BO (List.dropWhile_sublist _).length_le (by rw[List.length_reverse];exact hl)
 have c2:=dT (Ft l) hlr;have hps:Aj Gj:=AG;have eS:=EQ l [];have e2:(((sb RC).size:Int)==1)=false:=rfl;have e4:Bb (sb RC) (sb [])=false:=by rw[EQ];exact Ag (by simp)
 have hfit:Bj true 256 Gj:=by
  have h:((List.range 256).map λi=>Aq (Nat.ble 48 i&&Nat.ble i 57)).length=256:=by rw[Ap,List.length_range]
  have:=Bj.agg (ds:=(List.range 256).map λi=>Aq (Nat.ble 48 i&&Nat.ble i 57))
  rw[h]at this;exact this
 refine sR 0 ?_
 by_cases h0:l=[]
 ·subst h0
  have eS':Bb (sb []) (sb [])=true:=by rw[EQ];exact AZ rfl
  refine AC.seq ?_;refine sZ 100 ?_;refine AT eS' ?_;refine AD (Ac eS' kT) ?_;refine AJ ?_;refine sR 200 ?_;refine Ab ?_;exact AO rfl AA.out
 ·rw[Ag h0]at eS
  refine AC.seq ?_;refine sZ 100 ?_;refine AT eS ?_;refine AD (Au eS e4 kF) ?_;refine AD (Au eS e4 kF) ?_;refine AJ ?_;refine Ak ?_;refine AC.seq ?_;refine sZ 300 ?_;refine AT e2 ?_;refine AD e2 ?_;refine AD e2 ?_;refine AJ ?_;refine Ak ?_;refine AC.seq ?_;refine sR 500 ?_;refine Az.same _ cm AG ?_;refine At ?_;generalize Gj=sd at*
  repeat(refine Dt rfl rfl ?_;refine Hd (λ_ _=>rfl) ?_)
  refine Mu (And.intro (by repeat'(first|exact hfit|refine And.intro ?_ ?_|exact B4)) ?_);refine At ?_;refine sR 600 ?_;refine AJ ?_;refine sR 700 ?_;refine Az.own _ (LB c1 rfl ?_ AG (I7.prim _)) ?_
  ·intro i x y hx hy
   match i with
   | 0=>simp at hx hy;subst hx;subst hy;exact DD.refl _ _
   | 1=>simp at hx hy;subst hx;subst hy;exact DD.ptr rfl rfl rfl rfl
   |i+2=>simp at hx
  rintro d H' n' ⟨rfl,rfl,rfl⟩;refine BK ?_;refine Az.own _ (LB c2 rfl ?_ AG (I7.prim _)) ?_
  ·intro i x y hx hy
   match i with
   | 0=>simp at hx hy;subst hx;subst hy;exact DD.refl _ _
   | 1=>simp at hx hy;subst hx;subst hy;exact DD.ptr rfl rfl rfl rfl
   |i+2=>simp at hx
  rintro d H' n' ⟨rfl,rfl,rfl⟩;refine BK ?_;refine Ab ?_;exact AO rfl AA.out
end TrimW
def GR (a:Nat)(l:List UInt8):Nat:=l.foldl (λa c=>a*10+(c.toNat-48)) a
def dv (l:List UInt8):Nat:=GR 0 l
theorem X7 (l:List UInt8):∀a,GR a l=a*10^l.length+dv l:=by
 induction l with
 |nil=>intro a;simp[GR,dv]
 |cons c l ih=>
  intro a;have h1:∀b,GR b (c::l)=GR (b*10+(c.toNat-48)) l:=λb=>rfl
  have h2:dv (c::l)=GR (0*10+(c.toNat-48)) l:=rfl;rw[h1,h2,ih,ih (0*10+(c.toNat-48)),Bk,CE];rw[Bp,GN,BM,Br,BP 10];omega
theorem My (l m:List UInt8):dv (l++m)=dv l*10^m.length+dv m:=by
 have:dv (l++m)=GR (dv l) m:=by unfold dv GR;rw[List.foldl_append]
 rw[this,X7]
theorem cq (l:List UInt8):∀a,l.all BY=true->Lib.decFrom a l=some (GR a l):=by
 induction l with
 |nil=>intro a _;rfl
 |cons c l ih=>
  intro a h;rw[F5,BX]at h;have hd:Lib.digitVal c=some (c.toNat-48):=by
   have h1:=h.1;unfold BY at h1;rw[BX]at h1;unfold Lib.digitVal;rw[AH ⟨Bc h1.1,Bc h1.2⟩]
  rw[Lib.decFrom,hd];exact ih _ h.2
theorem KU {c:UInt8}(h:BY c=true):48<=c.toNat/\c.toNat<=57:=by
 unfold BY at h;rw[BX]at h;exact⟨Bc h.1,Bc h.2⟩
theorem jB {l:List UInt8}(h0:l≠[])(h:l.all BY=true):Lib.atoi l=some (dv l:Int):=by
 cases l with
 |nil=>exact Aa rfl h0
 |cons c l=>
  have hc:BY c=true:=by rw[F5,BX]at h;exact h.1
  obtain⟨c1,c2⟩:=KU hc;have e1:(c==45)=false:=by
   rw[B3];intro hh;subst hh;simp at c1
  have e2:(c==43)=false:=by
   rw[B3];intro hh;subst hh;simp at c1
  unfold Lib.atoi;dsimp only;rw[e1,e2];simp only[HO,if_false];unfold Lib.decNat;simp only[List.isEmpty_cons,HO,if_false];rw[cq _ _ h];rfl
theorem Fp (l:List UInt8)(h:l.all BY=true):dv l<10^l.length:=by
 induction l with
 |nil=>decide
 |cons c l ih=>
  rw[F5,BX]at h;have h1:dv (c::l)=GR (0*10+(c.toNat-48)) l:=rfl;have h2:=ih h.2;obtain⟨c1,c2⟩:=KU h.1;rw[h1,X7,GN,BM,Bk,CE,BP _ 10];have h3:(c.toNat-48)*10^l.length<=9*10^l.length:=CC _ (by omega);omega
def Tz (o:Option D)(z:Int):Bool:=match o with
 |some (.agg [.prim (.int .i64 a),.prim (.slice none 0 0)])=>a==z
 |_=>false
theorem gV {o:Option D}{z:Int}(h:Tz o z=true):o=some (Cp z):=by
 unfold Tz at h;split at h
 ·rw[Dp]at h;subst h;rfl
 ·cases h
theorem kX:((List.range 19).all λk=>Tz ((F8 X1 1000 60).1 192 [Cp 10,i64 (k:Nat)]) ((10^k:Nat):Int))=true:=by kernel_rfl
theorem rW (k:Nat)(h:k<19):AI C0 192 [Cp 10,i64 k] (Cp ((10^k:Nat):Int)):=by
 refine CA DJ 1000 60 ?_;exact gV (CI.1 kX k (List.mem_range.2 h))
theorem Tl {n:Nat}(h:n<9223372036854775808):Cp (n:Int)=(AV (n:Int)).D:=by
 rw[Iq ⟨by omega,by omega⟩];rfl
theorem tT (a b:Nat)(ha:(Ad a).length<1000000)(hb:(Ad b).length<1000000):AI C0 154 [(AV (a:Int)).D,(AV (b:Int)).D] (AV ((a+b:Nat):Int)).D:=by
 have:=Ng (AV (a:Int)) (AV (b:Int)) (CV _) (CV _) (HX ha) (HX hb)
 have e:Dw (AV (a:Int)) (AV (b:Int))=AV ((a+b:Nat):Int):=by
  have h1:=L4 (AV (a:Int)) (AV (b:Int));rw[DZ,DZ]at h1;rw[Nh (Lj _ _) (by rw[h1];omega),h1]
  congr 1
 rw[e]at this;exact this
theorem LX {n k:Nat}(h:n<10^k):(Ad n).length<=k:=GA (CN h (Mc (by decide) k))
def rv (l:List UInt8):Int:=if C9 l then -(dv (Bi l):Int)else dv (Bi l)
theorem kY (k:Nat)(h:k<19):AI C0 192 [Cp 10,i64 k] (AV ((10^k:Nat):Int)).D:=by
 have:=rW k h
 have h2:10^k<9223372036854775808:=DB (Ez (by decide) (show k<=18 by omega)) (by decide)
 rwa [Tl h2]at this
theorem rP (n:Nat)(h:n<9223372036854775808):AI C0 152 [i64 n] (AV (n:Int)).D:=by
 have:=Np (n:Int)
 rwa [Tl h]at this
theorem Pd (l:List UInt8)(hd:(Bi l).all BY=true)(hl:l.length<=100000):AI C0 149 [str (sb l)] (AV (rv l)).D:=by
 refine Ah.walk w1 Y1 rfl λF=>?_
 have c1:=cQ l (by omega);have c2:=RG l (by omega);have hml:(Bi l).length<=100000:=by
  unfold Bi;split
  ·rw[DQ];omega
  ·exact hl
 unfold rv;generalize hm0:Bi l=m0 at*;generalize C9 l=ng at*;generalize sb l=sl at*;have ez:Cp 0=(AV ((0:Nat):Int)).D:=Tl (by decide);have hpm:∀n:Nat,AA (AV (n:Int)).w:=λn=>AG
 refine sR 0 ?_;refine sR 100 ?_;refine cI c1 ?_;refine sR 200 ?_;refine cI c2 ?_;refine sR 300 ?_;refine Ck (α:=Nat) (λn=>⟨[(2,.optr 0 0 2 0 0),(3,Aq ng),(4,.optr 301 8 2 0 0)],[⟨301,8,139,2,[(AV (dv m0:Int)).D]⟩,⟨0,0,139,2,[Cp 0]⟩],n⟩) (λ_=>True) ?_ ?_
 ·refine AC.block ?_
  refine FY (α:=List UInt8×Nat×Nat) (λp=>⟨[(0,str (sb p.1)),(2,.optr 0 0 2 0 0),(3,Aq ng),(4,.optr 301 8 2 0 0)],[⟨301,8,139,2,[(AV (p.2.1:Int)).D]⟩,⟨0,0,139,2,[Cp 0]⟩],p.2.2⟩) (λp=>p.1.length)
   (λp F'=>F'=F/\p.1.all BY=true/\p.1.length<=m0.length/\p.2.1<10^(m0.length-p.1.length)/\dv m0=p.2.1*10^p.1.length+dv p.1) (m0,0,20) ⟨rfl,hd,Ae _,by simp,by simp⟩ (by rw[<-ez];exact AL) ?_
  rintro⟨m,A,n⟩ F' ⟨rfl,h1,h2,h3,h4⟩;dsimp only at h1 h2 h3 h4⊢;refine AC.seq ?_;refine AC.seq ?_
  by_cases hm:m=[]
  ·subst hm
   have e1:decide (((sb []).size:Int)>0)=false:=rfl;have hA:dv m0=A:=by simpa[dv,GR]using h4
   rw[hA];refine Am w1 400 (by kernel_rfl) ?_;refine AT e1 ?_;refine AJ ?_;refine B6 ?_;exact⟨rfl,_,trivial,AL⟩
  ·have hm1:0<m.length:=List.length_pos_iff.2 hm
   have hsz:=CL m;obtain⟨k,hk⟩:∃k,k=min 18 m.length:=⟨_,rfl⟩
   have e1:decide (((sb m).size:Int)>0)=true:=AZ (by rw[hsz];omega);have ek:min (18:Int) ((sb m).size:Int)=(k:Int):=by rw[hsz];omega
   have b1:(k:Int)<=((sb m).size:Int):=by rw[hsz];omega
   have e22:(sb m).extract 0 ((k:Int)).toNat=sb (m.take k):=by rw[D9];rfl
   have e36:(sb m).extract ((k:Int)).toNat (sb m).size=sb (m.drop k):=by
    rw[D9,hsz,B1 (Ae _)];rfl
   have htk:(m.take k).all BY=true:=CI.2 λc hc=>CI.1 h1 c (H4 hc)
   have hdk:(m.drop k).all BY=true:=CI.2 λc hc=>CI.1 h1 c (J9 hc)
   have hlk:(m.take k).length=k:=by rw[Bf];omega
   have hv:=Fp _ htk;rw[hlk]at hv;have h18:10^k<=10^18:=Ez (by decide) (by omega);have ca:=kO (sb (m.take k)) (dv (m.take k):Int) (by rw[CL,hlk];omega) (jB (by intro h;change m.take k=[]at h;rw[h]at hlk;simp at hlk;omega) htk);have hval:dv m=dv (m.take k)*10^(m.drop k).length+dv (m.drop k):=by
    conv=>lhs;rw[<-Ef k m]
    exact My _ _
   generalize dv (m.take k)=v at*;have hAl:(Ad A).length<=100000:=BO (LX h3) (by omega);have h10:(Ad (10^k)).length<=19:=LX (k:=19) (Nat.pow_lt_pow_right (by decide) (by omega));have hmul:=KR A (10^k);have cp:=kY k (by omega);have c3:=Tu A (10^k) (by omega) (by omega);have cv:=rP v (by omega);have hvl:(Ad v).length<=19:=LX (k:=19) (CN hv (Ez (by decide) (by omega)));have c4:=tT (A*10^k) v (by omega) (by omega);refine Am w1 400 (by kernel_rfl) ?_;refine AT e1 ?_;refine AJ ?_;refine Ak ?_;refine AC.block ?_;refine sZ 500 ?_;refine AT ek ?_;refine sZ 600 ?_;refine AT e22 ?_;refine cI ca ?_;refine AC.seq ?_;refine B5 w1 700 [0,1,2,3,4,5] [6,7,8] (by kernel_rfl) ?_;refine BK ?_;refine BQ.same _ (Np 10) AG ?_;refine BK ?_;refine BQ.same _ (cp) AG ?_;refine BK ?_;refine BQ.same _ (c3) AG ?_;refine BK ?_;refine cI cv ?_;refine cI c4 ?_;refine Am w1 800 (by kernel_rfl) ?_;refine AT e36 ?_;refine⟨(m.drop k,A*10^k+v,_),⟨trivial,hdk,?_,?_,?_⟩,?_,AL⟩
   ·dsimp only;rw[DQ];omega
   ·dsimp only
    rw[DQ,show m0.length-(m.length-k)=(m0.length-m.length)+k by omega,Fd];have h5:(A+1)*10^k<=10^(m0.length-m.length)*10^k:=CC _ h3;rw[Bp]at h5;omega
   ·dsimp only
    rw[h4,hval,DQ];have h6:10^m.length=10^k*10^(m.length-k):=by rw[<-Fd];congr 1;omega
    rw[h6,Bp,Br];omega
   ·dsimp only;rw[DQ];omega
 rintro n -;have hAl:(Ad (dv m0)).length<=100000:=BO (LX (Fp _ hd)) hml;have cn:=No (AV (dv m0:Int)) (CV _) (HX (by omega));rw[DZ]at cn;have hpn:AA (AV (-(dv m0:Int))).w:=AG;refine AC.seq ?_;refine sR 900 ?_;cases ng with
 |true=>
  rw[AH rfl];refine AJ ?_;refine sR 1000 ?_;refine cI cn ?_;refine Ab ?_;exact AO rfl AA.out
 |false=>
  rw[AE (by simp)];refine AJ ?_;refine Ak ?_;refine sR 1100 ?_;refine Ab ?_;exact AO rfl AA.out
def Jt (l:List UInt8):Bool:=!decide (l=[])&&l.all BY
def Cs (l:List UInt8):Bool:=Jt l&&(decide (l=[48]) || !decide (l.head? = some 48))
def Bu (l:List UInt8):List UInt8:=l.take (BC l)
def BR (l:List UInt8):List UInt8:=l.drop (BC l+1)
def Ce (l:List UInt8):Bool:=decide (BC l<l.length)
def Bx (l:List UInt8):List UInt8:=Bi (Bu l)
def In (l:List UInt8):Bool:=!Cs (Bx l)||decide (Bu l=[45,48])||(Ce l&&(!Cs (BR l)||decide (BR l=[48])||decide (BR l=[49])))
def CR (l:List UInt8):Nat:=if In l then 1 else if 600<(Bx l).length\/600<(BR l).length then 4
 else if Ce l=true/\Nat.gcd (dv (Bx l)) (dv (BR l))≠1 then 1 else 0
theorem JV {l:List UInt8}(h:Cs l=true):l≠[]/\l.all BY=true:=by
 unfold Cs Jt at h;rw[BX,BX]at h;exact⟨by have:=h.1.1;simpa using this,h.1.2⟩
theorem RU {l:List UInt8}(h:l.all BY=true):C9 l=false:=by
 cases l with
 |nil=>rfl
 |cons c l=>
  rw[F5,BX]at h;obtain⟨c1,c2⟩:=KU h.1;show(c==45)=false;rw[B3];intro hh;subst hh;simp at c1
theorem JQ {l:List UInt8}(h:l.all BY=true):Bi l=l:=by unfold Bi;rw[RU h];rfl
theorem Lv {l:List UInt8}(h:l.all BY=true):rv l=(dv l:Int):=by
 unfold rv;rw[RU h,JQ h];rfl
theorem fK (l:List UInt8)(hl:l.length<=1000000000):AI C0 271 [str (sb l)] (Aq (Jt l)):=by
 refine Ah.walk w1 Zf rfl λF=>?_
 have ct:=TrimW.trim_ok l hl;have eS:=EQ l [];have eT:=EQ ((Ft l).dropWhile BY) [];have hall:decide ((Ft l).dropWhile BY=[])=l.all BY:=by
  rw[F7,decide_eq_true_iff];exact jR l
 rw[hall]at eT;unfold Jt;rw[<-eS];generalize hb:Bb (sb l) (sb [])=b at*;refine sR 0 ?_;refine AC.seq ?_;cases b with
 |true=>
  have e1:(!Bb (sb l) (sb []))=false:=by rw[hb];rfl
  refine Am w1 100 (by kernel_rfl) ?_;refine AT e1 ?_;refine AD e1 ?_;refine Ab ?_;exact AO rfl AA.out
 |false=>
  have e1:(!Bb (sb l) (sb []))=true:=by rw[hb];rfl
  refine Am w1 100 (by kernel_rfl) ?_;refine AT e1 ?_;refine AD e1 ?_;refine LI e1 ?_;refine Az.same _ ct AG ?_;refine AD (Ac e1 eT) ?_;refine Ab ?_;exact AO rfl AA.out
theorem WQ (l:List UInt8)(hl:l.length<=1000000000):AI C0 230 [str (sb l)] (Aq (Cs l)):=by
 refine Ah.walk w1 ZT rfl λF=>?_
 have cd:=fK l hl;have e0:=EQ l [48];unfold Cs;refine sR 0 ?_;refine sR 100 ?_;refine cI cd ?_;rcases hd:Jt l with _|_
 ·refine AD (Ac kT HO) ?_
  refine AD (Ac kT HO) ?_;refine Ab ?_;exact AO rfl AA.out
 ·obtain⟨c,m,rfl⟩:∃c m,l=c::m:=by
   cases l with
   |nil=>cases hd
   |cons c m=>exact⟨c,m,rfl⟩
  have hsz:=CL (c::m);rw[Bk]at hsz;have hx:(((sb (c::m)).data.toList.getD ((0:Int)).toNat 0).toNat:Int)=(c.toNat:Int):=rfl;have b0:(0:Int)<((sb (c::m)).size:Int):=by rw[hsz];omega
  by_cases h0:(c::m)=[48]
  ·rw[AZ h0]at e0⊢
   refine AD e0 ?_;refine AD (Ac e0 kT) ?_;refine AD (Ac e0 kT) ?_;refine Ab ?_;exact AO rfl AA.out
  ·rw[Ag h0]at e0⊢
   have e1:((c.toNat:Int) != 48) = !decide (c=48):=by
    rw[F7];simp only[bne_iff_ne,ne_eq,Bd,KG];constructor
    ·intro h hc;subst hc;exact h rfl
    ·intro h hc
     apply h
     have:c.toNat=48:=by omega
     exact UInt8.toNat_inj.1 this
   refine AD e0 ?_;refine AD (Bh e0 kF hx e1) ?_;refine AD (Bh e0 kF hx e1) ?_;refine Ab ?_;exact AO (by simp) AA.out
theorem ly (n:Nat):AI C0 231 [(AV (n:Int)).D] (.tup [i64 (AV (n:Int)).s,Aq (decide (Sm (n:Int)))]):=by
 refine Ah.walk w1 ZU rfl λF=>?_
 by_cases hs:Sm (n:Int)
 ·obtain⟨a1,a2⟩:=QU hs
  dsimp only[GI.D];rw[a1,a2,AZ hs];refine sR 0 ?_;refine AC.seq ?_;refine B5 w1 100 [0,1,2,3,4,5] [6] (by kernel_rfl) ?_;refine BK ?_;refine Ab ?_;exact AO rfl AA.out
 ·obtain⟨a1,a2,a3⟩:=Tt hs
  dsimp only[GI.D];rw[a1,a2,Ag hs];generalize(Ad n).map AR=l at*;refine sR 0 ?_;refine AC.seq ?_;refine B5 w1 100 [0,1,2,3,4,5] [6] (by kernel_rfl) ?_;refine AT (Au (@ne_eq (List D)) a3 EC) ?_;refine Ab ?_;exact AO rfl AA.out
def Fq (l:List UInt8):GF:=⟨AV (rv (Bu l)),if Ce l then dv (BR l)else 1⟩
theorem kG (l:List UInt8)(hl:l.length<=100000)(h1:(Bx l).all BY=true)(h2:Ce l=true->(BR l).all BY=true):AI C0 103 [str (sb l)] (Fq l).D:=by
 refine Ah.walk w1 Yf rfl λF=>?_
 have cc:=X3 l (by omega);have r1:=Pd (Bu l) h1 (by unfold Bu;rw[Bf];omega);have hpw:AA (AV (rv (Bu l))).w:=AG;unfold Fq;change AI C0 _ _ (.tup [str (sb (Bu l)),str (sb (BR l)),Aq (Ce l)])at cc;rcases hs:Ce l with _|_
 ·rw[hs]at cc
  have wg:=Xm (AV (rv (Bu l)));have hp1:AA (AV ((1:Nat):Int)).w:=AG;rw[AE (by simp)];dsimp only[GI.D,GF.D]at*;refine sR 0 ?_;refine sR 100 ?_;refine cI cc ?_;refine AC.seq ?_;refine sR 200 ?_;refine AJ ?_;refine sR 300 ?_;refine cI r1 ?_;refine cI wg ?_;refine Ab ?_;exact AO rfl AA.out
 ·rw[hs]at cc
  have hd:=h2 hs;have r2:=Pd (BR l) (by rw[JQ hd];exact hd) (by unfold BR;rw[DQ];omega);rw[Lv hd]at r2;have hp1:AA (AV (dv (BR l):Int)).w:=AG;rw[AH rfl];dsimp only[GI.D,GF.D]at*;refine sR 0 ?_;refine sR 100 ?_;refine cI cc ?_;refine AC.seq ?_;refine sR 200 ?_;refine AJ ?_;refine Ak ?_;refine sR 400 ?_;refine cI r1 ?_;refine cI r2 ?_;refine Ab ?_;exact AO rfl AA.out
set_option maxHeartbeats 4000000
theorem rM (g:Nat):((g:Int) != 1)=decide (g≠1):=by
 rw[F7,bne_iff_ne,decide_eq_true_iff];omega
theorem jD (l:List UInt8)(hl:l.length<=100000):AI C0 182 [str (sb l)] (i64 (CR l)):=by
 refine Ah.walk w1 YJ rfl λF=>?_
 have cc:=X3 l (by omega);change AI C0 _ _ (.tup [str (sb (Bu l)),str (sb (BR l)),Aq (Ce l)])at cc;have hnl:(Bu l).length<=100000:=by unfold Bu;rw[Bf];omega
 have hdl:(BR l).length<=100000:=by unfold BR;rw[DQ];omega
 have hsl:(Bx l).length<=100000:=by
  unfold Bx Bi;split
  ·rw[DQ];omega
  ·exact hnl
 have ct:=RG (Bu l) (by omega);change AI C0 _ _ (str (sb (Bx l)))at ct;have p1:=WQ (Bx l) (by omega);have p2:=WQ (BR l) (by omega);have en:=EQ (Bu l) [45,48];have e0:=EQ (BR l) [48];have e1:=EQ (BR l) [49];have z1:=CL (Bx l);have z2:=CL (BR l);have hbf:∃b,b=In l:=⟨_,rfl⟩
 obtain⟨bf,hbf⟩:=hbf;unfold CR;rw[<-hbf];unfold In at hbf;refine sR 0 ?_;refine sR 100 ?_;refine cI cc ?_;refine sR 200 ?_;refine cI ct ?_;refine AC.seq ?_;refine Ck (α:=Nat) (λn=>⟨[(4,str (sb (BR l))),(5,Aq (Ce l)),(6,str (sb (Bx l))),(39,Aq bf)],[],n⟩) (λ_=>True) ?_ ?_
 ·refine rI 300 ?_
  refine cI p1 ?_;rcases hp:Cs (Bx l)with _|_
  ·rw[hp]at hbf
   have hb:bf=true:=by rw[hbf];rfl
   subst hb;simp only[Qv];refine AD kT ?_;refine AD kT ?_;exact⟨trivial,_,trivial,AL⟩
  ·rw[hp]at hbf
   simp only[ON]
   by_cases hn:Bu l=[45,48]
   ·rw[AZ hn]at en hbf
    have hb:bf=true:=by rw[hbf];rfl
    subst hb;refine AD (Ac kF en) ?_;refine AD (Au kF kT en) ?_;exact⟨trivial,_,trivial,AL⟩
   ·rw[Ag hn]at en hbf
    rcases hs:Ce l with _|_
    ·rw[hs]at hbf
     have hb:bf=false:=by rw[hbf];rfl
     subst hb;refine AD (Ac kF en) ?_;refine AD (Bh kF kT en hs) ?_;refine AD (Bh kF kT en hs) ?_;exact⟨trivial,_,trivial,AL⟩
    ·rw[hs]at hbf
     refine AD (Ac kF en) ?_;refine AD (Au kF en hs) ?_;refine LI hs ?_;refine Az.same _ p2 AG ?_;refine At ?_;rcases hq:Cs (BR l)with _|_
     ·rw[hq]at hbf
      have hb:bf=true:=by rw[hbf];rfl
      subst hb;refine AD (Au kF kT hq) ?_;refine AD (Au kF kT hq) ?_;refine AD (Au kF kT hq) ?_;exact⟨trivial,_,trivial,AL⟩
     ·rw[hq]at hbf
      refine AD hq ?_;simp only[ON];refine AD kF ?_
      by_cases h0:BR l=[48]
      ·rw[AZ h0]at e0 hbf
       have hb:bf=true:=by rw[hbf];rfl
       subst hb;simp only[e0,imp_self];refine AD kT ?_;refine Hb rfl rfl rfl (by simp only[Qv]) (by simp) (Hd (λ_ _=>rfl) ?_);refine AD kF ?_;exact⟨trivial,_,trivial,AL⟩
      ·rw[Ag h0]at e0 hbf
       simp only[e0];refine AD kF ?_
       by_cases h1:BR l=[49]
       ·rw[AZ h1]at e1 hbf
        have hb:bf=true:=by rw[hbf];rfl
        subst hb;simp only[e1];exact⟨trivial,_,trivial,AL⟩
       ·rw[Ag h1]at e1 hbf
        have hb:bf=false:=by rw[hbf];rfl
        subst hb;simp only[e1];exact⟨trivial,_,trivial,AL⟩
 rintro n -;cases bf with
 |true=>
  rw[AH rfl];refine AJ ?_;refine sR 400 ?_;refine Ab ?_;exact AO rfl AA.out
 |false=>
  rw[AE (by simp)];have hbf:=hbf.symm;simp only[JC,Bn,Bool.and_eq_false_iff]at hbf;obtain⟨⟨hp,hn⟩,hd⟩:=hbf;refine AJ ?_;refine Ak ?_;have hsd:=(JV hp).2;refine AC.seq ?_;refine Ck (α:=Nat) (λn=>⟨[(4,str (sb (BR l))),(5,Aq (Ce l)),(6,str (sb (Bx l))),(47,Aq (decide (600<(Bx l).length\/600<(BR l).length)))],[],n⟩) (λ_=>True) ?_ ?_
  ·by_cases hA:600<(Bx l).length
   ·have ea:decide (((sb (Bx l)).size:Int)>600)=true:=AZ (by rw[z1];omega)
    have eb:decide (600<(Bx l).length\/600<(BR l).length)=true:=AZ (Or.inl hA);rw[eb];refine Am w1 500 (by kernel_rfl) ?_;refine AT ea ?_;refine AD kT ?_;exact⟨trivial,_,trivial,AL⟩
   ·have ea:decide (((sb (Bx l)).size:Int)>600)=false:=Ag (by rw[z1];omega)
    have eb:decide (((sb (BR l)).size:Int)>600)=decide (600<(Bx l).length\/600<(BR l).length):=by
     rw[Co,z2];omega
    refine Am w1 500 (by kernel_rfl) ?_;refine AT ea ?_;refine AD kF ?_;simp only[eb];exact⟨trivial,_,trivial,AL⟩
  rintro n -
  by_cases hL:600<(Bx l).length\/600<(BR l).length
  ·rw[AZ hL,AH hL]
   refine AJ ?_;refine sR 600 ?_;refine Ab ?_;exact AO rfl AA.out
  ·rw[Ag hL,AE hL]
   refine AJ ?_;refine Ak ?_;refine AC.seq ?_;refine sR 700 ?_;rcases hs:Ce l with _|_
   ·rw[AE (by simp)]
    refine AJ ?_;refine Ak ?_;refine sR 1100 ?_;refine Ab ?_;exact AO rfl AA.out
   ·rw[hs]at hd
    have hd':=hd.resolve_left (by simp);have hdd:=(JV hd'.1.1).2;have r1:=Pd (Bx l) (by rw[JQ hsd];exact hsd) hsl;have r2:=Pd (BR l) (by rw[JQ hdd];exact hdd) hdl;rw[Lv hsd]at r1;rw[Lv hdd]at r2;have l1:(Ad (dv (Bx l))).length<=100000:=BO (LX (Fp _ hsd)) hsl;have l2:(Ad (dv (BR l))).length<=100000:=BO (LX (Fp _ hdd)) hdl;have cg:=aQ (AV (dv (Bx l):Int)) (AV (dv (BR l):Int)) (CV _) (CV _) (HX (by omega)) (HX (by omega));rw[DZ,DZ,Dl,Dl]at cg;have cs:=ly (Nat.gcd (dv (Bx l)) (dv (BR l)));obtain⟨g,hg0⟩:∃g,g=Nat.gcd (dv (Bx l)) (dv (BR l)):=⟨_,rfl⟩
    rw[<-hg0]at cg cs;simp only[<-hg0];have hpa:AA (AV (dv (Bx l):Int)).w:=AG;have hpb:AA (AV (dv (BR l):Int)).w:=AG;have hpg:AA (AV (g:Int)).w:=AG;dsimp only[GI.D]at r1 r2 cg cs;refine AJ ?_;refine sR 800 ?_;refine cI r1 ?_;refine cI r2 ?_;refine cI cg ?_;refine cI cs ?_;refine Ck (α:=Nat) (λn=>⟨[(63,Aq (decide (g≠1)))],[],n⟩) (λ_=>True) ?_ ?_
    ·by_cases hg:Sm (g:Int)
     ·obtain⟨a1,a2⟩:=QU hg
      have eg:=rM g;rw[a1,AZ hg];refine rI 900 ?_;simp only[ON];refine AD kF ?_;simp only[eg];exact⟨trivial,_,trivial,AL⟩
     ·have eg:decide (g≠1)=true:=AZ λh=>hg (by rw[h];exact⟨by decide,by decide⟩)
      rw[eg,Ag hg];refine rI 900 ?_;simp only[Qv];refine AD kT ?_;exact⟨trivial,_,trivial,AL⟩
    rintro n -
    by_cases hg:g=1
    ·rw[Ag (λh=>h hg),AE (λh=>h.2 hg)]
     refine AJ ?_;refine Ak ?_;refine sR 1100 ?_;refine Ab ?_;exact AO rfl AA.out
    ·rw[AZ hg,AH ⟨trivial,hg⟩]
     refine AJ ?_;refine sR 1000 ?_;refine Ab ?_;exact AO rfl AA.out
abbrev RB:Nat:=1000000000
def AW (n:Nat):List Nat:=if _h:n=0 then[]else(n%RB)::AW (n/RB)
termination_by n
decreasing_by exact HM (Do _h) (by decide)
def AM:List Nat->Nat
 | []=>0
 |a::l=>a+RB*AM l
def Rd (l:List Nat):Prop:=∀a∈l,a<RB
theorem GB:AW 0=[]:=by unfold AW;rfl
theorem IE {n:Nat}(h:n≠0):AW n=(n%RB)::AW (n/RB):=by rw[AW,dif_neg h]
theorem EL (n:Nat):Rd (AW n):=by
 induction n using Nat.strongRecOn with
 |ind n ih=>
  by_cases h:n=0
  ·subst h;rw[GB];intro a ha;cases ha
  ·rw[IE h]
   intro a ha;rcases A0.1 ha with rfl|ha
   ·exact Bz _ (by decide)
   ·exact ih _ (HM (Do h) (by decide)) a ha
theorem Ds (n:Nat):AM (AW n)=n:=by
 induction n using Nat.strongRecOn with
 |ind n ih=>
  by_cases h:n=0
  ·subst h;rw[GB];rfl
  ·rw[IE h,AM,ih _ (HM (Do h) (by decide))]
   exact ET n RB
theorem Ie (l m:List Nat):AM (l++m)=AM l+RB^l.length*AM m:=by
 induction l with
 |nil=>simp[AM]
 |cons a l ih=>
  simp only[ED,AM,ih,Bk,CE,BJ];rw[BP (RB^l.length) RB,Br,EI]
theorem Rd.tail {a:Nat}{l:List Nat}(h:Rd (a::l)):Rd l:=λb hb=>h b (Cn _ hb)
theorem Rd.head {a:Nat}{l:List Nat}(h:Rd (a::l)):a<RB:=h a Cf
theorem Rd.append {l m:List Nat}(h:Rd l)(k:Rd m):Rd (l++m):=λa ha=>(List.mem_append.1 ha).elim (h a) (k a)
theorem Rd.take {l:List Nat}(h:Rd l)(n:Nat):Rd (l.take n):=λa ha=>h a (H4 ha)
theorem Fl:∀ {l:List Nat},Rd l->AM l<RB^l.length
 | [],_=>by simp[AM]
 |a::l,h=>by
  have h1:=Fl h.tail;have h2:=h.head;rw[AM,Bk,CE]
  calc a+RB*AM l<RB+RB*AM l:=by omega
   _=RB*(AM l+1):=by rw[BJ,Dy,KH]
   _<=RB*RB^l.length:=CS _ h1
   _=_:=BP _ _
theorem Uw:∀ {l:List Nat},Rd l->(∀a∈l.getLast?,a≠0)->AW (AM l)=l
 | [],_,_=>GB
 | [a],h,hl=>by
  have ha:a≠0:=hl a (by simp);have hb:=h.head;rw[show AM [a]=a from by simp[AM],IE ha,DR hb,Gt hb,GB]
 |a::b::l,h,hl=>by
  have ih:=Uw h.tail (λx hx=>hl x (by simpa using hx));have hb:=h.head;have hv:AM (b::l)≠0:=by
   intro h0;rw[h0,GB]at ih;cases ih
  have e1:AM (a::b::l)%RB=a:=by rw[AM,Qx,DR hb]
  have e2:AM (a::b::l)/RB=AM (b::l):=by
   rw[AM,Qr _ _ (by decide),Gt hb,BM]
  have hne:AM (a::b::l)≠0:=by
   intro h0;rw[h0]at e2;exact hv (by rw[<-e2];rfl)
  rw[IE hne,e1,e2,ih]
theorem Ub:∀(k:Nat),AM (List.replicate k 0)=0
 | 0=>rfl
 |k+1=>by rw[List.replicate_succ,AM,Ub k,EJ]
theorem H9 (b:Nat):∀a,b<=a->(AW b).length<=(AW a).length:=by
 induction b using Nat.strongRecOn with
 |ind b ih=>
  intro a h
  by_cases hb:b=0
  ·subst hb;rw[GB];exact BT _
  ·rw[IE hb,IE (n:=a) (by omega),Bk,Bk]
   exact Nat.succ_le_succ (ih _ (HM (Do hb) (by decide)) _ (Nat.div_le_div_right h))
theorem US {a b:Nat}(h:(AW a).length<(AW b).length):a<b:=by
 rcases BH a b with h1|h1
 ·exact h1
 ·have:=H9 b a h1;omega
theorem Mz {l:List Nat}{k a:Nat}(h:l[k]?=some a):AM l=AM (l.take k)+RB^k*(a+RB*AM (l.drop (k+1))):=by
 have hk:k<l.length:=(List.getElem?_eq_some_iff.1 h).1
 conv=>lhs;rw[<-Ef k l]
 rw[Ie,Bf,E2 (by omega)]
 have:l.drop k=a::l.drop (k+1):=by
  rw[EU hk]
  congr 1
  exact(List.getElem?_eq_some_iff.1 h).2
 rw[this,AM]
theorem Ua {l m:List Nat}{k a b:Nat}(hl:Rd l)(ha:l[k]?=some a)(hb:m[k]?=some b)(hd:l.drop (k+1)=m.drop (k+1))(hab:a<b):AM l<AM m:=by
 have hk:k<l.length:=(List.getElem?_eq_some_iff.1 ha).1;rw[Mz ha,Mz hb,hd];have h1:=Fl (hl.take k);rw[Bf,E2 (by omega)]at h1;generalize AM (m.drop (k+1))=r;have h2:RB^k*(a+RB*r)+RB^k<=RB^k*(b+RB*r):=by
  rw[<-Nat.mul_succ];exact CS _ (by omega)
 omega
theorem GU {l:List Nat}{i a:Nat}(hi:l.length=i):AM (l++[a])=AM l+RB^i*a:=by rw[Ie,hi];simp[AM]
theorem Rd.set {l:List Nat}(h:Rd l){i a:Nat}(ha:a<RB):Rd (l.set i a):=λb hb=>by
 rcases List.mem_or_eq_of_mem_set hb with h1|rfl
 ·exact h b h1
 ·exact ha
theorem RP (n:Nat):Rd (List.replicate n 0):=λa ha=>by rw[OH ha];decide
theorem Mq:∀ {l:List Nat} {k o d:Nat},l[k]?=some o->AM (l.set k d)+RB^k*o=AM l+RB^k*d
 |a::l,0,o,d,h=>by
  simp only[Qz,BI]at h;subst h;simp only[List.set_cons_zero,AM,LE,IZ];omega
 |a::l,k+1,o,d,h=>by
  simp only[JF]at h;have ih:=Mq (d:=d) h;simp only[List.set_cons_succ,AM];have h1:RB^(k+1)*o=RB*(RB^k*o):=by rw[CE,BP (RB^k) RB,Br]
  have h2:RB^(k+1)*d=RB*(RB^k*d):=by rw[CE,BP (RB^k) RB,Br]
  have h3:RB*AM (l.set k d)+RB*(RB^k*o)=RB*AM l+RB*(RB^k*d):=by rw[<-BJ,<-BJ,ih]
  omega
theorem JS {n k:Nat}(h:n<RB^k):(AW n).length<=k:=by
 induction k generalizing n with
 |zero=>
  have:n=0:=by simpa using h
  subst this;rw[GB];exact Ae _
 |succ k ih=>
  by_cases h0:n=0
  ·subst h0;rw[GB];exact BT _
  ·rw[IE h0,Bk]
   exact Nat.succ_le_succ (ih (Eg (by rw[BP,<-CE];exact h)))
theorem IA (n:Nat):n<RB^(AW n).length:=by
 have:=Fl (EL n)
 rwa [Ds]at this
theorem Uu (a b:Nat):(AW (a+b)).length<=max (AW a).length (AW b).length+1:=by
 refine JS ?_;have h1:=IA a;have h2:=IA b;have m1:RB^(AW a).length<=RB^max (AW a).length (AW b).length:=Ez (by decide) (Nat.le_max_left _ _);have m2:RB^(AW b).length<=RB^max (AW a).length (AW b).length:=Ez (by decide) (Nat.le_max_right _ _);rw[CE];generalize RB^max (AW a).length (AW b).length=q at*;unfold RB;omega
theorem Uv (a b:Nat):(AW (a-b)).length<=(AW a).length:=H9 _ _ (Nat.sub_le _ _)
theorem RM (a b:Nat):(AW (a*b)).length<=(AW a).length+(AW b).length:=by
 refine JS ?_;rw[Fd];exact Nat.mul_lt_mul'' (IA a) (IA b)
theorem Oh {n:Nat}(h0:n≠0)(h:n<RB):AW n=[n]:=by
 rw[IE h0,DR h,Gt h,GB]
theorem S6 {l:List Nat}{k a:Nat}(hl:l.length=k+1)(ha:l[k]?=some a):AM l=AM (l.take k)+RB^k*a:=by
 rw[Mz ha,Gq (by omega)];simp[AM]
theorem qm {l:List Nat}{k a b:Nat}(hl:l.length=k+2)(ha:l[k]?=some a)(hb:l[k+1]?=some b):AM l=AM (l.take k)+RB^k*(a+RB*b):=by
 rw[Mz ha]
 have:l.drop (k+1)=[b]:=by
  rw[EU (by omega),Gq (by omega)]
  congr 1
  exact(List.getElem?_eq_some_iff.1 hb).2
 rw[this];simp[AM]
theorem qo {l:List Nat}{k a b c:Nat}(hl:l.length=k+3)(ha:l[k]?=some a)(hb:l[k+1]?=some b)(hc:l[k+2]?=some c):AM l=AM (l.take k)+RB^k*(a+RB*(b+RB*c)):=by
 rw[Mz ha];have h1:=S6 (l:=l.drop (k+1)) (k:=1) (a:=c) (by rw[DQ];omega) (by rw[Gr,EI];exact hc);have h2:(l.drop (k+1)).take 1=[b]:=by
  rw[EU (by omega)];simp only[List.take_succ_cons,MY]
  congr 1
  exact(List.getElem?_eq_some_iff.1 hb).2
 rw[h1,h2];simp[AM]
structure Jo (P v:List Nat)(m p0 p1 p2 v2 v1:Nat):Prop where
 lP:P.length=m+3
 lv:v.length=m+2
 wP:Rd P
 wv:Rd v
 h0:P[m]?=some p0
 h1:P[m+1]?=some p1
 h2:P[m+2]?=some p2
 g2:v[m]?=some v2
 g1:v[m+1]?=some v1
 top:0<v1
 less:AM P<AM v*RB
namespace Jo
variable {P v:List Nat} {m p0 p1 p2 v2 v1:Nat} (S:Jo P v m p0 p1 p2 v2 v1)
include S
theorem valP:AM P=AM (P.take m)+RB^m*(p0+RB*(p1+RB*p2)):=qo S.lP S.h0 S.h1 S.h2
theorem valv:AM v=AM (v.take m)+RB^m*(v2+RB*v1):=qm S.lv S.g2 S.g1
theorem lowP:AM (P.take m)<RB^m:=by
 have:=Fl (S.wP.take m)
 rwa [Bf,E2 (by have:=S.lP;omega)]at this
theorem lowv:AM (v.take m)<RB^m:=by
 have:=Fl (S.wv.take m)
 rwa [Bf,E2 (by have:=S.lv;omega)]at this
theorem p0l:p0<RB:=S.wP _ (BA S.h0)
theorem p1l:p1<RB:=S.wP _ (BA S.h1)
theorem p2l:p2<RB:=S.wP _ (BA S.h2)
theorem v1l:v1<RB:=S.wv _ (BA S.g1)
theorem v2l:v2<RB:=S.wv _ (BA S.g2)
theorem below3:AM P<(p0+RB*(p1+RB*p2)+1)*RB^m:=by
 rw[S.valP,Bp,IZ,BP (RB^m)]
 have:=S.lowP
 omega
theorem below2:AM P<(p1+RB*p2+1)*RB^(m+1):=by
 have h:=S.below3;have h1:=S.p0l;generalize p1+RB*p2=t at*;have h2:(p0+RB*t+1)*RB^m<=(RB*(t+1))*RB^m:=CC _ (by rw[BJ RB t 1];omega);have h3:(t+1)*RB^(m+1)=(RB*(t+1))*RB^m:=by rw[CE,BP (RB^m) RB,<-Br,BP (t+1) RB]
 omega
theorem abovev:v1*RB^(m+1)<=AM v:=by
 rw[S.valv,CE,BJ]
 have:v1*(RB^m*RB)=RB^m*(RB*v1):=by rw[BP v1,Br]
 omega
theorem abovev2:(v2+RB*v1)*RB^m<=AM v:=by
 rw[S.valv,BP];omega
theorem pos:0<AM v:=CN (F6 S.top (Nat.pow_pos (by decide))) S.abovev
theorem p2v1:p2<=v1:=by
 rcases BH v1 p2 with h|h
 ·exfalso
  have e1:RB^(m+2)*p2<=AM P:=by
   rw[S.valP,BJ,BJ,BJ]
   have:RB^(m+2)*p2=RB^m*(RB*(RB*p2)):=by rw[CE,CE,Br,Br]
   omega
  have e2:AM v<RB^(m+1)*(v1+1):=by
   have h1:=S.lowv;have h2:=S.v2l;have e3:RB^(m+1)*(v1+1)=RB^m*(RB*v1+RB):=by rw[CE,Br,BJ,Dy]
   have e4:RB^m*(v2+RB*v1+1)<=RB^m*(RB*v1+RB):=CS _ (by omega);rw[BJ _ _ 1,Dy]at e4;rw[S.valv,e3];omega
  have e5:RB^(m+1)*(v1+1)*RB=RB^(m+2)*(v1+1):=by rw[Nat.mul_right_comm,<-CE]
  have e6:RB^(m+2)*(v1+1)<=RB^(m+2)*p2:=CS _ h;have e7:(AM v)*RB<=RB^(m+1)*(v1+1)*RB:=CC _ (IY e2)
  have:=S.less
  omega
 ·exact h
end Jo
theorem bl {A P v:List Nat}{q i z x d b c b' c' lo:Nat}(hz:A[i]?=some z)(hx:v[i]?=some x)(hI:AM A+q*AM (v.take i)=AM P+RB^i*(c+b))
  (h1:lo+RB*c'=q*x+c) (h2:d+lo+b=z+RB*b'):AM (A.set i d)+q*AM (v.take (i+1))=AM P+RB^(i+1)*(c'+b'):=by
 have hs:=Mq (d:=d) hz;have hi:i<v.length:=(List.getElem?_eq_some_iff.1 hx).1;rw[El hx,GU (i:=i) (by rw[Bf];omega),BJ,Hx q,CE,Br];have e:RB^i*(d+q*x+(c+b))=RB^i*(z+RB*(c'+b')):=by congr 1;rw[BJ RB];omega
 rw[BJ,BJ,BJ (RB^i) z]at e;omega
theorem bh {A P v:List Nat}{i z x c:Nat}(hz:A[i]?=some z)(hx:v[i]?=some x)(hI:AM A+RB^i*c=AM P+AM (v.take i)):
  AM (A.set i ((z+x+c)%RB))+RB^(i+1)*((z+x+c)/RB)=AM P+AM (v.take (i+1)):=by
 have hs:=Mq (d:=(z+x+c)%RB) hz;have hi:i<v.length:=(List.getElem?_eq_some_iff.1 hx).1;rw[El hx,GU (i:=i) (by rw[Bf];omega),CE,Br];have e:RB^i*((z+x+c)%RB+RB*((z+x+c)/RB))=RB^i*(z+x+c):=by rw[ET]
 rw[BJ,BJ,BJ (RB^i) z]at e;omega
theorem dO {n k:Nat}(h1:RB^k<=n)(h2:n<RB^(k+1)):(AW n).length=k+1:=by
 have h3:=JS h2;have h4:=DB h1 (IA n);have h5:=(Nat.pow_lt_pow_iff_right (show 1<RB by decide)).1 h4;omega
theorem Oi:∀(n:Nat) {k a:Nat},(AW n).length=k+1->(AW n)[k]?=some a->a≠0:=λn=>by
 induction n using Nat.strongRecOn with
 |ind n ih=>
  intro k a h1 h2
  by_cases h0:n=0
  ·subst h0;rw[GB]at h1;cases h1
  ·rw[IE h0]at h1 h2
   rw[Bk]at h1;have h3:=Nat.succ.inj h1;cases k with
   |zero=>
    have h4:AW (n/RB)=[]:=Ei h3;have h5:n/RB=0:=by rw[<-Ds (n/RB),h4];rfl
    have h6:=ET n RB;rw[h5]at h6;simp at h2;intro h7;subst h7;rw[h2]at h6;omega
   |succ k=>
    rw[JF]at h2;exact ih _ (HM (Do h0) (by decide)) h3 h2
theorem Ra {n k:Nat}(h:(AW n).length=k+1):RB^k<=n:=by
 obtain⟨a,ha⟩:=CH (l:=AW n) (i:=k) (by omega);have h1:=Oi n h ha;have h2:=S6 h ha;rw[Ds]at h2;have h3:=CS (RB^k) (show 1<=a by omega);omega
theorem Ou {l:List Nat}{j a:Nat}(h:l[j]?=some a):AM (l.drop j)=a+RB*AM (l.drop (j+1)):=by
 have hj:j<l.length:=(List.getElem?_eq_some_iff.1 h).1;rw[EU hj,(List.getElem?_eq_some_iff.1 h).2];rfl
theorem bv {a q:List Nat}{j x b rest:Nat}(hb:0<b)(hx:a[j]?=some x)(hj:j<q.length)(hI:AM (q.drop (j+1))*b+rest=AM (a.drop (j+1))):
  AM ((q.set j ((rest*RB+x)/b)).drop j)*b+(rest*RB+x)%b=AM (a.drop j)/\(rest*RB+x)%b<b:=by
 refine⟨?_,Bz _ hb⟩;rw[PS hj,Ou hx,<-hI,AM];have e:=EH (rest*RB+x) b;rw[Bp,BJ RB,Br RB,BP RB rest,BP _ b];omega
structure K3 (X:Nat)(v U q:List Nat)(lu lq k:Nat):Prop where
 lU:U.length=lu
 lQ:q.length=lq
 wU:Rd U
 wq:Rd q
 val:RB^k*AM (q.drop k)*AM v+AM U=X
 less:AM (U.drop k)<AM v
theorem de {X:Nat}{v U q:List Nat}{lu lq j m:Nat}(I:K3 X v U q lu lq (j+1))(hv:v.length=m+2)(wv:Rd v)(v1 v2:Nat)(h2:v[m]?=some v2)(h1:v[m+1]?=some v1)(ht:0<v1)(hj:j+(m+3)<=lu):
  ∃p0 p1 p2,Jo ((U.drop j).take (m+3)) v m p0 p1 p2 v2 v1/\AM (U.drop (j+(m+3)))=0/\AM ((U.drop j).take (m+3))=AM (U.drop j):=by
 obtain⟨lU,lQ,wU,wq,val,less⟩:=I;obtain⟨x,hx⟩:=CH (l:=U) (i:=j) (by omega);have hxl:=wU x (BA hx);have e1:=Ou hx;have hlt:AM (U.drop j)<AM v*RB:=by
  have:RB*(AM (U.drop (j+1))+1)<=RB*AM v:=CS _ less
  rw[BJ,BP RB (AM v)]at this;omega
 have hPl:((U.drop j).take (m+3)).length=m+3:=by rw[Bf,DQ];omega
 have e2:AM (U.drop j)=AM ((U.drop j).take (m+3))+RB^(m+3)*AM (U.drop (j+(m+3))):=by
  conv=>lhs;rw[<-Ef (m+3) (U.drop j)]
  rw[Ie,hPl,List.drop_drop]
 have hvl:=Fl wv;rw[hv]at hvl;have hz:AM (U.drop (j+(m+3)))=0:=by
  rcases DU (AM (U.drop (j+(m+3))))with h|h
  ·exact h
  ·exfalso
   have e3:RB^(m+3)*1<=RB^(m+3)*AM (U.drop (j+(m+3))):=CS _ h;have e4:AM v*RB<=RB^(m+2)*RB:=CC _ (IY hvl);have e5:RB^(m+2)*RB=RB^(m+3):=(CE RB (m+2)).symm;rw[e5]at e4;omega
 rw[hz,EJ,DL]at e2;obtain⟨p0,h0⟩:=CH (l:=(U.drop j).take (m+3)) (i:=m) (by omega);obtain⟨p1,h3⟩:=CH (l:=(U.drop j).take (m+3)) (i:=m+1) (by omega);obtain⟨p2,h4⟩:=CH (l:=(U.drop j).take (m+3)) (i:=m+2) (by omega);exact⟨p0,p1,p2,⟨hPl,hv,λa ha=>wU a (J9 (H4 ha)),wv,h0,h3,h4,h2,h1,ht,by rw[<-e2];exact hlt⟩,hz,e2.symm⟩
theorem dc {X:Nat}{v U q P':List Nat}{lu lq j m:Nat}(I:K3 X v U q lu lq (j+1))(hv:0<AM v)(hj:j+(m+3)<=lu)(hjq:j<lq)(hz:AM (U.drop (j+(m+3)))=0)(hP:AM ((U.drop j).take (m+3))=AM (U.drop j))
  (h1:P'.length=m+3) (h2:Rd P') (h3:AM P'=AM ((U.drop j).take (m+3))%AM v) (hd:AM ((U.drop j).take (m+3))/AM v<RB):
  K3 X v (U.take j++(P'++U.drop (j+(m+3)))) (q.set j (AM ((U.drop j).take (m+3))/AM v)) lu lq j:=by
 obtain⟨lU,lQ,wU,wq,val,less⟩:=I;have hA:(U.take j).length=j:=by rw[Bf];omega
 have e0:AM U=AM (U.take j)+RB^j*AM (U.drop j):=by
  conv=>lhs;rw[<-Ef j U]
  rw[Ie,hA]
 have e1:AM (P'++U.drop (j+(m+3)))=AM P':=by rw[Ie,hz,EJ,DL]
 refine⟨?_,by rw[DK];exact lQ,?_,wq.set hd,?_,?_⟩
 ·rw[Bo,Bo,hA,h1,DQ];omega
 ·exact Rd.append (wU.take j) (Rd.append h2 λa ha=>wU a (J9 ha))
 ·rw[PS (by omega),AM,Ie,hA,e1,h3,hP]
  rw[e0]at val;have e2:=EH (AM (U.drop j)) (AM v);have e3:RB^(j+1)*AM (q.drop (j+1))*AM v=RB^j*(RB*AM (q.drop (j+1))*AM v):=by
   rw[CE,Br,Br,Br]
  rw[e3]at val;have e4:RB^j*AM (U.drop j)=RB^j*(AM v*(AM (U.drop j)/AM v))+RB^j*(AM (U.drop j)%AM v):=by
   rw[<-BJ,e2]
  rw[Br,Bp,BJ,BP (AM (U.drop j)/AM v)];omega
 ·rw[List.drop_left' hA,e1,h3]
  exact Bz _ hv
set_option maxHeartbeats 2000000
abbrev AY (n:Nat):D:=i64 (n:Int)
def rL (l:List Nat):D:=.sl false 1 (l.map AY)
def rD (n:Nat):D:=rL (AW n)
theorem NS (l:List Nat):B0 (rL l):=.sl λe he d hd=>by
 obtain⟨a,_,rfl⟩:=List.mem_map.1 he;simp only[D.cells,A0,DC,or_false]at hd;subst hd;exact .prim _
instance  (l:List Nat):AA (rL l):=⟨NS l⟩
instance  (n:Nat):AA (rD n):=⟨NS _⟩
theorem Db {l:List Nat}{i a:Nat}(h:l[i]?=some a):(l.map AY)[i]?=some (AY a):=by rw[BG,h];rfl
theorem Lt {l:List Nat}{i a:Nat}:(l.map AY).set i (AY a)=(l.set i a).map AY:=List.map_set.symm
theorem rl (c:Nat):((c:Int)==0)=decide (c=0):=by rw[F7,Dp,decide_eq_true_iff];omega
theorem Se (m:List Nat):AM (m++[0])=AM m:=by rw[GU rfl];simp
theorem Xa {m:List Nat}{c:Nat}(h:Rd (m++[c]))(hc:c≠0):AW (AM (m++[c]))=m++[c]:=Uw h λa ha=>by
 rw[List.getLast?_append]at ha;simp at ha;rw[<-ha];exact hc
theorem Kn (l:List Nat)(h:Rd l)(hlen:l.length<4000000000):AI C0 228 [rL l] (rD (AM l)):=by
 refine Ah.walk w1 ZR rfl λF=>?_
 unfold rL;refine sR 0 ?_;refine AC.seq ?_;refine AC.block ?_;refine AC.loop (α:=List Nat×Nat) (λp=>⟨[(0,.sl false 1 (p.1.map AY))],[],p.2⟩) (λp=>p.1.length)
  (λp=>AM p.1=AM l/\Rd p.1/\p.1.length<=l.length) (l,_) ⟨rfl,h,Ae _⟩ AL ?_
 rintro⟨m,n⟩ F ⟨h1,h2,h3⟩;dsimp only at h1 h2 h3⊢;refine AC.seq ?_;refine AC.seq ?_;rcases Q1 m with rfl|⟨m,c,rfl⟩
 ·have e1:decide (((0:Nat):Int)>0)=false:=rfl
  refine Am w1 100 (by kernel_rfl) ?_;refine AT e1 ?_;refine AD e1 ?_;refine AJ ?_;refine B6 ?_;refine sR 300 ?_;refine Ab ?_;refine AO (d0:=rL []) ?_ AA.out;rw[<-h1];unfold rD;rw[show AM []=0 from rfl,GB]
 ·rw[Q0]at h1 h2 h3⊢
  have el:((((m++[c]).map AY).length:Nat):Int)=((m.length+1:Nat):Int):=by rw[Ap,Bo];rfl
  rw[Bo,GM]at h3;have e1:decide (((m.length+1:Nat):Int)>0)=true:=AZ (by omega);have wk:IntKind.i64.wrap (((m.length+1:Nat):Int)-1)=(m.length:Int):=by rw[wI (by omega) (by omega)];omega
  have wraw:IntKind.i64.wrap (((((m++[c]).map AY).length:Nat):Int)-1)=(m.length:Int):=by rw[el,wk]
  have hx:((m++[c]).map AY)[m.length]?=some (AY c):=Db (by simp);have ec:=rl c;refine Am w1 100 (by kernel_rfl) ?_;refine AT (Ac el e1) ?_;refine AD (C5 e1 wraw el wk kN) ?_;refine Bl e1 hx ?_;refine AD (C5 e1 wraw el wk ec) ?_
  by_cases hc:c=0
  ·rw[AZ hc]
   subst hc;have e4:List.take (m.length-0) (List.drop 0 ((m++[0]).map AY))=m.map AY:=by simp
   have e5:List.take m.length ((m++[0]).map AY)=m.map AY:=by simp
   rw[Se]at h1;refine AJ ?_;refine Ak ?_;refine AC.block ?_;refine Am w1 200 (by kernel_rfl) ?_;refine AT (C5 el wk wraw kN e4) ?_;exact⟨(m,_),⟨h1,λa ha=>h2 a (J8 _ ha),by dsimp only;omega⟩,by dsimp only;rw[Bo,GM];omega,AL⟩
  ·rw[Ag hc]
   refine AJ ?_;refine B6 ?_;refine sR 300 ?_;refine Ab ?_;refine AO (d0:=rL (m++[c])) ?_ AA.out;unfold rD;rw[<-h1,Xa h2 hc]
theorem SJ (l:List Nat)(i:Nat)(hlen:l.length<4000000000)(hi:i<4000000000):AI C0 295 [rL l,AY i] (AY (l.getD i 0)):=by
 refine Ah.walk w1 ot rfl λF=>?_
 unfold rL;have el:(((l.map AY).length:Nat):Int)=(l.length:Int):=by rw[Ap]
 refine sR 0 ?_;refine AC.seq ?_;refine AC.seq ?_
 by_cases h:i<l.length
 ·have e1:decide ((i:Int)<(l.length:Int))=true:=AZ (by omega)
  obtain⟨a,ha⟩:=CH h;have hx:=Db ha;have eg:l.getD i 0=a:=by rw[E3,ha];rfl
  rw[eg];refine Am w1 100 (by kernel_rfl) ?_;refine AT (Ac el e1) ?_;refine AJ ?_;refine sZ 200 ?_;refine AD kN ?_;refine Bl kT hx ?_;refine AD kN ?_;refine Ab ?_;exact AO rfl AA.out
 ·have e1:decide ((i:Int)<(l.length:Int))=false:=Ag (by omega)
  have eg:l.getD i 0=0:=by rw[E3,DS (by omega)];rfl
  rw[eg];refine Am w1 100 (by kernel_rfl) ?_;refine AT (Ac el e1) ?_;refine AJ ?_;refine Ak ?_;refine sR 300 ?_;refine Ab ?_;exact AO rfl AA.out
theorem QP (a b:Nat)(ha:(AW a).length<4000000000)(hb:(AW b).length<4000000000):AI C0 226 [rD a,rD b] (i64 (Dh a b)):=by
 refine Ah.walk w1 nq rfl λF=>?_
 have hwa:=EL a;have hwb:=EL b;have va:=Ds a;have vb:=Ds b;have hlt:=@US a b;have hgt:=@US b a;unfold rD rL Dh;generalize AW a=la at*;generalize AW b=lb at*;have ea:(((la.map AY).length:Nat):Int)=(la.length:Int):=by rw[Ap]
 have eb:(((lb.map AY).length:Nat):Int)=(lb.length:Int):=by rw[Ap]
 refine sR 0 ?_;refine AC.seq ?_;refine sZ 100 ?_;refine AT (Ac ea eb) ?_;refine AJ ?_
 (refine Bq (λh10=>?_) (λh10=>?_))<;>(try simp only[Bd,Bn]at h10)<;>(try simp only[h10])
 ·have hne:la.length≠lb.length:=by
   have:(la.length:Int)≠lb.length:=by simpa using h10
   omega
  refine AC.seq ?_;refine sZ 200 ?_;refine AT (Ac ea eb) ?_;refine AJ ?_
  (refine Bq (λh15=>?_) (λh15=>?_))<;>(try simp only[Bd,Bn]at h15)<;>(try simp only[h15])
  ·have h1:la.length<lb.length:=by
    have:(la.length:Int)<lb.length:=by simpa using h15
    omega
   rw[AH (by have:=hlt h1;omega)];refine sR 300 ?_;refine Ab ?_;exact AO rfl AA.out
  ·have h1:lb.length<la.length:=by
    have:¬(la.length:Int)<lb.length:=by simpa using h15
    omega
   have h2:=hgt h1;rw[AE (by omega),AH (by omega)];refine Ak ?_;refine sR 400 ?_;refine Ab ?_;exact AO rfl AA.out
 ·have hl:la.length=lb.length:=by
   have:(la.length:Int)=lb.length:=by simpa using h10
   omega
  clear hlt hgt;refine Ak ?_;refine AC.seq ?_;refine sZ 500 ?_;refine AT ea ?_;refine AC.block ?_;have w0:IntKind.i64.wrap ((la.length:Int)-1)=(la.length:Int)-1:=wI (by omega) (by omega);rw[w0];refine AC.loop (α:=Nat×Nat) (λp=>⟨[(0,.sl false 1 (la.map AY)),(1,.sl false 1 (lb.map AY)),(5,i64 ((p.1:Int)-1))],[],p.2⟩) (λp=>p.1)
   (λp=>p.1<=la.length/\la.drop p.1=lb.drop p.1) (la.length,_) ⟨Ae _,by rw[KC,hl,KC]⟩ AL ?_
  rintro⟨k,m⟩ F ⟨h1,h2⟩;dsimp only at h1 h2⊢;refine AC.seq ?_;refine sR 600 ?_;refine AJ ?_
  (refine Bq (λh20=>?_) (λh20=>?_))<;>(try simp only[Bd,Bn]at h20)<;>(try simp only[h20])
  ·obtain⟨j,rfl⟩:∃j,k=j+1:=⟨k-1,by
    have:(k:Int)-1>=0:=by simpa using h20
    omega⟩
   have wj:((j+1:Nat):Int)-1=(j:Int):=by omega
   obtain⟨x,hx⟩:∃x,la[j]?=some x:=⟨la[j],BF (by omega)⟩
   obtain⟨y,hy⟩:∃y,lb[j]?=some y:=⟨lb[j],BF (by omega)⟩
   have hx':=Db hx;have hy':=Db hy;rw[wj];refine Ak ?_;refine AC.seq ?_;refine AC.block ?_;refine AC.seq ?_;refine AC.seq ?_;refine B5 w1 800 [0,1,2,3,4,5,6,7] [8] (by kernel_rfl) ?_;refine AD kN ?_;refine Bl kT hx' ?_;refine AD kN ?_;refine Bl kT hy' ?_;refine AD kN ?_;refine AD kN ?_;refine AJ ?_
   (refine Bq (λh31=>?_) (λh31=>?_))<;>(try simp only[Bd,Bn]at h31)<;>(try simp only[h31])
   ·have hxy:x<y:=by
     have:=Cw h31
     omega
    have:=Ua hwa hx hy h2 hxy
    rw[AH (by omega)];refine sR 900 ?_;refine Ab ?_;exact AO rfl AA.out
   ·have hxy0:¬x<y:=by
     have:=Cz h31
     omega
    refine Ak ?_;refine AC.seq ?_;refine B5 w1 1000 [0,1,2,3,4,5,6,7] [8] (by kernel_rfl) ?_;refine AD kN ?_;refine Bl kT hx' ?_;refine AD kN ?_;refine Bl kT hy' ?_;refine AD kN ?_;refine AD kN ?_;refine AJ ?_
    (refine Bq (λh40=>?_) (λh40=>?_))<;>(try simp only[Bd,Bn]at h40)<;>(try simp only[h40])
    ·have hxy:y<x:=by
      have:=Cw h40
      omega
     have:=Ua hwb hy hx h2.symm hxy
     rw[AE (by omega),AH (by omega)];refine sR 1100 ?_;refine Ab ?_;exact AO rfl AA.out
    ·have hxy:x=y:=by
      have:=Cz h40
      omega
     subst hxy;have w5:IntKind.i64.wrap ((j:Int)-1)=(j:Int)-1:=wI (by omega) (by omega);refine Ak ?_;refine Am w1 700 (by kernel_rfl) ?_;refine AT w5 ?_;have hj:=(List.getElem?_eq_some_iff.1 hx)
     have hj':=(List.getElem?_eq_some_iff.1 hy)
     refine⟨(j,_),⟨by dsimp only;omega,?_⟩,by dsimp only;omega,AL⟩;dsimp only;rw[EU hj.1,EU hj'.1,hj.2,hj'.2,h2]
  ·have hk:k=0:=by
    have:¬((k:Int)-1>=0):=by simpa using h20
    omega
   subst hk;have hab:a=b:=by
    rw[<-va,<-vb]
    have:la=lb:=by simpa using h2
    rw[this]
   subst hab;rw[AE (by omega),AE (by omega)];refine B6 ?_;refine sR 1200 ?_;refine Ab ?_;exact AO rfl AA.out
theorem RN (l:List Nat)(i:Nat):AM (l.take (i+1))=AM (l.take i)+RB^i*l.getD i 0:=by
 by_cases h:i<l.length
 ·obtain⟨a,ha⟩:=CH h
  rw[El ha,GU (i:=i) (by rw[Bf];omega),E3,ha];rfl
 ·rw[B1 (by omega),B1 (by omega),E3,DS (by omega)]
  simp
theorem Rw {l:List Nat}(h:Rd l)(i:Nat):l.getD i 0<RB:=by
 by_cases hi:i<l.length
 ·obtain⟨a,ha⟩:=CH hi
  rw[E3,ha];exact h a (BA ha)
 ·rw[E3,DS (by omega)];decide
theorem Vm (l:List Nat)(i:Nat):AM (l.take i)<=AM l:=by
 conv=>rhs;rw[<-Ef i l]
 rw[Ie];exact Nat.le_add_right _ _
theorem U6 {a i:Nat}(h:i<(AW a).length):RB^i<=a:=by
 obtain⟨k,hk⟩:∃k,(AW a).length=k+1:=⟨(AW a).length-1,by omega⟩
 exact BO (Ez (by decide) (by omega)) (Ra hk)
structure NT (a b:Nat)(i c:Nat)(out:List Nat):Prop where
 len:out.length=i
 wd:Rd out
 c1:c<=1
 val:AM out+RB^i*c=AM ((AW a).take i)+AM ((AW b).take i)
 can:i=0\/RB^(i-1)<=a+b
theorem iv {a b i c:Nat}{out:List Nat}(I:NT a b i c out)(h:i<(AW a).length\/i<(AW b).length\/0<c):
  NT a b (i+1) (((AW a).getD i 0+(AW b).getD i 0+c)/RB) (out++[((AW a).getD i 0+(AW b).getD i 0+c)%RB])/\(AW a).getD i 0+(AW b).getD i 0+c<2*RB:=by
 obtain⟨len,wd,c1,val,can⟩:=I;have h1:=Rw (EL a) i;have h2:=Rw (EL b) i;have hs:(AW a).getD i 0+(AW b).getD i 0+c<2*RB:=by omega
 have e1:=RN (AW a) i;have e2:=RN (AW b) i;have ta:=Vm (AW a) i;have tb:=Vm (AW b) i;rw[Ds]at ta tb;refine⟨⟨by rw[Bo,len];rfl,Rd.append wd λx hx=>?_,?_,?_,.inr ?_⟩,hs⟩
 ·simp only[A0,DC,or_false]at hx
  subst hx;exact Bz _ (by decide)
 ·exact Md (Eg (by rw[BP];exact hs))
 ·rw[GU len,e1,e2,CE,Br]
  have e:=ET ((AW a).getD i 0+(AW b).getD i 0+c) RB;generalize(AW a).getD i 0=p at*;generalize(AW b).getD i 0=q at*;have e3:RB^i*((p+q+c)%RB+RB*((p+q+c)/RB))=RB^i*(p+q+c):=by rw[e]
  rw[BJ,BJ,BJ (RB^i) p]at e3;omega
 ·rw[H5]
  rcases h with h|h|h
  ·have:=U6 h;omega
  ·have:=U6 h;omega
  ·have hc:c=1:=by omega
   subst hc;rw[Dy]at val;omega
theorem iu {a b i:Nat}{out:List Nat}(I:NT a b i 0 out)(h1:¬i<(AW a).length)(h2:¬i<(AW b).length):out=AW (a+b):=by
 obtain⟨len,wd,c1,val,can⟩:=I;rw[B1 (by omega),B1 (by omega),Ds,Ds,EJ,DL]at val;rcases Q1 out with rfl|⟨m,c,rfl⟩
 ·rw[<-val];unfold AW;rfl
 ·rw[Q0]at*
  rw[Bo,GM]at len;have hc:c≠0:=by
   intro hc;subst hc;rcases can with h|h
   ·omega
   ·rw[Se]at val
    have:=Fl (l:=m) λx hx=>wd x (J8 _ hx)
    rw[show i-1=m.length by omega]at h;omega
  rw[<-val,Xa wd hc]
theorem r8 (a b:Nat)(ha:(AW a).length<1000000)(hb:(AW b).length<1000000):AI C0 269 [rD a,rD b] (rD (a+b)):=by
 refine Ah.walk w1 pu rfl λF=>?_
 have hT:Fz [] [] (rD a) (rD a):=.refl _;change AC C0 F none F _ ⟨DE 0 [.sl false 1 ((AW a).map AY),.sl false 1 ((AW b).map AY)],[],0⟩ _;have ea:((((AW a).map AY).length:Nat):Int)=((AW a).length:Int):=by rw[Ap]
 have eb:((((AW b).map AY).length:Nat):Int)=((AW b).length:Int):=by rw[Ap]
 have I0:NT a b 0 0 []:=⟨rfl,(λx hx=>Aa hx DC),BT _,by simp[AM],.inl rfl⟩
 refine sR 0 ?_;refine sR 100 ?_;refine sR 200 ?_;refine AC.seq ?_;refine sR 300 ?_;refine AC.block ?_;refine AC.loop (α:=Nat×Nat×List Nat×List D×Nat×Nat) (λp=>⟨[(0,.sl false 1 ((AW a).map AY)),(1,.sl false 1 ((AW b).map AY)),(5,Da 704 p.2.2.2.2.1 1 p.2.2.2.1),(6,AY p.2.1),(7,AY p.1)],DW 704 p.2.2.2.2.1 3 1 p.2.2.2.1,p.2.2.2.2.2⟩)
  (λp=>(max (AW a).length (AW b).length-p.1)*2+p.2.1) (λp=>NT a b p.1 p.2.1 p.2.2.1/\p.2.2.2.1=p.2.2.1.map AY/\p.1<=max (AW a).length (AW b).length+1) (0,0,[],[],0,_) ⟨I0,rfl,BT _⟩ AL ?_
 rintro⟨i,c,out,L,g,n⟩ F ⟨I,hL,hi⟩;dsimp only at I hL hi⊢;have c1:=I.c1;have hol:=I.len;refine AC.seq ?_;refine Ck (α:=Nat) (λn=>⟨[(0,.sl false 1 ((AW a).map AY)),(1,.sl false 1 ((AW b).map AY)),(5,Da 704 g 1 L),(6,AY c),(7,AY i),(22,Aq (decide (i<(AW a).length\/i<(AW b).length\/0<c)))],DW 704 g 3 1 L,n⟩) (λ_=>True) ?_ ?_
 ·generalize Da 704 g 1 L=od at*
  generalize DW 704 g 3 1 L=oh at*
  by_cases h1:i<(AW a).length
  ·have e1:decide ((i:Int)<((AW a).length:Int))=true:=AZ (by omega)
   have e:decide (i<(AW a).length\/i<(AW b).length\/0<c)=true:=AZ (.inl h1);rw[e];refine Am w1 400 (by kernel_rfl) ?_;refine AT (Ac ea e1) ?_;refine AD kT ?_;refine AD kT ?_;exact⟨trivial,_,trivial,AL⟩
  ·have e1:decide ((i:Int)<((AW a).length:Int))=false:=Ag (by omega)
   by_cases h2:i<(AW b).length
   ·have e2:decide ((i:Int)<((AW b).length:Int))=true:=AZ (by omega)
    have e:decide (i<(AW a).length\/i<(AW b).length\/0<c)=true:=AZ (.inr (.inl h2));rw[e];refine Am w1 400 (by kernel_rfl) ?_;refine AT (Ac ea e1) ?_;refine AD kF ?_;simp only[eb,e2];refine AD kT ?_;exact⟨trivial,_,trivial,AL⟩
   ·have e2:decide ((i:Int)<((AW b).length:Int))=false:=Ag (by omega)
    have e:decide ((c:Int)>0)=decide (i<(AW a).length\/i<(AW b).length\/0<c):=by rw[Co];omega
    rw[<-e];refine Am w1 400 (by kernel_rfl) ?_;refine AT (Ac ea e1) ?_;refine AD kF ?_;simp only[eb,e2];refine AD kF ?_;exact⟨trivial,_,trivial,AL⟩
 rintro n2 -
 by_cases h:i<(AW a).length\/i<(AW b).length\/0<c
 ·obtain⟨J,hs⟩:=iv I h
  have d1:=SJ (AW a) i (by omega) (by omega);have d2:=SJ (AW b) i (by omega) (by omega);unfold rL at d1 d2;have hmu:∀c',c'<=1->(max (AW a).length (AW b).length<=i->c'=0)->(max (AW a).length (AW b).length-(i+1))*2+c'<(max (AW a).length (AW b).length-i)*2+c:=λc' h1 h2=>by
   rcases BH i (max (AW a).length (AW b).length)with h3|h3
   ·omega
   ·have:=h2 h3;omega
  have hmu2:max (AW a).length (AW b).length<=i->((AW a).getD i 0+(AW b).getD i 0+c)/RB=0:=λh3=>by
   rw[E3,DS (by omega),E3,DS (by omega)];show(0+0+c)/1000000000=0;omega
  have hbnd:i<max (AW a).length (AW b).length+1:=by
   rcases h with h|h|h
   ·omega
   ·omega
   ·rcases BH i (max (AW a).length (AW b).length+1)with h3|h3
    ·exact h3
    ·exfalso
     obtain⟨len,wd,_,val,_⟩:=I;have hc:c=1:=by omega
     subst hc;rw[B1 (by omega),B1 (by omega),Ds,Ds,Dy]at val;have l1:=IA a;have l2:=IA b;have m1:RB^(AW a).length<=RB^max (AW a).length (AW b).length:=Ez (by decide) (Nat.le_max_left _ _);have m2:RB^(AW b).length<=RB^max (AW a).length (AW b).length:=Ez (by decide) (Nat.le_max_right _ _);have m3:RB^(max (AW a).length (AW b).length+1)<=RB^i:=Ez (by decide) h3;rw[CE]at m3;generalize RB^max (AW a).length (AW b).length=Q at*;change Q*1000000000<=_ at m3;omega
  have hmu3:=hmu _ J.c1 hmu2;rw[AZ h];generalize hp:(AW a).getD i 0=p at*;generalize hq:(AW b).getD i 0=q at*;have k1:IntKind.i64.wrap ((p:Int)+(q:Int))=((p+q:Nat):Int):=by rw[wI (by omega) (by unfold RB at hs;omega)];omega
  have k2:IntKind.i64.wrap (((p+q:Nat):Int)+(c:Int))=((p+q+c:Nat):Int):=by rw[wI (by omega) (by unfold RB at hs;omega)];omega
  have k3:((p+q+c:Nat):Int).tmod 1000000000=(((p+q+c)%RB:Nat):Int):=rfl;have k4:IntKind.i64.wrap (((p+q+c:Nat):Int).tdiv 1000000000)=(((p+q+c)/RB:Nat):Int):=by
   show IntKind.i64.wrap ((((p+q+c)/1000000000:Nat)):Int)=_;exact wN (by unfold RB at hs;omega)
  have wi:IntKind.i64.wrap ((i:Int)+1)=((i+1:Nat):Int):=wI (by omega) (by omega);generalize(p+q+c)%RB=d at*;generalize(p+q+c)/RB=c' at*;have hlo:L.length<=1000001:=by rw[hL,Ap];omega
  have hmo:L++[AY d]=(out++[d]).map AY:=by rw[hL,C4];rfl
  clear hmu hmu2 ea eb hL I;refine AJ ?_;refine Ak ?_;refine AC.seq ?_;refine AC.block ?_;refine sR 600 ?_;refine cI d1 ?_;refine cI d2 ?_;simp only[k1,k2];refine AC.seq ?_;rcases L with _|⟨x,L⟩
  all_goals
   (try simp only[Bk]at hlo)
   dsimp only[G1,G3,Fi,Fj];refine Am w1 700 (by kernel_rfl) ?_;refine AT k3 ?_;refine Am w1 800 (by kernel_rfl) ?_;refine AT k4 ?_;refine Am w1 500 (by kernel_rfl) ?_;refine AT wi ?_
  ·exact⟨(i+1,c',out++[d],[]++[AY d],_,_),⟨J,hmo,hbnd⟩,hmu3,AL⟩
  ·have htk:List.take (L.length+1) (x::L)=x::L:=by simp
   rw[htk];refine⟨(i+1,c',out++[d],x::L++[AY d],_,_),⟨J,hmo,hbnd⟩,hmu3,by(dsimp only;rw[Mw];exact AL)⟩
 ·rw[Ag h]
  have hc:c=0:=by omega
  subst hc;have hout:=iu I (by omega) (by omega);refine AJ ?_;refine B6 ?_;refine sR 900 ?_;refine Ab ?_;refine⟨_,QC _ _ _ _ _,?_,?_⟩
  ·rw[hL];exact NS _
  ·rw[hL,hout];rfl
set_option maxHeartbeats 4000000
theorem sF {env:An}{t K g T n:Nat}{l:List D}(he:env.get t=Da K g 1 l:=by exact rfl):Wk ⟨env,DW K g T 1 l,n⟩ ⟨[(t,.sl false 1 l)],[],n⟩:=by
 refine⟨?_,⟨?_,trivial⟩,Ae _⟩
 ·cases l with
  |nil=>exact .nil
  |cons x l=>exact .drop .nil
 ·dsimp only
  rw[he];exact QC _ _ _ _ _
theorem mS {env:An}{t K g n N:Nat}{z:List Nat}{T:Nat}(hl:z.length=N)(he:env.get t=.osl K g 1 0 N:=by exact rfl):Wk ⟨env,[⟨K,g,T,1,z.map AY⟩],n⟩ ⟨[(t,.sl false 1 (z.map AY))],[],n⟩:=by
 subst hl;refine⟨.drop .nil,⟨?_,trivial⟩,Ae _⟩;dsimp only;rw[he]
 have:=QD K g T 1 (z.map AY)
 rwa [Ap]at this
theorem dQ {a v c:Nat}(ha:a<RB)(hv:v<RB)(hc:c<=1):∃d c',d<RB/\c'<=1/\d+v+c=a+RB*c'/\((c'=0/\(a:Int)-v-c=d)\/(c'=1/\(a:Int)-v-c<0/\(a:Int)-v-c+1000000000=d)):=by
 unfold RB at ha hv⊢
 by_cases h:a<v+c
 ·exact⟨a+1000000000-v-c,1,by omega,by omega,by omega,.inr ⟨rfl,by omega,by omega⟩⟩
 ·exact⟨a-v-c,0,by omega,by omega,by omega,.inl ⟨rfl,by omega⟩⟩
theorem aj (a b:Nat)(hab:b<=a)(ha:(AW a).length<1000000):AI C0 270 [rD a,rD b] (rD (a-b)):=by
 refine Ah.walk w1 pv rfl λF=>?_
 change AC C0 F none F _ ⟨DE 0 [.sl false 1 ((AW a).map AY),.sl false 1 ((AW b).map AY)],[],0⟩ _;have hlb:=H9 b a hab;have va:=Ds a;have vb:=Ds b;have wx:=EL a;have wy:=EL b;generalize AW a=x at*;generalize AW b=y at*;have ea:(((x.map AY).length:Nat):Int)=(x.length:Int):=by rw[Ap]
 refine sR 0 ?_;refine sR 100 ?_;refine sR 200 ?_;refine AC.seq ?_;refine sR 300 ?_;refine AC.block ?_;refine AC.loop (α:=Nat×Nat×List Nat×List D×Nat×Nat) (λp=>⟨[(0,.sl false 1 (x.map AY)),(1,.sl false 1 (y.map AY)),(5,Da 1103 p.2.2.2.2.1 1 p.2.2.2.1),(6,AY p.2.1),(7,AY p.1)],DW 1103 p.2.2.2.2.1 3 1 p.2.2.2.1,p.2.2.2.2.2⟩)
  (λp=>x.length-p.1) (λp=>p.1<=x.length/\p.2.1<=1/\p.2.2.1.length=p.1/\Rd p.2.2.1/\AM p.2.2.1+AM (y.take p.1)=AM (x.take p.1)+RB^p.1*p.2.1/\p.2.2.2.1=p.2.2.1.map AY) (0,0,[],[],0,_) ⟨BT _,BT _,rfl,(λx hx=>Aa hx DC),by simp[AM],rfl⟩ AL ?_
 rintro⟨i,c,out,L,g,n⟩ F ⟨hi,hc,hol,how,hI,hL⟩;dsimp only at hi hc hol how hI hL⊢;refine AC.seq ?_;refine AC.seq ?_
 by_cases h:i<x.length
 ·have e1:decide ((i:Int)<(x.length:Int))=true:=AZ (by omega)
  obtain⟨p,hp⟩:=CH h;have hx:=Db hp;have hpl:=wx p (BA hp);have d2:=SJ y i (by omega) (by omega);unfold rL at d2;have hql:=Rw wy i;have ty:=RN y i;have tx:AM (x.take (i+1))=AM (x.take i)+RB^i*p:=by rw[El hp,GU (i:=i) (by rw[Bf];omega)]
  generalize y.getD i 0=q at*;obtain⟨d,c',hd,hc',hdig,hcase⟩:=dQ hpl hql hc;have k1:IntKind.i64.wrap ((p:Int)-(q:Int))=(p:Int)-q:=wI (by unfold RB at*;omega) (by unfold RB at*;omega);have k2:IntKind.i64.wrap ((p:Int)-q-(c:Int))=(p:Int)-q-c:=wI (by unfold RB at*;omega) (by unfold RB at*;omega);have wi:IntKind.i64.wrap ((i:Int)+1)=((i+1:Nat):Int):=wI (by omega) (by omega);have hlo:L.length<=1000001:=by rw[hL,Ap];omega
  have hmo:L++[AY d]=(out++[d]).map AY:=by rw[hL,C4];rfl
  have hvn:AM (out++[d])+AM (y.take (i+1))=AM (x.take (i+1))+RB^(i+1)*c':=by
   rw[GU hol,ty,tx,CE,Br];have e3:RB^i*(d+q+c)=RB^i*(p+RB*c'):=by rw[hdig]
   rw[BJ,BJ,BJ (RB^i) p]at e3;omega
  have how':Rd (out++[d]):=Rd.append how λx hx=>by
   simp only[A0,DC,or_false]at hx;subst hx;exact hd
  have hol':(out++[d]).length=i+1:=by rw[Bo,hol];rfl
  clear hI hL how;refine Am w1 400 (by kernel_rfl) ?_;refine AT (Ac ea e1) ?_;refine AJ ?_;refine Ak ?_;refine AC.seq ?_;refine AC.block ?_;refine AC.seq ?_;refine B5 w1 600 [0,1,2,3,4,5,6,7,8] [9,10] (by kernel_rfl) ?_;refine AD kN ?_;refine Bl kT hx ?_;refine AD kN ?_;refine BQ.same _ d2 AG ?_;refine AD (Ac k1 k2) ?_;refine sR 700 ?_;refine Ck (α:=Nat) (λn=>⟨[(0,.sl false 1 (x.map AY)),(1,.sl false 1 (y.map AY)),(5,Da 1103 g 1 L),(6,AY c'),(7,AY i),(8,AY d)],DW 1103 g 3 1 L,n⟩) (λ_=>True) ?_ ?_
  ·generalize Da 1103 g 1 L=od at*
   generalize DW 1103 g 3 1 L=oh at*;refine AC.seq ?_;rcases hcase with⟨rfl,h2⟩|⟨rfl,h2,h3⟩
   ·have e2:decide ((p:Int)-q-c<0)=false:=Ag (by omega)
    rw[h2]at e2;rw[h2];refine Am w1 800 (by kernel_rfl) ?_;refine AT e2 ?_;refine AJ ?_;refine Ak ?_;exact⟨rfl,_,trivial,AL⟩
   ·have e2:decide ((p:Int)-q-c<0)=true:=AZ h2
    have k3:IntKind.i64.wrap ((p:Int)-q-c+1000000000)=(d:Int):=by rw[h3];exact wI (by unfold RB at*;omega) (by unfold RB at*;omega)
    refine Am w1 800 (by kernel_rfl) ?_;refine AT e2 ?_;refine AJ ?_;refine sZ 900 ?_;refine AT k3 ?_;refine rI 1000 ?_;exact⟨rfl,_,trivial,AL⟩
  rintro n3 -;rcases L with _|⟨x0,L⟩
  all_goals
   (try simp only[Bk]at hlo)
   dsimp only[G1,G3,Fi,Fj];refine rI 1100 ?_;refine Am w1 500 (by kernel_rfl) ?_;refine AT wi ?_
  ·exact⟨(i+1,c',out++[d],[]++[AY d],_,_),⟨h,hc',hol',how',hvn,hmo⟩,by dsimp only;omega,AL⟩
  ·have htk:List.take (L.length+1) (x0::L)=x0::L:=by simp
   rw[htk];refine⟨(i+1,c',out++[d],x0::L++[AY d],_,_),⟨h,hc',hol',how',hvn,hmo⟩,by dsimp only;omega,by(dsimp only;rw[Mw];exact AL)⟩
 ·have e1:decide ((i:Int)<(x.length:Int))=false:=Ag (by omega)
  have hix:i=x.length:=by omega
  subst hix;rw[B1 (by omega),B1 (by omega),va,vb]at hI;have hlt:=Fl how;rw[hol]at hlt;have hxl:=Fl wx;rw[va]at hxl;have hov:AM out=a-b:=by
   rcases DU c with h|h
   ·subst h;rw[EJ]at hI;omega
   ·have:c=1:=by omega
    subst this;rw[Dy]at hI;omega
  refine Am w1 400 (by kernel_rfl) ?_;refine AT (Ac ea e1) ?_;refine AJ ?_;refine B6 ?_;refine AC.weak ⟨[(5,.sl false 1 L)],[],_⟩ sF ?_;rw[hL];refine sR 1200 ?_;refine Az.same _ (Kn out how (by omega)) AG ?_;refine BK ?_;refine Ab ?_;exact AO (by rw[hov]) AA.out
theorem Tk (a b:Nat)(hla:(AW a).length<1000000)(hlb:(AW b).length<1000000):AI C0 178 [rD a,rD b] (rD (a*b)):=by
 refine Ah.walk w1 oW rfl λF=>?_
 change AC C0 F none F _ ⟨DE 0 [.sl false 1 ((AW a).map AY),.sl false 1 ((AW b).map AY)],[],0⟩ _;have va:=Ds a;have vb:=Ds b;have ha:=EL a;have hb:=EL b;generalize AW a=x at*;generalize AW b=y at*;subst va;subst vb;have ea:(((x.map AY).length:Nat):Int)=(x.length:Int):=by rw[Ap]
 have eb:(((y.map AY).length:Nat):Int)=(y.length:Int):=by rw[Ap]
 have wl:IntKind.i64.wrap ((x.length:Int)+(y.length:Int))=((x.length+y.length:Nat):Int):=by rw[wI (by omega) (by omega)];omega
 have r3:List.replicate (x.length+y.length) (ofV (.int .i64 0))=(List.replicate (x.length+y.length) 0).map AY:=by rw[JD];rfl
 refine sR 0 ?_;refine sZ 100 ?_;refine AT (Bh ea eb wl kN) ?_;refine AC.seq ?_;refine sR 200 ?_;refine AC.block ?_;refine AC.loop (α:=Nat×List Nat×Nat) (λp=>⟨[(0,.sl false 1 (x.map AY)),(1,.sl false 1 (y.map AY)),(5,.osl 105 6 1 0 (x.length+y.length)),(6,i64 p.1)],[⟨105,6,3,1,p.2.1.map AY⟩],p.2.2⟩) (λp=>x.length-p.1)
  (λp=>p.1<=x.length/\p.2.1.length=x.length+y.length/\Rd p.2.1/\AM p.2.1=AM (x.take p.1)*AM y/\∀k,p.1+y.length<=k->∀d,p.2.1[k]?=some d->d=0) (0,List.replicate (x.length+y.length) 0,_)
  ⟨BT _,by simp,RP _,by simp[AM,Ub],λk _ d hd=>OH (BA hd)⟩ (by rw[<-r3];exact AL) ?_
 rintro⟨i,o,m⟩ F ⟨h1,h2,h3,h4,h5⟩;dsimp only at h1 h2 h3 h4 h5⊢;refine AC.seq ?_;refine AC.seq ?_
 by_cases hi:i<x.length
 ·have e1:decide ((i:Int)<(x.length:Int))=true:=AZ (by omega)
  obtain⟨p,hp⟩:=CH hi;have hp':=Db hp;have hpl:p<RB:=ha p (BA hp);have wi:IntKind.i64.wrap ((i:Int)+1)=((i+1:Nat):Int):=wI (by omega) (by omega);have hax:AM (x.take (i+1))=AM (x.take i)+RB^i*p:=by rw[El hp,GU (i:=i) (by rw[Bf];omega)]
  refine Am w1 300 (by kernel_rfl) ?_;refine AT (Ac ea e1) ?_;refine AJ ?_;refine Ak ?_;refine AC.seq ?_;refine AC.block ?_;refine sR 500 ?_;refine AC.seq ?_;refine sR 600 ?_;refine AC.block ?_;refine AC.loop (α:=Nat×Nat×List Nat×Nat) (λq=>⟨[(0,.sl false 1 (x.map AY)),(1,.sl false 1 (y.map AY)),(5,.osl 105 6 1 0 (x.length+y.length)),(6,i64 i),(7,AY q.2.1),(8,i64 q.1)],[⟨105,6,3,1,q.2.2.1.map AY⟩],q.2.2.2⟩) (λq=>y.length-q.1)
   (λq=>q.1<=y.length/\q.2.1<RB/\q.2.2.1.length=x.length+y.length/\Rd q.2.2.1/\AM q.2.2.1+RB^(i+q.1)*q.2.1=AM (x.take i)*AM y+RB^i*p*AM (y.take q.1)/\∀k,i+y.length<=k->∀d,q.2.2.1[k]?=some d->d=0) (0,0,o,_)
   ⟨BT _,(show 0<RB by decide),h2,h3,by simp[AM,h4],h5⟩ AL ?_
  rintro⟨j,c,q,m2⟩ F ⟨g1,g2,g3,g4,g5,g6⟩;dsimp only at g1 g2 g3 g4 g5 g6⊢;clear h2 h3 h4 h5 r3 wl;refine AC.seq ?_;refine AC.seq ?_
  by_cases hj:j<y.length
  ·have e2:decide ((j:Int)<(y.length:Int))=true:=AZ (by omega)
   obtain⟨r,hr⟩:=CH hj;have hr':=Db hr;have hrl:r<RB:=hb r (BA hr);obtain⟨z,hz⟩:=CH (l:=q) (i:=i+j) (by omega);have hz':=Db hz;have hzl:z<RB:=g4 z (BA hz);have wj:IntKind.i64.wrap ((j:Int)+1)=((j+1:Nat):Int):=wI (by omega) (by omega);have wij:IntKind.i64.wrap ((i:Int)+(j:Int))=((i+j:Nat):Int):=by rw[wI (by omega) (by omega)];omega
   have hbx:AM (y.take (j+1))=AM (y.take j)+RB^j*r:=by rw[El hr,GU (i:=j) (by rw[Bf];omega)]
   have hpr:p*r<=999999999*999999999:=Hz (by unfold RB at hpl;omega) (by unfold RB at hrl;omega);have k0:IntKind.i64.wrap ((p:Int)*(r:Int))=((p*r:Nat):Int):=by rw[<-EG,wI (by omega) (by omega)]
   have k1:IntKind.i64.wrap ((z:Int)+((p*r:Nat):Int))=((z+p*r:Nat):Int):=by rw[wI (by omega) (by unfold RB at*;omega)];omega
   have k2:IntKind.i64.wrap (((z+p*r:Nat):Int)+(c:Int))=((z+p*r+c:Nat):Int):=by rw[wI (by omega) (by unfold RB at*;omega)];omega
   have hs:=Mq (d:=(z+p*r+c)%RB) hz;have e:=ET (z+p*r+c) RB;have hq:(z+p*r+c)/RB<RB:=Eg (by unfold RB at*;omega);have hd:(z+p*r+c)%RB<RB:=Bz _ (by decide);have k3:((z+p*r+c:Nat):Int).tmod 1000000000=(((z+p*r+c)%RB:Nat):Int):=rfl;have k4:IntKind.i64.wrap (((z+p*r+c:Nat):Int).tdiv 1000000000)=(((z+p*r+c)/RB:Nat):Int):=by
    show IntKind.i64.wrap ((((z+p*r+c)/1000000000:Nat)):Int)=_;exact wN (by change(z+p*r+c)/RB<=_;unfold RB at hq⊢;omega)
   have hval:AM (q.set (i+j) ((z+p*r+c)%RB))+RB^(i+(j+1))*((z+p*r+c)/RB)=AM (x.take i)*AM y+RB^i*p*AM (y.take (j+1)):=by
    rw[hbx,BJ,<-EI (AM (x.take i)*AM y),<-g5];have h6:RB^(i+j)*((z+p*r+c)%RB)+RB^(i+(j+1))*((z+p*r+c)/RB)=RB^i*p*(RB^j*r)+RB^(i+j)*z+RB^(i+j)*c:=by
     have:RB^i*p*(RB^j*r)=RB^(i+j)*(p*r):=by
      rw[Fd,Br,Br,Hx p]
     rw[this,<-EI i j 1,CE,Br,<-BJ,<-BJ,<-BJ,e]
     congr 1;omega
    omega
   generalize(z+p*r+c)%RB=d at*;generalize(z+p*r+c)/RB=c' at*;clear hs e g5 hax hbx;refine Am w1 700 (by kernel_rfl) ?_;refine AT (Ac eb e2) ?_;refine AJ ?_;refine Ak ?_;refine AC.seq ?_;refine AC.block ?_;refine AC.seq ?_;refine B5 w1 900 [0,1,2,3,4,5,6,7,8,9,10,11,12,13,14,15,16] [17,18] (by kernel_rfl) ?_;refine AD (Bh wij kN BM hz') ?_;refine Bl kT hp' ?_;refine AD (Bh wij kN BM hz') ?_;refine Bl kT hr' ?_;refine AD (Au k0 k1 k2) ?_;refine sZ 1000 ?_;refine AD (C5 wij kN BM hz' k3) ?_;rw[Lt];refine Am w1 1100 (by kernel_rfl) ?_;refine AT k4 ?_;refine Am w1 800 (by kernel_rfl) ?_;refine AT wj ?_;refine⟨(j+1,c',q.set (i+j) d,_),⟨hj,hq,by dsimp only;rw[DK];exact g3,g4.set hd,hval,λk hk d hd=>?_⟩,by dsimp only;omega,AL⟩;dsimp only at hk hd;rw[H3 (by omega)]at hd;exact g6 k hk d hd
  ·have e2:decide ((j:Int)<(y.length:Int))=false:=Ag (by omega)
   have hj:j=y.length:=by omega
   subst hj;obtain⟨z,hz⟩:=CH (l:=q) (i:=i+y.length) (by omega);have hz0:z=0:=g6 _ (Ae _) _ hz;subst hz0;have hz':=Db hz;have wij:IntKind.i64.wrap ((i:Int)+(y.length:Int))=((i+y.length:Nat):Int):=by rw[wI (by omega) (by omega)];omega
   have wij0:IntKind.i64.wrap ((i:Int)+(((y.map AY).length:Nat):Int))=((i+y.length:Nat):Int):=by rw[eb];exact wij
   have k1:IntKind.i64.wrap (((0:Nat):Int)+(c:Int))=(c:Int):=by rw[wI (by omega) (by unfold RB at*;omega)];omega
   have hs:=Mq (d:=c) hz;rw[B1 (Ae _)]at g5;have hval:AM (q.set (i+y.length) c)=AM (x.take (i+1))*AM y:=by
    rw[hax,Bp];omega
   clear hs g5 hax;refine Am w1 700 (by kernel_rfl) ?_;refine AT (Ac eb e2) ?_;refine AJ ?_;refine B6 ?_;refine Am w1 1200 (by kernel_rfl) ?_;refine AD (E7 eb wij kN BM hz' k1) ?_;rw[Lt];refine Am w1 400 (by kernel_rfl) ?_;refine AT wi ?_;refine⟨(i+1,q.set (i+y.length) c,_),⟨hi,by dsimp only;rw[DK];exact g3,g4.set g2,hval,λk hk d hd=>?_⟩,by dsimp only;omega,AL⟩;dsimp only at hk hd;rw[H3 (by omega)]at hd;exact g6 k (by omega) d hd
 ·have e1:decide ((i:Int)<(x.length:Int))=false:=Ag (by omega)
  have hi:i=x.length:=by omega
  subst hi;rw[B1 (Ae _)]at h4;refine Am w1 300 (by kernel_rfl) ?_;refine AT (Ac ea e1) ?_;refine AJ ?_;refine B6 ?_;refine AC.weak ⟨[(5,.sl false 1 (o.map AY))],[],_⟩ (mS h2) ?_;refine sR 1300 ?_;refine Az.same _ (Kn o h3 (by omega)) AG ?_;refine BK ?_;refine Ab ?_;exact AO (by rw[h4]) AA.out
theorem Nr (a b:Nat)(h:a/b<=9223372036854775807):IntKind.i64.wrap ((a:Int).tdiv (b:Int))=((a/b:Nat):Int):=by
 rw[<-Int.ofNat_tdiv];exact wN h
theorem QQ (a b:Nat):(a:Int).tmod (b:Int)=((a%b:Nat):Int):=(Int.ofNat_tmod a b).symm
theorem jT {env:An}{t K g n N t2:Nat}{z:List Nat}{T:Nat}{d2:D}(hl:z.length=N)(he:env.get t=.osl K g 1 0 N:=by exact rfl)(h2:env.get t2=d2:=by exact rfl):Wk ⟨env,[⟨K,g,T,1,z.map AY⟩],n⟩ ⟨[(t,.sl false 1 (z.map AY)),(t2,d2)],[],n⟩:=by
 subst hl;refine⟨.drop .nil,⟨?_,?_,trivial⟩,Ae _⟩
 ·dsimp only
  rw[he]
  have:=QD K g T 1 (z.map AY)
  rwa [Ap]at this
 ·dsimp only
  rw[h2];exact .refl _
theorem ja {r p d:Nat}(h:r*RB+p<d*RB)(hd:d<RB):IntKind.i64.wrap ((r:Int)*1000000000)=((r*RB:Nat):Int)/\IntKind.i64.wrap (((r*RB:Nat):Int)+(p:Int))=((r*RB+p:Nat):Int):=by
 unfold RB at*;refine⟨?_,?_⟩
 ·rw[wI (by omega) (by omega)];omega
 ·rw[wI (by omega) (by omega)];omega
theorem VE (a d:Nat)(hd:0<d)(hdl:d<RB)(hl:(AW a).length<1000000):AI C0 227 [rD a,AY d] (.tup [rD (a/d),AY (a%d)]):=by
 refine Ah.walk w1 nr rfl λF=>?_
 change AC C0 F none F _ ⟨DE 0 [.sl false 1 ((AW a).map AY),AY d],[],0⟩ _;have va:=Ds a;have wa:=EL a;generalize AW a=x at*;have ea:(((x.map AY).length:Nat):Int)=(x.length:Int):=by rw[Ap]
 have wl:IntKind.i64.wrap ((x.length:Int)-1)=(x.length:Int)-1:=wI (by omega) (by omega);have r3:List.replicate x.length (ofV (.int .i64 0))=(List.replicate x.length 0).map AY:=by rw[JD];rfl
 have d0:¬(d:Int)=0:=by omega
 refine sR 0 ?_;refine sZ 100 ?_;refine AT (Ac ea kN) ?_;refine sR 200 ?_;refine AC.seq ?_;refine sZ 300 ?_;refine AT (Ac ea wl) ?_;refine AC.block ?_;refine AC.loop (α:=Nat×Nat×List Nat×Nat) (λp=>⟨[(0,.sl false 1 (x.map AY)),(1,AY d),(6,.osl 102 4 1 0 x.length),(7,AY p.2.1),(8,i64 ((p.1:Int)-1))],[⟨102,4,3,1,p.2.2.1.map AY⟩],p.2.2.2⟩) (λp=>p.1)
  (λp=>p.1<=x.length/\p.2.1<d/\p.2.2.1.length=x.length/\Rd p.2.2.1/\AM (p.2.2.1.drop p.1)*d+p.2.1=AM (x.drop p.1)) (x.length,0,List.replicate x.length 0,_)
  ⟨Ae _,hd,by simp,RP _,by simp[AM]⟩ (by rw[<-r3];exact AL) ?_
 rintro⟨k,r,q,m⟩ F ⟨h1,h2,h3,h4,h5⟩;dsimp only at h1 h2 h3 h4 h5⊢;clear ea wl r3;refine AC.seq ?_;refine sR 400 ?_;refine AJ ?_
 (refine Bq (λh20=>?_) (λh20=>?_))<;>(try simp only[Bd,Bn]at h20)<;>(try simp only[h20])
 ·obtain⟨j,rfl⟩:∃j,k=j+1:=⟨k-1,by
   have:=Cw h20
   omega⟩
  have wj:((j+1:Nat):Int)-1=(j:Int):=by omega
  obtain⟨p,hp⟩:=CH (l:=x) (i:=j) (by omega);obtain⟨z,hz⟩:=CH (l:=q) (i:=j) (by omega);have hp':=Db hp;have hz':=Db hz;have hpl:=wa p (BA hp);obtain⟨J1,J2⟩:=bv hd hp (by omega) h5;have hsb:r*RB+p<d*RB:=by
   have:(r+1)*RB<=d*RB:=CC _ h2
   rw[Bp]at this;omega
  have hql:(r*RB+p)/d<RB:=Eg hsb;obtain⟨k1,k2⟩:=ja hsb hdl;have k3:=Nr (r*RB+p) d (BO (IY hql) (by decide));have k4:=QQ (r*RB+p) d;have wi:IntKind.i64.wrap ((j:Int)-1)=(j:Int)-1:=wI (by omega) (by omega);generalize(r*RB+p)/d=e at*;generalize(r*RB+p)%d=r' at*;rw[wj];refine Ak ?_;refine AC.seq ?_;refine AC.block ?_;refine sZ 600 ?_;refine AD kN ?_;refine Bl kT hp' ?_;refine AD (Ac k1 k2) ?_;refine sZ 700 ?_;refine AD (Bh kN BM hz' k3) ?_;rw[Lt];refine Am w1 800 (by kernel_rfl) ?_;refine AT k4 ?_;refine Am w1 500 (by kernel_rfl) ?_;refine AT wi ?_;exact⟨(j,r',q.set j e,_),⟨by dsimp only;omega,J2,by dsimp only;rw[DK];exact h3,h4.set hql,J1⟩,by dsimp only;omega,AL⟩
 ·have hk:k=0:=by
   have:=Cz h20
   omega
  subst hk;rw[E6,E6,va]at h5;obtain⟨q1,q2⟩:=O7 h5 h2;refine B6 ?_;refine AC.weak ⟨[(6,.sl false 1 (q.map AY)),(7,AY r)],[],_⟩ (jT h3) ?_;refine sR 900 ?_;refine Az.same _ (Kn q h4 (by omega)) AG ?_;refine BK ?_;refine Ab ?_;exact AO (by rw[q1,q2]) AA.out
structure Iu (U V n2 v1 p1 q r:Nat):Prop where
 eq:q*v1+r=n2
 up:U<(q+1)*V
 cap:n2<=v1*RB+p1
 p1l:p1<RB
namespace Iu
variable {U V n2 v1 p1 q r:Nat} (G:Iu U V n2 v1 p1 q r)
include G
theorem small (h:RB<=r):q<RB:=by
 rcases BH q RB with h1|h1
 ·exact h1
 ·exfalso
  have h2:=CC v1 h1;have h3:=G.eq;have h4:=G.cap;have h5:=G.p1l;rw[BP RB v1]at h2;omega
theorem qle (hv:0<v1):q<=2*RB:=by
 rcases BH (2*RB) q with h1|h1
 ·exfalso
  have h2:=CC v1 h1;have h3:=G.eq;have h4:=G.cap;have h5:=G.p1l;have h6:RB*1<=RB*v1:=CS _ hv;rw[Nat.succ_mul,Br,BP RB v1]at h2;rw[BP RB v1]at h6;omega
 ·exact h1
end Iu
section
variable {P v:List Nat} {m p0 p1 p2 v2 v1:Nat} (S:Jo P v m p0 p1 p2 v2 v1)
include S
theorem cJ:Iu (AM P) (AM v) (p1+RB*p2) v1 p1 ((p2*RB+p1)/v1) ((p2*RB+p1)%v1):=by
 have c0:p2*RB+p1=p1+RB*p2:=by rw[BP,KH]
 rw[c0];have e:=EH (p1+RB*p2) v1;have l:=Bz (p1+RB*p2) S.top;have c1:=BP v1 ((p1+RB*p2)/v1);refine⟨by omega,Uo S.below2 S.abovev ?_,?_,S.p1l⟩
 ·rw[Bp];omega
 ·have:=CS RB S.p2v1
  rw[BP v1];omega
theorem dA {q r:Nat}(G:Iu (AM P) (AM v) (p1+RB*p2) v1 p1 q r)(h:RB<=q\/r*RB+p0<q*v2):0<q/\Iu (AM P) (AM v) (p1+RB*p2) v1 p1 (q-1) (r+v1):=by
 obtain⟨e,u,cp,pl⟩:=G;have hq:0<q:=by
  rcases h with h|h
  ·unfold RB at h;omega
  ·rcases DU q with h0|h0
   ·subst h0;omega
   ·exact h0
 obtain⟨k,rfl⟩:∃k,q=k+1:=⟨q-1,by omega⟩
 refine⟨hq,⟨?_,?_,cp,pl⟩⟩
 ·rw[H5,<-e,Bp];omega
 ·rw[H5]
  rcases h with h|h
  ·have h1:AM v*RB<=(k+1)*AM v:=by rw[BP];exact CC _ h
   have:=S.less
   omega
  ·have e2:(k+1)*(v2+RB*v1)=(k+1)*v2+RB*((k+1)*v1):=by rw[BJ,Hx]
   refine VN S.below3 S.abovev2 ?_;rw[e2,<-e,BJ RB,BP RB r];omega
theorem Uq {q r:Nat}(G:Iu (AM P) (AM v) (p1+RB*p2) v1 p1 q r)(h:RB<=r\/(q<RB/\q*v2<=r*RB+p0)):q<RB/\q*AM v<=AM P+AM v:=by
 have hqB:q<RB:=by
  rcases h with h|h
  ·exact G.small h
  ·exact h.1
 obtain⟨e,u,cp,pl⟩:=G;have h5:=S.v2l;have hq:q*v2<=r*RB+p0:=by
  rcases h with h|h
  ·have h2:q*v2<=RB*RB:=Hz (by omega) (by omega)
   have h3:RB*RB<=r*RB:=CC _ h;omega
  ·exact h.2
 have e2:q*(v2+RB*v1)=q*v2+RB*(q*v1):=by rw[BJ,Hx]
 refine⟨hqB,V0 (n3:=p0+RB*(p1+RB*p2)) (D:=v2+RB*v1) (P:=RB^m) (B:=RB) (v:=AM (v.take m)) ?_ ?_ S.lowv ?_ (by omega) ?_⟩
 ·rw[S.valP,BP];omega
 ·rw[S.valv,BP];omega
 ·rw[e2,<-e,BJ RB,BP RB r]
  omega
 ·have:=S.top
  have h1:=CS RB (show 1<=v1 from this);omega
end
theorem DD.of {H:Hp}{d0 d:D}(h:Fz H [] d0 d):DD H d0 d:=λ_ _ _ _ m hO hN _ hv=>h.rep m hO (λe he b hb _=>hN e he b hb) hv
theorem vW {C:A9}{f:Nat}{ds ds':List D}{Φ:D->Prop}{H:Hp}{n:Nat}(hc:Ah C f ds' Φ)(hl:ds'.length=ds.length)(hv:∀(i:Nat) (a b:D),ds[i]?=some a->ds'[i]?=some b->DD H a b)
  (hp:Af ds') (hflat:∀d,Φ d->I7 d):CT C f ds H n (λd' H' n'=>Φ d'/\H'=H/\n'=n+1):=by
 refine⟨hc.1,λF ρ w vs m hfr hg hvs hr=>?_⟩;have hH:CW H [] H []:=by
  generalize H=H0
  have:∀H1:Hp,CW H0 [] H1 []:=λH1=>by
   induction H1 with
   |nil=>exact .nil
   |cons e r ih=>exact .drop ih
  exact this H0
 obtain⟨m',hO,hN⟩:=hH.mem m;refine(hc.2 (AK F.X ρ []) w vs m.g (BO m.gn m.size) (λb hb=>m'.own_lt hb) (by omega) λi x hx=>?_).mono ?_
 ·have hi:i<ds'.length:=(List.getElem?_eq_some_iff.1 hx).1
  have hd0:ds[i]?=some ds[i]:=BF (by omega);exact hp.out x (BA hx) _ _ _ _ _ (hv i _ x hd0 hx C F ρ w m hO (λe he b hb=>hN e he b hb rfl) _ (hr i _ hd0))
 ·rintro e w' ⟨v,d',rfl,hb,hd',rep⟩
  have x:BL ρ (AK F.X ρ H) w ρ (AK F.X ρ H) w':=⟨hb.size,λ_ _ _ h=>h,λb hb' hO=>⟨hO,hb.block b hb'⟩,λb cs T fz hh=>⟨cs,_,by
   rw[hb.block b (Array.getElem?_eq_some_iff.1 hh).1];exact hh,rfl⟩⟩
  exact⟨v,_,H,n+1,ρ,rfl,⟨hd',rfl,rfl⟩,m.same x hb.os hb.tape hb.output hb.block,x,λk g hg'=>hfr k g (by omega),λe he=>C3 (hg e he),hflat _ hd' _ _ _ _ _ _ _ rep⟩
def V9 (P v:List Nat)(d:D):Prop:=∃q,d=AY q/\q<RB/\AM P<(q+1)*AM v/\q*AM v<=AM P+AM v
theorem gf {p2 p1 v1:Nat}(h1:p1<RB)(h2:p2<RB):IntKind.i64.wrap ((p2:Int)*1000000000)=((p2*RB:Nat):Int)/\IntKind.i64.wrap (((p2*RB:Nat):Int)+(p1:Int))=((p2*RB+p1:Nat):Int) /\
  IntKind.i64.wrap (((p2*RB+p1:Nat):Int).tdiv (v1:Int))=(((p2*RB+p1)/v1:Nat):Int):=by
 have h3:=GP (p2*RB+p1) v1;unfold RB at*;refine⟨?_,?_,?_⟩
 ·rw[wI (by omega) (by omega)];omega
 ·rw[wI (by omega) (by omega)];omega
 ·exact Nr _ _ (by omega)
theorem fC {t r v2 p0:Nat}(ht:t<RB)(hr:r<RB)(h2:v2<RB)(h0:p0<RB):IntKind.i64.wrap ((t:Int)*(v2:Int))=((t*v2:Nat):Int)/\IntKind.i64.wrap ((r:Int)*1000000000)=((r*RB:Nat):Int) /\
  IntKind.i64.wrap (((r*RB:Nat):Int)+(p0:Int))=((r*RB+p0:Nat):Int):=by
 have h3:t*v2<=999999999*999999999:=Hz (by unfold RB at ht;omega) (by unfold RB at h2;omega);unfold RB at*;refine⟨?_,?_,?_⟩
 ·rw[<-EG,wI (by omega) (by omega)]
 ·rw[wI (by omega) (by omega)];omega
 ·rw[wI (by omega) (by omega)];omega
theorem mH {t v2 r p0:Nat}(h:t<RB):decide (((t*v2:Nat):Int)>((r*RB+p0:Nat):Int))=decide (RB<=t\/r*RB+p0<t*v2):=
 Co.2 ⟨λh1=>.inr (Int.ofNat_lt.1 h1),λh1=>Int.ofNat_lt.2 (h1.resolve_left (Nat.not_le.2 h))⟩
theorem mI {t v2 r p0:Nat}(h:¬(RB<=t\/r*RB+p0<t*v2)):t<RB/\t*v2<=r*RB+p0:=⟨Nat.lt_of_not_le λh1=>h (.inl h1),Nat.le_of_not_lt λh1=>h (.inr h1)⟩
theorem mJ {P v:List Nat}{m p0 p1 p2 v2 v1:Nat}(S:Jo P v m p0 p1 p2 v2 v1):∃a1 T q0 r0:Nat,IntKind.i64.wrap ((p2:Int)*1000000000)=(a1:Int)/\IntKind.i64.wrap ((a1:Int)+(p1:Int))=(T:Int) /\
  IntKind.i64.wrap ((T:Int).tdiv (v1:Int))=(q0:Int)/\(T:Int).tmod (v1:Int)=(r0:Int)/\Iu (AM P) (AM v) (p1+RB*p2) v1 p1 q0 r0/\r0<RB:=by
 obtain⟨k1,k2,k3⟩:=gf (v1:=v1) S.p1l S.p2l;exact⟨_,_,_,_,k1,k2,k3,QQ _ v1,cJ S,Fc (Bz _ S.top) S.v1l⟩
theorem il {t r v2 p0:Nat}(ht:t<RB)(hr:r<RB)(h2:v2<RB)(h0:p0<RB):∃a1 a2 a3:Nat,IntKind.i64.wrap ((t:Int)*(v2:Int))=(a3:Int)/\IntKind.i64.wrap ((r:Int)*1000000000)=(a1:Int) /\
  IntKind.i64.wrap ((a1:Int)+(p0:Int))=(a2:Int)/\decide ((a3:Int)>(a2:Int))=decide (RB<=t\/r*RB+p0<t*v2):=by
 obtain⟨q1,q2,q3⟩:=fC ht hr h2 h0;exact⟨_,_,_,q1,q2,q3,mH ht⟩
theorem lC (U v:List Nat)(j m p0 p1 p2 v2 v1:Nat)(S:Jo ((U.drop j).take (m+3)) v m p0 p1 p2 v2 v1)(hj:j+(m+3)<=U.length)(hU:U.length<4000000):Ah C0 229 [rL U,rL v,AY j] (V9 ((U.drop j).take (m+3)) v):=by
 refine Ah.walk w1 ns rfl λF=>?_
 unfold rL;have hg:∀ {k p:Nat},((U.drop j).take (m+3))[k]?=some p->U[j+k]?=some p:=λ{k p} h=>by
  rw[ES]at h;split at h
  ·rwa [Gr]at h
  ·cases h
 have u0:=Db (hg S.h0);have u1:=Db (hg S.h1);have u2:=Db (hg S.h2);have y1:=Db S.g1;have y2:=Db S.g2;have l0:=S.p0l;have l1:=S.p1l;have l2:=S.p2l;have lv1:=S.v1l;have lv2:=S.v2l;have ev:(((v.map AY).length:Nat):Int)=((m+2:Nat):Int):=by rw[Ap,S.lv]
 have eu:(((U.map AY).length:Nat):Int)=(U.length:Int):=by rw[Ap]
 have w0:IntKind.i64.wrap ((j:Int)+((m+2:Nat):Int))=((j+(m+2):Nat):Int):=by rw[wI (by omega) (by omega)];omega
 have wa:IntKind.i64.wrap (((j+(m+2):Nat):Int)-1)=((j+(m+1):Nat):Int):=by rw[wI (by omega) (by omega)];omega
 have wb:IntKind.i64.wrap (((j+(m+2):Nat):Int)-2)=((j+m:Nat):Int):=by rw[wI (by omega) (by omega)];omega
 have wc:IntKind.i64.wrap (((m+2:Nat):Int)-1)=((m+1:Nat):Int):=by rw[wI (by omega) (by omega)];omega
 have wd:IntKind.i64.wrap (((m+2:Nat):Int)-2)=(m:Int):=by rw[wI (by omega) (by omega)];omega
 have ra:IntKind.i64.wrap (IntKind.i64.wrap ((j:Int)+((m+2:Nat):Int))-1)=((j+(m+1):Nat):Int):=by rw[w0,wa]
 have rb:IntKind.i64.wrap (IntKind.i64.wrap ((j:Int)+((m+2:Nat):Int))-2)=((j+m:Nat):Int):=by rw[w0,wb]
 obtain⟨a1,T,q0,r0,k1,k2,k3,k4,G0,hr0⟩:=mJ S;have v0:¬(v1:Int)=0:=by have:=S.top;omega
 have hvl:=S.lv;refine sR 0 ?_;refine sZ 100 ?_;refine AT ev ?_;refine AC.seq ?_;refine B5 w1 200 [0,1,2,3,4,5,6,7,8,9,10,11,12,13] [14,15] (by kernel_rfl) ?_;refine AD (Bh w0 wa ra kN) ?_;refine Bl kT u2 ?_;refine AD (Bh w0 wa ra kN) ?_;refine Bl kT u1 ?_;refine AD (E7 w0 wa ra kN k1 k2) ?_;refine AC.seq ?_;refine B5 w1 300 [0,1,2,3,4,5,6,7,8,9,10,11,12,13,14] [15] (by kernel_rfl) ?_;refine AD (Ac wc kN) ?_;refine Bl kT y1 ?_;refine AD (Ac wc kN) ?_;refine Bl kT y1 ?_;refine AD (Bh wc kN k3 k4) ?_;refine Ck (α:=Nat×Nat) (λp=>⟨[(9,AY p.1)],[],p.2⟩) (λp=>p.1<RB/\AM ((U.drop j).take (m+3))<(p.1+1)*AM v/\p.1*AM v<=AM ((U.drop j).take (m+3))+AM v) ?_ ?_
 ·refine AC.block ?_
  refine FY (α:=Nat×Nat×Nat) (λp=>⟨[(0,.sl false 1 (U.map AY)),(1,.sl false 1 (v.map AY)),(2,AY j),(7,i64 ((m+2:Nat):Int)),(9,AY p.1),(10,AY p.2.1)],[],p.2.2⟩) (λp=>p.1)
   (λp F'=>F'=F/\Iu (AM ((U.drop j).take (m+3))) (AM v) (p1+RB*p2) v1 p1 p.1 p.2.1/\p.2.1<RB) (q0,r0,_) ⟨rfl,G0,hr0⟩ AL ?_
  rintro⟨t,r,n⟩ F' ⟨rfl,G,hr⟩;dsimp only at G hr⊢;clear G0 hr0 k1 k2 k3 k4 u1 u2 ra wa;have htl:=G.qle S.top;obtain⟨b,hb⟩:∃b,b=decide (RB<=t\/r*RB+p0<t*v2):=⟨_,rfl⟩
  refine AC.seq ?_;refine Ck (α:=Nat) (λn=>⟨[(0,.sl false 1 (U.map AY)),(1,.sl false 1 (v.map AY)),(2,AY j),(7,i64 ((m+2:Nat):Int)),(9,AY t),(10,AY r),(63,Aq b)],[],n⟩) (λ_=>True) ?_ ?_
  ·rcases BH t RB with h|h
   ·have e1:decide ((t:Int)>=1000000000)=false:=Ag (by unfold RB at h;omega)
    obtain⟨a1,a2,a3,q1,q2,q3,q4⟩:=il h hr lv2 l0;rw[<-hb]at q4;clear hb;rw[<-q4];refine B5 w1 400 [0,1,2,3,4,5,6,7,8,9,10,11,12,13,14,15,16,17,18,19] [20,21] (by kernel_rfl) ?_;refine AD e1 ?_;refine AD (Au kF wd kN) ?_;refine Bl kF y2 ?_;refine AD (C5 kF w0 wb rb kN) ?_;refine Bl kF u0 ?_;refine AD (Bh kF q1 q2 q3) ?_;refine AD kF ?_;exact⟨trivial,_,trivial,AL⟩
   ·have e1:decide ((t:Int)>=1000000000)=true:=AZ (by unfold RB at h;omega)
    have e2:b=true:=hb.trans (AZ (.inl h));subst e2;refine B5 w1 400 [0,1,2,3,4,5,6,7,8,9,10,11,12,13,14,15,16,17,18,19] [20,21] (by kernel_rfl) ?_;refine AD e1 ?_;refine AD kT ?_;refine AD kT ?_;exact⟨trivial,_,trivial,AL⟩
  rintro n2 -;cases b with
  |true=>
   have hc:=Cw hb.symm;obtain⟨t0,G2⟩:=dA S G hc;have j1:IntKind.i64.wrap ((t:Int)-1)=((t-1:Nat):Int):=by rw[wI (by omega) (by unfold RB at htl;omega)];omega
   have j2:IntKind.i64.wrap ((r:Int)+(v1:Int))=((r+v1:Nat):Int):=by rw[wI (by omega) (by unfold RB at hr lv1;omega)];omega
   clear hc hb;refine AJ ?_;refine Ak ?_;refine AC.block ?_;refine sZ 500 ?_;refine AT j1 ?_;refine sZ 600 ?_;refine AD (Ac wc kN) ?_;refine Bl kT y1 ?_;refine AD j2 ?_;refine AC.seq ?_;rcases BH (r+v1) RB with h|h
   ·have e3:decide (((r+v1:Nat):Int)>=1000000000)=false:=Ag (by unfold RB at h;omega)
    refine Am w1 700 (by kernel_rfl) ?_;refine AT e3 ?_;refine AJ ?_;refine Ak ?_;exact⟨(t-1,r+v1,_),⟨rfl,G2,h⟩,by dsimp only;omega,AL⟩
   ·have e3:decide (((r+v1:Nat):Int)>=1000000000)=true:=AZ (by unfold RB at h;omega)
    obtain⟨g1,g2⟩:=Uq S G2 (.inl h);refine Am w1 700 (by kernel_rfl) ?_;refine AT e3 ?_;refine AJ ?_;refine sR 800 ?_;refine Ab ?_;exact⟨_,.refl _,AA.out,t-1,rfl,g1,G2.up,g2⟩
  |false=>
   have hc:=Cz hb.symm;obtain⟨g1,g2⟩:=Uq S G (.inr (mI hc));clear hc hb;refine AJ ?_;refine B6 ?_;exact⟨rfl,⟨t,_⟩,⟨g1,G.up,g2⟩,AL⟩
 rintro⟨q,n⟩ ⟨g1,g2,g3⟩;dsimp only at g1 g2 g3⊢;refine sR 900 ?_;refine Ab ?_;exact⟨_,.refl _,AA.out,q,rfl,g1,g2,g3⟩
def Nd (k g k' n:Nat)(env:An):An->Prop
 | []=>True
 |(t,d)::r=>(d=env.get t\/∃sz i len,env.get t=.osl k g sz i len/\d=.osl k' n sz i len)/\Nd k g k' n env r
theorem Nd.get {k g k' n:Nat}{env:An}:∀ {env':An},Nd k g k' n env env'->∀t,env'.get t=.any\/env'.get t=env.get t\/∃sz i len,env.get t=.osl k g sz i len/\env'.get t=.osl k' n sz i len
 | [],_,t=>.inl rfl
 |(t0,d)::r,h,t=>by
  simp only[An.get];cases hb:Nat.beq t0 t with
  |true=>
   obtain rfl:=By hb;rcases h.1 with h1|h1
   ·exact .inr (.inl h1)
   ·exact .inr (.inr h1)
  |false=>exact Nd.get h.2 t
section
variable {C:A9} {B F:AX} {rd:Option Nat} {Q:Exit->AX->St->Prop}
theorem uy {c:Code}{env:An}{k g k' T sz n:Nat}{es:List D}(env':An)(he:Nd k g k' n env env')(h:AC C B rd F c ⟨env',[⟨k',n,T,sz,es⟩],n+1⟩ Q):AC C B rd F c ⟨env,[⟨k,g,T,sz,es⟩],n⟩ Q:=by
 refine⟨λhB hd ρ a w hs=>?_⟩;obtain⟨ρ',hl,hk,hf⟩:∃ρ':Lk,(∀k1 g1 b,ρ k1 g1=some b->ρ' k1 g1=some b)/\ρ' k' n=ρ k g/\IL ρ' (n+1):=by
  cases hb:ρ k g with
  |none=>exact⟨ρ,λ_ _ _ h=>h,hs.fresh _ _ (Ae _),λk1 g1 h=>hs.fresh _ _ (Nat.le_of_succ_le h)⟩
  |some b=>exact⟨ρ.put k' n b,λk1 g1 b1 h1=>MU (hs.fresh _ _ (Ae _)) h1,D5 _ _ _ _,λk1 g1 h1=>by
    unfold Lk.put;split
    ·rename_i hh;omega
    ·exact hs.fresh _ _ (Nat.le_of_succ_le h1)⟩
 have hO:AK F.X ρ' [⟨k',n,T,sz,es⟩]=AK F.X ρ [⟨k,g,T,sz,es⟩]:=funext λb=>propext (by simp[AK,hk])
 have x:BL ρ (AK F.X ρ [⟨k,g,T,sz,es⟩]) w ρ' (AK F.X ρ' [⟨k',n,T,sz,es⟩]) w:=⟨Ae _,hl,λb _ hb=>⟨by rw[hO];exact hb,rfl⟩,λ_ cs _ _ h=>⟨cs,_,h,rfl⟩⟩
 refine h.out hB hd ρ' a w ⟨⟨⟨λe he'=>?_,by simp,λe he' b hb=>?_⟩,hs.mem.os,hs.mem.tape,hs.mem.output,hs.mem.size,hs.mem.blk,hs.mem.xlt,hs.mem.g0,hs.mem.gn,hs.mem.gw,λk1 g1 b h1=>hl _ _ _ (hs.mem.lnk _ _ _ h1),hs.mem.shp⟩,hf,λe he'=>?_,λt=>?_,hs.nt,hs.dfr⟩
 ·simp only[A0,DC,or_false]at he'
  subst he';rcases hs.mem.hok.ent ⟨k,g,T,sz,es⟩ (by simp)with⟨h1,h2⟩|⟨b,cs,h1,h2,h3⟩
  ·exact .inl ⟨h1,by rw[show ρ' k' n=ρ k g from hk];exact h2⟩
  ·refine .inr ⟨b,cs,hk.trans h1,h2,?_⟩
   have h4:=h3.mono x;exact⟨h4.len,h4.siz,h4.one,h4.rep⟩
 ·simp only[A0,DC,or_false]at he'
  subst he';exact hs.mem.hok.own ⟨k,g,T,sz,es⟩ (by simp) b (hk.symm.trans hb)
 ·simp only[A0,DC,or_false]at he'
  subst he';exact Gu _
 ·have h0:=(hs.env t).mono x
  rcases he.get t with h1|h1|⟨sz',i,len,h1,h2⟩
  ·show AU _ _ _ (env'.get t) _
   rw[h1];exact .any _
  ·show AU _ _ _ (env'.get t) _
   rw[h1];exact h0
  ·show AU _ _ _ (env'.get t) _
   rw[h2];have h5:=hs.env t;change AU _ _ _ (env.get t) _ at h5;rw[h1]at h5;generalize a.tmps.getD t undef=v at*;cases h5 with
   |onil=>exact .onil _ _ _
   |osl hr hb hc hs' hm=>exact .osl (hk.trans hr) hb hc hs' hm
end
theorem uA {b m y:Nat}(hl:(AW b).length=m+1)(hy:(AW b)[m]?=some y):∃f,f=1000000000/(y+1)/\0<f/\f<RB/\(AW (b*f)).length=m+1:=by
 have hy0:=Oi b hl hy;have hyl:y<RB:=EL b y (BA hy);have hf0:0<1000000000/(y+1):=Nat.div_pos (by unfold RB at hyl;omega) (by omega);have hf1:1000000000/(y+1)<RB:=HM (by decide) (by omega);have hm:=Nat.div_mul_le_self 1000000000 (y+1);refine⟨_,rfl,hf0,hf1,?_⟩;generalize 1000000000/(y+1)=f at*;refine dO ?_ ?_
 ·exact BO (Ra hl) (Nat.le_mul_of_pos_right _ hf0)
 ·have h2:=S6 hl hy
  have h3:=Fl ((EL b).take m);rw[Bf,hl,E2 (by omega)]at h3;rw[Ds]at h2;have h4:b<RB^m*(y+1):=by rw[BJ,Dy];omega
  have h5:b*f<RB^m*(y+1)*f:=Qu h4 hf0;have h6:RB^m*(y+1)*f=RB^m*(f*(y+1)):=by rw[Br,BP (y+1)]
  have h7:RB^m*(f*(y+1))<=RB^m*RB:=CS _ hm;rw[CE];omega
theorem di {a b f:Nat}{U v:List Nat}{k lu lq:Nat}(hf:0<f)(hU:AM U=a*f)(hv:AM v=b*f)(wU:Rd U)(lU:U.length=lu){q:List Nat}(hq:q=List.replicate lq 0)(hk:lq<=k)
  (hab:a<RB^k*b):K3 (a*f) v U q lu lq k:=by
 subst hq;refine⟨lU,MV,wU,RP _,?_,?_⟩
 ·rw[Gq (by rw[MV];exact hk)]
  rw[show AM []=0 from rfl,EJ,GN,BM,hU]
 ·rcases BH (AM (U.drop k)) (AM v)with h|h
  ·exact h
  ·exfalso
   have e0:AM U=AM (U.take k)+RB^(U.take k).length*AM (U.drop k):=by
    conv=>lhs;rw[<-Ef k U]
    rw[Ie]
   have h3:a*f<RB^k*b*f:=Qu hab hf;rw[Br,<-hv]at h3;rcases BH U.length k with hl|hl
   ·rw[Gq (by omega)]at h
    rw[show AM []=0 from rfl]at h;rw[Nat.le_zero.1 h,EJ]at h3;omega
   ·rw[Bf,E2 hl]at e0
    have:=CS (RB^k) h
    omega
theorem gR {a b f:Nat}{v U q:List Nat}{lu lq:Nat}(hf:0<f)(I:K3 (a*f) v U q lu lq 0)(hv:AM v=b*f):AM q=a/b/\AM U=a%b*f:=by
 obtain⟨lU,lQ,wU,wq,val,less⟩:=I;simp only[LE,IZ,E6]at val less;obtain⟨h1,h2⟩:=O7 val less;rw[hv,OP _ _ hf]at h1;rw[hv,OQ]at h2;exact⟨h1,h2⟩
theorem kp {P V q N Pn c z W:Nat}(hI:N+q*V=Pn+W*c)(hP:P=Pn+W*z)(hc:c<=z)(hup:P<(q+1)*V):P/V=q/\P%V=N+W*(z-c):=by
 have e:W*z=W*c+W*(z-c):=by rw[<-BJ];congr 1;omega
 exact Ri (N:=N+W*(z-c)) (by omega) hup
theorem kq {P V q N Pn N2 c c2 z W:Nat}(hI:N+q*V=Pn+W*c)(hP:P=Pn+W*z)(hz:z<c)(hN:N<W)(hdn:q*V<=P+V)(hN2:N2+W*c2=N+V)(hc2:c2<=1)(hN2l:N2<W)(hVW:V<W):
  0<q/\P/V=q-1/\P%V=N2/\(z:Int)-c+c2=0:=by
 obtain⟨e,rfl⟩:∃e,c=z+1+e:=⟨c-z-1,by omega⟩
 have h1:W*(z+1+e)=W*z+W+W*e:=by rw[BJ,BJ,Dy]
 have he:e=0:=by
  rcases DU e with h|h
  ·exact h
  ·have:=CS W h
   omega
 subst he;rw[EJ]at h1;obtain⟨a1,a2,a3⟩:=V3 (U:=P) (V:=V) (q:=q) (N:=N) (N3:=N2) (T:=W) (c:=c2) (by omega) hN hdn hN2 hc2 hN2l;refine⟨a1,a2,a3,?_⟩
 have:c2=1:=by
  rcases DU c2 with h|h
  ·exfalso
   subst h;rcases DU q with h0|h0
   ·subst h0;omega
   ·obtain⟨k,rfl⟩:∃k,q=k+1:=⟨q-1,by omega⟩
    rw[Bp,IZ]at hI hdn;omega
  ·omega
 subst this;omega
def blk (A N:List Nat)(top:Int)(Z:List Nat):List D:=A.map AY++(N.map AY++(i64 top::Z.map AY))
theorem Xz {A N Z:List Nat}{top:Int}{i z:Nat}(h:N[i]?=some z):(blk A N top Z)[A.length+i]?=some (AY z):=by
 have hi:i<N.length:=(List.getElem?_eq_some_iff.1 h).1;unfold blk;rw[E5 (by rw[Ap];omega),Ap,KF,F3 (by rw[Ap];exact hi)];exact Db h
theorem W6 {A N Z:List Nat}{top:Int}{i d:Nat}(h:i<N.length):(blk A N top Z).set (A.length+i) (AY d)=blk A (N.set i d) top Z:=by
 unfold blk;rw[OO _ _ (by rw[Ap];omega),Ap,KF,List.set_append_left _ _ (by rw[Ap];exact h),Lt]
theorem SG {A N Z:List Nat}{top:Int}{n:Nat}(h:N.length=n):(blk A N top Z)[A.length+n]?=some (i64 top):=by
 unfold blk;rw[E5 (by rw[Ap];omega),Ap,KF,E5 (by rw[Ap];omega),Ap,h,Nat.sub_self];rfl
theorem WC {A N Z:List Nat}{top t:Int}{n:Nat}(h:N.length=n):(blk A N top Z).set (A.length+n) (i64 t)=blk A N t Z:=by
 unfold blk;rw[OO _ _ (by rw[Ap];omega),Ap,KF,OO _ _ (by rw[Ap];omega),Ap,h,Nat.sub_self];rfl
theorem SF {A N Z:List Nat}{t:Nat}:blk A N (t:Int) Z=(A++((N++[t])++Z)).map AY:=by
 unfold blk;simp[C4]
theorem jg {t x c z:Nat}(ht:t<RB)(hx:x<RB)(hc:c<=RB)(hz:z<RB):∃p lo hi x' d c':Nat,IntKind.i64.wrap ((t:Int)*(x:Int))=(p:Int)/\IntKind.i64.wrap ((p:Int)+(c:Int))=(x':Int)/\((x':Int)).tmod 1000000000=(lo:Int) /\
  IntKind.i64.wrap (((x':Int)).tdiv 1000000000)=(hi:Int)/\IntKind.i64.wrap ((z:Int)-(lo:Int))=(z:Int)-lo/\d<RB/\c'<=RB/\d+t*x+c=z+RB*c' /\
  ((c'=hi/\(z:Int)-lo=d)\/(c'=hi+1/\(z:Int)-lo<0/\IntKind.i64.wrap ((z:Int)-lo+1000000000)=d/\IntKind.i64.wrap ((hi:Int)+1)=((hi+1:Nat):Int))):=by
 have h3:t*x<=999999999*999999999:=Hz (by unfold RB at ht;omega) (by unfold RB at hx;omega);have e:=ET (t*x+c) 1000000000;have l:=Bz (t*x+c) (show 1000000000>0 by decide);have k0:IntKind.i64.wrap ((t:Int)*(x:Int))=((t*x:Nat):Int):=by rw[<-EG,wI (by omega) (by omega)]
 unfold RB at*;have k1:IntKind.i64.wrap (((t*x:Nat):Int)+(c:Int))=((t*x+c:Nat):Int):=by rw[wI (by omega) (by omega)];omega
 have k2:((t*x+c:Nat):Int).tmod 1000000000=(((t*x+c)%1000000000:Nat):Int):=QQ _ 1000000000;have k3:IntKind.i64.wrap (((t*x+c:Nat):Int).tdiv 1000000000)=(((t*x+c)/1000000000:Nat):Int):=Nr _ 1000000000 (by omega);generalize t*x=p at*;generalize(p+c)%1000000000=lo at*;generalize(p+c)/1000000000=hi at*;rcases BH z lo with h|h
 ·exact⟨_,_,_,_,z+1000000000-lo,hi+1,k0,k1,k2,k3,wI (by omega) (by omega),by omega,by omega,by omega,.inr ⟨rfl,by omega,by rw[wI (by omega) (by omega)];omega,by rw[wI (by omega) (by omega)];omega⟩⟩
 ·exact⟨_,_,_,_,z-lo,hi,k0,k1,k2,k3,wI (by omega) (by omega),by omega,by omega,by omega,.inl ⟨rfl,by omega⟩⟩
theorem j9 {z x c:Nat}(hz:z<RB)(hx:x<RB)(hc:c<=1):∃p s d c':Nat,IntKind.i64.wrap ((z:Int)+(x:Int))=(p:Int)/\IntKind.i64.wrap ((p:Int)+(c:Int))=(s:Int)/\((s:Int)).tmod 1000000000=(d:Int) /\
  IntKind.i64.wrap (((s:Int)).tdiv 1000000000)=(c':Int)/\d<RB/\c'<=1/\d=(z+x+c)%RB/\c'=(z+x+c)/RB:=by
 have e:=ET (z+x+c) 1000000000;have l:=Bz (z+x+c) (show 1000000000>0 by decide);unfold RB at*;have k0:IntKind.i64.wrap ((z:Int)+(x:Int))=((z+x:Nat):Int):=by rw[wI (by omega) (by omega)];omega
 have k1:IntKind.i64.wrap (((z+x:Nat):Int)+(c:Int))=((z+x+c:Nat):Int):=by rw[wI (by omega) (by omega)];omega
 have k2:((z+x+c:Nat):Int).tmod 1000000000=(((z+x+c)%1000000000:Nat):Int):=QQ _ 1000000000;have k3:IntKind.i64.wrap (((z+x+c:Nat):Int).tdiv 1000000000)=(((z+x+c)/1000000000:Nat):Int):=Nr _ 1000000000 (by omega);exact⟨_,_,_,_,k0,k1,k2,k3,l,by omega,rfl,rfl⟩
set_option maxHeartbeats 2000000
theorem kZ:rD 0=.sl false 1 []:=by unfold rD;rw[GB];rfl
theorem SR {H:Hp}{K g T:Nat}{l:List Nat}{N:Nat}(hl:l.length=N)(he:Hp.get H K=some ⟨K,g,T,1,l.map AY⟩:=by exact rfl):Fz H [] (.osl K g 1 0 N) (.sl false 1 (l.map AY)):=by
 subst hl;have key:∀(j:Nat) (d d':D),(l.map AY)[0+j]?=some d->(l.map AY)[j]?=some d'->d=d':=λj d d' h1 h2=>by
  rw[BM]at h1;rw[h1]at h2;exact Ff h2
 refine .osl (e:=⟨K,g,T,1,l.map AY⟩) he rfl rfl rfl (by simp) (by simp) (λj d d' h1 h2=>by rw[key j d d' h1 h2]) λj d d' q c c' h1 h2 h3 h4=>?_
 rw[key j d d' h1 h2]at h3;rw[h3]at h4;cases h4;exact Fz.refl _
theorem gS (a b:Nat)(hab:a<b)(ha:(AW a).length<1000000)(hb:(AW b).length<1000000):AI C0 176 [rD a,rD b] (.tup [rD (a/b),rD (a%b)]):=by
 rw[Gt hab,DR hab,kZ];refine Ah.walk w1 Sy rfl λF=>?_
 have cc:=QP a b (by omega) (by omega);have e1:=Wu hab;refine sR 0 ?_;refine AC.seq ?_;refine sR 100 ?_;refine cI cc ?_;rw[e1];refine AJ ?_;refine sR 200 ?_;refine Ab ?_;exact⟨_,Y6 (.nil 1) (.refl _),WT (.sl λe he=>by cases he) (NS _),rfl⟩
theorem jd (a b:Nat)(hab:b<=a)(ha:(AW a).length<1000000)(hb:(AW b).length=1)(hb0:b≠0):AI C0 176 [rD a,rD b] (.tup [rD (a/b),rD (a%b)]):=by
 have cc:=QP a b (by omega) (by omega);have e1:=Pj hab;have hbl:b<RB:=by
  have:=IA b
  rw[hb,Nat.pow_one]at this;exact this
 have hlb:(AW b)[0]?=some b:=by rw[Oh hb0 hbl];rfl
 have hb':=Db hlb;have cd:=VE a b (Do hb0) hbl ha;have e3:(((((AW b).map AY).length:Nat):Int)==1)=true:=by rw[Ap,hb];rfl
 have hml:a%b<RB:=Fc (Bz _ (Do hb0)) hbl;have hv:AM [a%b]=a%b:=by simp[AM]
 refine Ah.walk w1 Sy rfl λF=>?_
 generalize a/b=q at*;generalize a%b=r at*;unfold rD rL at cc cd⊢;change AC C0 F none F _ _ (QM X1.tt _ (· = .tup [rD q,rD r]));generalize AW a=la at*;generalize AW b=lb at*;refine sR 0 ?_;refine AC.seq ?_;refine sR 100 ?_;refine cI cc ?_;rw[e1];refine AJ ?_;refine Ak ?_;refine AC.seq ?_;refine sZ 300 ?_;refine AT e3 ?_;refine AJ ?_;refine sZ 400 ?_;refine AD kN ?_;refine Bl kT hb' ?_;refine AD kN ?_;refine Az.same _ cd AG ?_;refine BK ?_;refine sR 500 ?_;have hrl:Rd [r]:=λa ha=>by
  simp only[A0,DC,or_false]at ha;subst ha;exact hml
 refine Az.pure [rL [r]] _ ⟨.nn true 1 _,trivial⟩ (Kn [r] hrl (by simp)) AG ?_;refine BK ?_;refine Ab ?_;exact AO (by rw[hv];rfl) AA.out
theorem tR {H:Hp}{d1 d2 d3 e1 e2 e3:D}(h1:DD H d1 e1)(h2:DD H d2 e2)(h3:DD H d3 e3):∀(i:Nat) (a b:D),[d1,d2,d3][i]?=some a->[e1,e2,e3][i]?=some b->DD H a b
 | 0,_,_,ha,hb=>by cases ha;cases hb;exact h1
 | 1,_,_,ha,hb=>by cases ha;cases hb;exact h2
 | 2,_,_,ha,hb=>by cases ha;cases hb;exact h3
 |_+3,_,_,ha,_=>by cases ha
theorem eU {P v:List Nat}(d:D)(h:V9 P v d):I7 d:=by
 obtain⟨q,rfl,_⟩:=h;exact I7.prim _
theorem kr {v N Pn:List Nat}{t i c z x:Nat}(hz:N[i]?=some z)(hx:v[i]?=some x)(ht:t<RB)(hxl:x<RB)(hc:c<=RB)(hzl:z<RB)(hI:AM N+t*AM (v.take i)=AM Pn+RB^i*c):
  ∃(p x' lo hi d c':Nat) (e:Int),IntKind.i64.wrap ((t:Int)*(x:Int))=(p:Int)/\IntKind.i64.wrap ((p:Int)+(c:Int))=(x':Int)/\((x':Int)).tmod 1000000000=(lo:Int) /\
  IntKind.i64.wrap (((x':Int)).tdiv 1000000000)=(hi:Int)/\IntKind.i64.wrap ((z:Int)-(lo:Int))=e/\d<RB/\c'<=RB/\AM (N.set i d)+t*AM (v.take (i+1))=AM Pn+RB^(i+1)*c' /\
  ((decide (e<0)=false/\e=(d:Int)/\hi=c')\/(decide (e<0)=true/\IntKind.i64.wrap (e+1000000000)=(d:Int)/\IntKind.i64.wrap ((hi:Int)+1)=(c':Int))):=by
 obtain⟨p,lo,hi,x',d,c',k1,k2,k3,k4,k5,k6,k7,k8,k9⟩:=jg ht hxl hc hzl;have J:=bl (b:=0) (c':=0) (lo:=t*x+c) (b':=c') (d:=d) (A:=N) (P:=Pn) (v:=v) (q:=t) hz hx hI rfl (by rw[<-k8];exact EI d (t*x) c ▸ rfl);refine⟨p,x',lo,hi,d,c',_,k1,k2,k3,k4,k5,k6,k7,by rw[J,BM],?_⟩;rcases k9 with⟨h1,h2⟩|⟨h1,h2,h3,h4⟩
 ·exact .inl ⟨Ag (by rw[h2];exact Int.not_lt.2 (Int.natCast_nonneg d)),h2,h1.symm⟩
 ·exact .inr ⟨AZ h2,h3,by rw[h1];exact h4⟩
theorem kg {v N Nb:List Nat}{i c z x:Nat}(hz:N[i]?=some z)(hx:v[i]?=some x)(hxl:x<RB)(hc:c<=1)(hzl:z<RB)(hI:AM N+RB^i*c=AM Nb+AM (v.take i)):
  ∃(p s d c':Nat),IntKind.i64.wrap ((z:Int)+(x:Int))=(p:Int)/\IntKind.i64.wrap ((p:Int)+(c:Int))=(s:Int)/\((s:Int)).tmod 1000000000=(d:Int) /\
  IntKind.i64.wrap (((s:Int)).tdiv 1000000000)=(c':Int)/\d<RB/\c'<=1/\AM (N.set i d)+RB^(i+1)*c'=AM Nb+AM (v.take (i+1)):=by
 obtain⟨p,s,d,c',k1,k2,k3,k4,k5,k6,rfl,rfl⟩:=j9 hzl hxl hc;exact⟨p,s,_,_,k1,k2,k3,k4,k5,k6,bh hz hx hI⟩
theorem dh {U:List Nat}{k:Nat}(h:AM U<RB^k)(hk:k<=U.length):AM (U.take k)=AM U:=by
 have e:AM U=AM (U.take k)+RB^k*AM (U.drop k):=by
  conv=>lhs;rw[<-Ef k U]
  rw[Ie,Bf,E2 hk]
 rcases DU (AM (U.drop k))with h0|h0
 ·rw[h0,EJ,DL]at e;exact e.symm
 ·exfalso
  have:=CS (RB^k) h0
  omega
theorem dg {P v:List Nat}{m p0 p1 p2 v2 v1:Nat}(S:Jo P v m p0 p1 p2 v2 v1):∃Pn,P=Pn++[p2]/\Pn.length=m+2/\Rd Pn/\AM P=AM Pn+RB^(m+2)*p2:=by
 have hl:=S.lP;have e:P=P.take (m+2)++[p2]:=by
  rw[<-El S.h2,B1 (by omega)]
 have hn:(P.take (m+2)).length=m+2:=by rw[Bf];omega
 refine⟨P.take (m+2),e,hn,S.wP.take _,?_⟩
 conv=>lhs;rw[e]
 rw[GU hn]
theorem ZL {P N:List Nat}{m z V:Nat}(hl:N.length=m+2)(hN:Rd N)(hz:z<RB)(hv:AM N+RB^(m+2)*z=AM P%V):(N++[z]).length=m+3/\Rd (N++[z])/\AM (N++[z])=AM P%V:=by
 refine⟨by rw[Bo,hl];rfl,Rd.append hN λa ha=>?_,by rw[GU hl,hv]⟩;simp only[A0,DC,or_false]at ha;subst ha;exact hz
set_option maxHeartbeats 4000000
theorem gT (a b m:Nat)(hab:b<=a)(ha:(AW a).length<1000000)(hb:(AW b).length=m+2):AI C0 176 [rD a,rD b] (.tup [rD (a/b),rD (a%b)]):=by
 have hlen:=H9 b a hab;have cc:=QP a b (by omega) (by omega);have e1:=Pj hab;obtain⟨y,hy⟩:=CH (l:=AW b) (i:=m+1) (by omega);have yl:y<RB:=EL b y (BA hy);obtain⟨f,ef,f0,fl,hvl⟩:=uA hb hy;have wf:IntKind.i64.wrap ((1000000000:Int).tdiv ((y+1:Nat):Int))=(f:Int):=by
  rw[ef];exact Nr 1000000000 (y+1) (BO (GP _ _) (by decide))
 have wy:IntKind.i64.wrap ((y:Int)+1)=((y+1:Nat):Int):=wI (by omega) (by unfold RB at yl;omega);have lf:AW f=[f]:=Oh (Nat.pos_iff_ne_zero.1 f0) fl;have cv:=Tk b f (by omega) (by rw[lf];exact(by decide:1<1000000));have cu:=Tk a f (by omega) (by rw[lf];exact(by decide:1<1000000));have hu1:=RM a f;have hu2:=H9 a (a*f) (Nat.le_mul_of_pos_right _ f0);rw[lf]at hu1;change _<=_+1 at hu1;obtain⟨v,hv⟩:∃v,v=AW (b*f):=⟨_,rfl⟩
 have wv:Rd v:=by rw[hv];exact EL _
 have vv:AM v=b*f:=by rw[hv];exact Ds _
 rw[<-hv]at hvl;obtain⟨U0,hU0⟩:∃U0,U0=AW (a*f):=⟨_,rfl⟩
 have wU0:Rd U0:=by rw[hU0];exact EL _
 have vU0:AM U0=a*f:=by rw[hU0];exact Ds _
 rw[<-hU0]at hu1 hu2;obtain⟨v1,h1⟩:=CH (l:=v) (i:=m+1) (by omega);obtain⟨v2,h2⟩:=CH (l:=v) (i:=m) (by omega);have v10:v1≠0:=Oi (b*f) (by rw[<-hv];exact hvl) (by rw[<-hv];exact h1);have b0:0<b:=by
  refine Do λh=>?_
  subst h;rw[GB]at hb;cases hb
 have vpos:0<AM v:=by rw[vv];exact F6 b0 f0
 have hup:=IA a;have hbge:=Ra hb;unfold rD rL at cc cv cu;rw[lf,<-hv]at cv;rw[lf,<-hU0]at cu;refine Ah.walk w1 Sy rfl λF=>?_
 change AC C0 F none F _ ⟨DE 0 [.sl false 1 ((AW a).map AY),.sl false 1 ((AW b).map AY)],[],0⟩ _;generalize AW a=la at*;generalize AW b=lb at*;obtain⟨lq,hlq⟩:∃lq,la.length=lq+(m+2):=⟨la.length-(m+2),by omega⟩
 have hy':=Db hy;have e3:((((lb.map AY).length:Nat):Int)==1)=false:=by rw[Ap,hb];exact B3.2 (by omega)
 have elb:(((lb.map AY).length:Nat):Int)=((m+2:Nat):Int):=by rw[Ap,hb]
 have wlb0:IntKind.i64.wrap (((m+2:Nat):Int)-1)=((m+1:Nat):Int):=by rw[wI (by omega) (by omega)];omega
 have wlb:IntKind.i64.wrap ((((lb.map AY).length:Nat):Int)-1)=((m+1:Nat):Int):=by rw[elb];exact wlb0
 have ea:(((la.map AY).length:Nat):Int)=(la.length:Int):=by rw[Ap]
 have ev:(((v.map AY).length:Nat):Int)=((m+2:Nat):Int):=by rw[Ap,hvl]
 have eu:(((U0.map AY).length:Nat):Int)=(U0.length:Int):=by rw[Ap]
 have wa1:IntKind.i64.wrap ((la.length:Int)+1)=((la.length+1:Nat):Int):=wI (by omega) (by omega);have wq0:IntKind.i64.wrap (((la.length+1:Nat):Int)-((m+2:Nat):Int))=((lq+1:Nat):Int):=by rw[wI (by omega) (by omega)];omega
 have wq1:IntKind.i64.wrap (((lq+1:Nat):Int)-1)=((lq+1:Nat):Int)-1:=wI (by omega) (by omega);have wraw:IntKind.i64.wrap (IntKind.i64.wrap (((la.length+1:Nat):Int)-((m+2:Nat):Int))-1)=((lq+1:Nat):Int)-1:=by rw[wq0,wq1]
 have r3:List.replicate (lq+1) (ofV (.int .i64 0))=(List.replicate (lq+1) 0).map AY:=by rw[JD];rfl
 refine sR 0 ?_;refine AC.seq ?_;refine sR 100 ?_;refine cI cc ?_;rw[e1];refine AJ ?_;refine Ak ?_;refine AC.seq ?_;refine sZ 300 ?_;refine AT e3 ?_;refine AJ ?_;refine Ak ?_;refine sZ 600 ?_;refine AD (Bh wlb elb wlb0 kN) ?_;refine Bl kT hy' ?_;refine AD (Au wy wf kN) ?_;refine sR 700 ?_;refine Az.pure [rL lb,rL [f]] _ ⟨.refl _,.nn true 1 _,trivial⟩ cv AG ?_;refine BK ?_;refine sZ 800 ?_;refine AT ev ?_;clear cc e1 e3 elb wlb wlb0 hy' yl hy wy wf hb;refine Ck (α:=Nat×Nat) (λp=>⟨[(0,.sl false 1 (la.map AY)),(8,.sl true 1 [AY f]),(9,.sl false 1 (v.map AY)),(10,i64 ((m+2:Nat):Int)),(11,.osl 904 p.1 1 0 U0.length)],[⟨904,p.1,3,1,U0.map AY⟩],p.2⟩) (λ_=>True) ?_ ?_
 ·refine rI 900 ?_
  refine Az.pure [rL la,rL [f]] _ ⟨.refl _,.nn true 1 _,trivial⟩ cu AG ?_;refine BK ?_;exact⟨rfl,⟨_,_⟩,trivial,AL⟩
 rintro⟨g,n2⟩ -;dsimp only;refine Ck (α:=Nat×Nat×List Nat×Nat) (λp=>⟨[(0,.sl false 1 (la.map AY)),(8,.sl true 1 [AY f]),(9,.sl false 1 (v.map AY)),(10,i64 ((m+2:Nat):Int)),(11,.osl p.1 p.2.1 1 0 (la.length+1))],[⟨p.1,p.2.1,3,1,p.2.2.1.map AY⟩],p.2.2.2⟩) (λp=>p.2.2.1.length=la.length+1/\Rd p.2.2.1/\AM p.2.2.1=a*f) ?_ ?_
 ·refine AC.block ?_
  rcases Nat.eq_or_lt_of_le hu1 with hl|hl
  ·have eN:decide (((la.length+1:Nat):Int)<((la.length+1:Nat):Int))=false:=Ag (by omega)
   rw[hl];refine FY (α:=Nat) (λn=>⟨[(0,.sl false 1 (la.map AY)),(8,.sl true 1 [AY f]),(9,.sl false 1 (v.map AY)),(10,i64 ((m+2:Nat):Int)),(11,.osl 904 g 1 0 (la.length+1))],[⟨904,g,3,1,U0.map AY⟩],n⟩) (λ_=>0) (λ_ F'=>F'=F) n2 rfl AL ?_;rintro n3 F' rfl;refine AC.seq ?_;refine sZ 1000 ?_;refine AT (Au ea wa1 eN) ?_;refine AJ ?_;refine B6 ?_;exact⟨rfl,⟨904,g,U0,_⟩,⟨hl,wU0,vU0⟩,AL⟩
  ·have hl2:U0.length=la.length:=by omega
   have eN:decide (((la.length+1:Nat):Int)<((la.length+1:Nat):Int))=false:=Ag (by omega);have eY:decide ((la.length:Int)<((la.length+1:Nat):Int))=true:=AZ (by omega);have hap:List.take la.length (U0.map AY)++[D.prim (Value.int IntKind.i64 0)]=(U0++[0]).map AY:=by
    rw[B1 (by rw[Ap];omega),C4];rfl
   rw[hl2];refine FY (α:=Bool×Nat×Nat) (λp=>match p with
    |(false,_,n)=>⟨[(0,.sl false 1 (la.map AY)),(8,.sl true 1 [AY f]),(9,.sl false 1 (v.map AY)),(10,i64 ((m+2:Nat):Int)),(11,.osl 904 g 1 0 la.length)],[⟨904,g,3,1,U0.map AY⟩],n⟩
    |(true,g1,n)=>⟨[(0,.sl false 1 (la.map AY)),(8,.sl true 1 [AY f]),(9,.sl false 1 (v.map AY)),(10,i64 ((m+2:Nat):Int)),(11,.osl 1102 g1 1 0 (la.length+1))],[⟨1102,g1,3,1,(U0++[0]).map AY⟩],n⟩) (λp=>cond p.1 0 1) (λ_ F'=>F'=F) (false,0,n2) rfl AL ?_
   rintro⟨_|_,g1,n3⟩ F' rfl
   ·dsimp only
    refine AC.seq ?_;refine sZ 1000 ?_;refine AT (Au ea wa1 eY) ?_;refine AJ ?_;refine Ak ?_;refine AC.block ?_;refine rI 1100 ?_;refine⟨(true,n3+8,n3+10),rfl,(by decide:(0:Nat)<1),?_⟩;dsimp only;rw[hap];exact AL
   ·dsimp only
    refine AC.seq ?_;refine sZ 1000 ?_;refine AT (Au ea wa1 eN) ?_;refine AJ ?_;refine B6 ?_;refine⟨rfl,⟨1102,g1,U0++[0],_⟩,⟨by rw[Bo,hl2];rfl,Rd.append wU0 λa ha=>?_,by rw[Se];exact vU0⟩,AL⟩;simp only[A0,DC,or_false]at ha;subst ha;decide
 rintro⟨K,gK,U1,n3⟩ ⟨lU1,wU1,vU1⟩;dsimp only at lU1 wU1 vU1⊢;refine uy [(8,.sl true 1 [AY f]),(9,.sl false 1 (v.map AY)),(10,i64 ((m+2:Nat):Int)),(11,.osl 1102 n3 1 0 (la.length+1))] ⟨.inl rfl,.inl rfl,.inl rfl,.inr ⟨_,_,_,rfl,rfl⟩,trivial⟩ ?_;clear cu hU0 vU0 wU0 hu1 hu2 cv;refine Ck (α:=Nat×Nat) (λp=>⟨[(8,.sl true 1 [AY f]),(9,.sl false 1 (v.map AY)),(10,i64 ((m+2:Nat):Int)),(11,.osl 1102 n3 1 0 (la.length+1)),(12,.osl 1204 p.1 1 0 (lq+1))],[⟨1204,p.1,3,1,(List.replicate (lq+1) 0).map AY⟩,⟨1102,n3,3,1,U1.map AY⟩],p.2⟩) (λ_=>True) ?_ ?_
 ·refine Am w1 1200 (by kernel_rfl) ?_
  refine AT (Au wq0 kN r3) ?_;exact⟨trivial,⟨_,_⟩,trivial,by rw[<-r3];exact AL⟩
 rintro⟨g,n2⟩ -;dsimp only;have I0:K3 (a*f) v U1 (List.replicate (lq+1) 0) (la.length+1) (lq+1) (lq+1):=by
  refine di f0 vU1 vv wU1 lU1 rfl (Ae _) ?_
  have:RB^(lq+1)*RB^(m+1)<=RB^(lq+1)*b:=CS _ hbge
  rw[<-Fd,show lq+1+(m+1)=la.length by omega]at this;omega
 clear hup hbge;refine AC.seq ?_;refine sZ 1300 ?_;refine AT wraw ?_;refine AC.block ?_;refine AC.loop (α:=Nat×List Nat×List Nat×Nat) (λp=>⟨[(8,.sl true 1 [AY f]),(9,.sl false 1 (v.map AY)),(10,i64 ((m+2:Nat):Int)),(11,.osl 1102 n3 1 0 (la.length+1)),(12,.osl 1204 g 1 0 (lq+1)),(13,i64 ((p.1:Int)-1))],[⟨1204,g,3,1,p.2.2.1.map AY⟩,⟨1102,n3,3,1,p.2.1.map AY⟩],p.2.2.2⟩) (λp=>p.1)
  (λp=>p.1<=lq+1/\K3 (a*f) v p.2.1 p.2.2.1 (la.length+1) (lq+1) p.1) (lq+1,U1,List.replicate (lq+1) 0,_) ⟨Ae _,I0⟩ AL ?_
 rintro⟨k,u,q,n4⟩ F ⟨hk,I⟩;dsimp only at hk I⊢;clear I0 wq0 wq1 wraw r3 ea eu wU1 vU1 lU1;refine AC.seq ?_;refine sR 1400 ?_;refine AJ ?_
 (refine Bq (λh20=>?_) (λh20=>?_))<;>(try simp only[Bd,Bn]at h20)<;>(try simp only[h20])
 ·obtain⟨j,rfl⟩:∃j,k=j+1:=⟨k-1,by
   have:(k:Int)-1>=0:=by simpa using h20
   omega⟩
  have wj:((j+1:Nat):Int)-1=(j:Int):=by omega
  obtain⟨p0,p1,p2,SI,hz,hP⟩:=de I hvl wv v1 v2 h2 h1 (Do v10) (by omega);have lu:=I.lU;have cg:=lC u v j m p0 p1 p2 v2 v1 SI (by omega) (by omega);rw[wj];refine Ak ?_;refine AC.seq ?_;refine AC.block ?_;refine sR 1600 ?_;refine Az.own _ (vW cg rfl (tR (DD.of (SR lu)) (DD.of (.refl _)) (DD.of (.refl _))) AG eU) ?_;rintro d H' n5 ⟨⟨t,rfl,ht1,ht2,ht3⟩,rfl,rfl⟩;refine BK ?_;obtain⟨Pn,eP,lPn,wPn,vPn⟩:=dg SI;have hA:(u.take j).length=j:=by rw[Bf];omega
  have p2l:=SI.p2l;have hdl:AM ((u.drop j).take (m+3))/AM v<RB:=Eg SI.less;have hU:u.map AY=blk (u.take j) Pn (p2:Int) (u.drop (j+(m+3))):=by rw[SF,<-eP,<-ax]
  have J:=λP' h1 h2 h3=>dc (P':=P') I vpos (by omega) (by omega) hz hP h1 h2 h3 hdl
  obtain⟨zq,hzq⟩:=CH (l:=q) (i:=j) (by rw[I.lQ];omega);have hzq':=Db hzq;have wi':IntKind.i64.wrap ((j:Int)-1)=(j:Int)-1:=wI (by omega) (by omega);have wjn:IntKind.i64.wrap ((j:Int)+((m+2:Nat):Int))=((j+(m+2):Nat):Int):=by rw[wI (by omega) (by omega)];omega
  have hVW:=Fl wv;rw[show v.length=m+2 from hvl]at hVW;rw[hU];clear hU cg hP hz SI eP h20 wj I h1 h2 v10;generalize(u.drop j).take (m+3)=P at*;generalize u.take j=A at*;generalize u.drop (j+(m+3))=Z at*;refine sR 1700 ?_;refine AC.seq ?_;refine sR 1800 ?_;refine AC.block ?_;refine AC.loop (α:=Nat×Nat×List Nat×Nat) (λp=>⟨[(8,.sl true 1 [AY f]),(9,.sl false 1 (v.map AY)),(10,i64 ((m+2:Nat):Int)),(11,.osl 1102 n3 1 0 (la.length+1)),(12,.osl 1204 g 1 0 (lq+1)),(13,i64 (j:Int)),(14,AY t),(15,AY p.2.1),(16,i64 p.1)],[⟨1204,g,3,1,q.map AY⟩,⟨1102,n3,3,1,blk A p.2.2.1 (p2:Int) Z⟩],p.2.2.2⟩) (λp=>m+2-p.1)
   (λp=>p.1<=m+2/\p.2.1<=RB/\p.2.2.1.length=m+2/\Rd p.2.2.1/\AM p.2.2.1+t*AM (v.take p.1)=AM Pn+RB^p.1*p.2.1) (0,0,Pn,_) ⟨BT _,BT _,lPn,wPn,by simp[AM]⟩ AL ?_
  rintro⟨i,c,N,n6⟩ F ⟨hi,hc,hNl,hNw,hI⟩;dsimp only at hi hc hNl hNw hI⊢;refine AC.seq ?_;refine sR 1900 ?_;refine AJ ?_
  (refine Bq (λhlt=>?_) (λhlt=>?_))<;>(try simp only[Bd,Bn]at hlt)<;>(try simp only[hlt])
  ·have hi2:i<m+2:=by
    have:=Cw hlt
    omega
   obtain⟨x,hx⟩:=CH (l:=v) (i:=i) (by omega);have hx':=Db hx;have hxl:x<RB:=wv x (BA hx);obtain⟨z,hz⟩:=CH (l:=N) (i:=i) (by omega);have hzl:=hNw z (BA hz);have hz':=Xz (A:=A) (Z:=Z) (top:=(p2:Int)) hz;rw[hA]at hz';obtain⟨p,x',lo,hi',d,c',e,k1,k2,k3,k4,k5,dl,cl,hI',hb⟩:=kr hz hx ht1 hxl hc hzl hI;have hset:(blk A N (p2:Int) Z).set (j+i) (AY d)=blk A (N.set i d) (p2:Int) Z:=by
    have:=W6 (A:=A) (Z:=Z) (top:=(p2:Int)) (i:=i) (d:=d) (N:=N) (by omega)
    rwa [hA]at this
   have wij:IntKind.i64.wrap ((i:Int)+(j:Int))=((j+i:Nat):Int):=by rw[wI (by omega) (by omega)];omega
   have wi:IntKind.i64.wrap ((i:Int)+1)=((i+1:Nat):Int):=wI (by omega) (by omega);clear hI J hVW vPn ht2 ht3 hdl;refine Ak ?_;refine AC.seq ?_;refine AC.block ?_;refine sZ 2100 ?_;refine AD kN ?_;refine Bl kT hx' ?_;refine AD (Au kN k1 k2) ?_;refine sZ 2200 ?_;refine AD (E7 wij kN BM hz' k3 k5) ?_;refine sZ 2300 ?_;refine AT k4 ?_;rcases hb with⟨b1,b2,b3⟩|⟨b1,b2,b3⟩
   ·refine AC.seq ?_
    refine sZ 2400 ?_;refine AT b1 ?_;refine AJ ?_;refine Ak ?_;subst b2 b3;refine Am w1 2700 (by kernel_rfl) ?_;refine AD (Bh wij kN BM hz') ?_;rw[hset];refine Am w1 2000 (by kernel_rfl) ?_;refine AT wi ?_;exact⟨(i+1,hi',N.set i d,_),⟨hi2,cl,by dsimp only;rw[DK];exact hNl,hNw.set dl,hI'⟩,by dsimp only;omega,AL⟩
   ·refine AC.seq ?_
    refine sZ 2400 ?_;refine AT b1 ?_;refine AJ ?_;refine sZ 2500 ?_;refine AT b2 ?_;refine Am w1 2600 (by kernel_rfl) ?_;refine AT b3 ?_;refine Am w1 2700 (by kernel_rfl) ?_;refine AD (Bh wij kN BM hz') ?_;rw[hset];refine Am w1 2000 (by kernel_rfl) ?_;refine AT wi ?_;exact⟨(i+1,c',N.set i d,_),⟨hi2,cl,by dsimp only;rw[DK];exact hNl,hNw.set dl,hI'⟩,by dsimp only;omega,AL⟩
  ·have hi2:i=m+2:=by
    have:=Cz hlt
    omega
   subst hi2;rw[B1 (by omega)]at hI;have hNlt:=Fl hNw;rw[hNl]at hNlt;have htop:=SG (A:=A) (Z:=Z) (top:=(p2:Int)) hNl;have hstop:=WC (A:=A) (Z:=Z) (top:=(p2:Int)) (t:=(p2:Int)-(c:Int)) hNl;have htop2:=SG (A:=A) (Z:=Z) (top:=(p2:Int)-(c:Int)) hNl;rw[hA]at htop hstop htop2;have p2l9:p2<1000000000:=p2l;have hc9:c<=1000000000:=hc;have wzc:IntKind.i64.wrap ((p2:Int)-(c:Int))=(p2:Int)-(c:Int):=wI (by omega) (by omega);refine B6 ?_;refine sZ 2800 ?_;refine AD (C5 wjn kN BM htop wzc) ?_;rw[hstop];rcases BH p2 c with h|h
   ·have e29:decide ((p2:Int)-(c:Int)<0)=true:=AZ (by omega)
    have ht9:t<1000000000:=ht1;have wt:IntKind.i64.wrap ((t:Int)-1)=(t:Int)-1:=wI (by omega) (by omega);refine AC.seq ?_;refine sZ 2900 ?_;refine AD (C5 wjn kN BM htop2 e29) ?_;refine AJ ?_;refine sZ 3000 ?_;refine AT wt ?_;refine sR 3100 ?_;refine AC.seq ?_;refine sR 3200 ?_;refine AC.block ?_;refine AC.loop (α:=Nat×Nat×List Nat×Nat) (λp=>⟨[(8,.sl true 1 [AY f]),(9,.sl false 1 (v.map AY)),(10,i64 ((m+2:Nat):Int)),(11,.osl 1102 n3 1 0 (la.length+1)),(12,.osl 1204 g 1 0 (lq+1)),(13,i64 (j:Int)),(14,i64 ((t:Int)-1)),(19,AY p.2.1),(20,i64 p.1)],[⟨1204,g,3,1,q.map AY⟩,⟨1102,n3,3,1,blk A p.2.2.1 ((p2:Int)-(c:Int)) Z⟩],p.2.2.2⟩) (λp=>m+2-p.1)
     (λp=>p.1<=m+2/\p.2.1<=1/\p.2.2.1.length=m+2/\Rd p.2.2.1/\AM p.2.2.1+RB^p.1*p.2.1=AM N+AM (v.take p.1)) (0,0,N,_) ⟨BT _,BT _,hNl,hNw,by simp[AM]⟩ AL ?_
    rintro⟨i,c2,N2,n7⟩ F ⟨hi,hc2,hNl2,hNw2,hI2⟩;dsimp only at hi hc2 hNl2 hNw2 hI2⊢;clear htop hstop;refine AC.seq ?_;refine sR 3300 ?_;refine AJ ?_
    (refine Bq (λhlt2=>?_) (λhlt2=>?_))<;>(try simp only[Bd,Bn]at hlt2)<;>(try simp only[hlt2])
    ·have hi2:i<m+2:=by
      have:=Cw hlt2
      omega
     obtain⟨x,hx⟩:=CH (l:=v) (i:=i) (by omega);have hx':=Db hx;have hxl:x<RB:=wv x (BA hx);obtain⟨z,hz⟩:=CH (l:=N2) (i:=i) (by omega);have hzl:=hNw2 z (BA hz);have hz':=Xz (A:=A) (Z:=Z) (top:=(p2:Int)-(c:Int)) hz;rw[hA]at hz';obtain⟨p,s,d,c',k1,k2,k3,k4,dl,cl,hI'⟩:=kg hz hx hxl hc2 hzl hI2;have hset:(blk A N2 ((p2:Int)-(c:Int)) Z).set (j+i) (AY d)=blk A (N2.set i d) ((p2:Int)-(c:Int)) Z:=by
      have:=W6 (A:=A) (Z:=Z) (top:=(p2:Int)-(c:Int)) (i:=i) (d:=d) (N:=N2) (by omega)
      rwa [hA]at this
     have wij:IntKind.i64.wrap ((i:Int)+(j:Int))=((j+i:Nat):Int):=by rw[wI (by omega) (by omega)];omega
     have wi:IntKind.i64.wrap ((i:Int)+1)=((i+1:Nat):Int):=wI (by omega) (by omega);clear hI2 hI J hVW vPn ht2 ht3 hdl;refine Ak ?_;refine AC.seq ?_;refine AC.block ?_;refine AC.seq ?_;refine B5 w1 3500 [0,1,2,3,4,5,6,7,8,9,10,11] [12,13] (by kernel_rfl) ?_;refine AD (Bh wij kN BM hz') ?_;refine Bl kT hx' ?_;refine AD (Au kN k1 k2) ?_;refine sZ 3600 ?_;refine AD (C5 wij kN BM hz' k3) ?_;rw[hset];refine Am w1 3700 (by kernel_rfl) ?_;refine AT k4 ?_;refine Am w1 3400 (by kernel_rfl) ?_;refine AT wi ?_;exact⟨(i+1,c',N2.set i d,_),⟨hi2,cl,by dsimp only;rw[DK];exact hNl2,hNw2.set dl,hI'⟩,by dsimp only;omega,AL⟩
    ·have hi2:i=m+2:=by
      have:=Cz hlt2
      omega
     subst hi2;rw[B1 (by omega)]at hI2;have hNlt2:=Fl hNw2;rw[hNl2]at hNlt2;obtain⟨t0,g1,g2,g3⟩:=kq hI vPn h hNlt ht3 hI2 hc2 hNlt2 hVW;have htop3:=SG (A:=A) (Z:=Z) (top:=(p2:Int)-(c:Int)) hNl2;have hstop3:=WC (A:=A) (Z:=Z) (top:=(p2:Int)-(c:Int)) (t:=((0:Nat):Int)) hNl2;rw[hA]at htop3 hstop3;have wfin:IntKind.i64.wrap ((p2:Int)-(c:Int)+(c2:Int))=((0:Nat):Int):=by rw[g3];rfl
     have et:(t:Int)-1=((t-1:Nat):Int):=by omega
     obtain⟨f1,f2,f3⟩:=ZL (P:=P) (V:=AM v) hNl2 hNw2 (z:=0) (by decide) (by rw[EJ,DL];exact g2.symm);have J1:=J _ f1 f2 f3;rw[g1]at J1;refine B6 ?_;refine Am w1 3800 (by kernel_rfl) ?_;refine AD (C5 wjn kN BM htop3 wfin) ?_;rw[hstop3,SF,et];refine Am w1 3900 (by kernel_rfl) ?_;refine AD (Au kN BM hzq') ?_;rw[Lt];refine Am w1 1500 (by kernel_rfl) ?_;refine AT wi' ?_;exact⟨(j,A++((N2++[0])++Z),q.set j (t-1),_),⟨by dsimp only;omega,J1⟩,by dsimp only;omega,AL⟩
   ·have e29:decide ((p2:Int)-(c:Int)<0)=false:=Ag (by omega)
    obtain⟨g1,g2⟩:=kp hI vPn h ht2;have ezc:(p2:Int)-(c:Int)=((p2-c:Nat):Int):=by omega
    obtain⟨f1,f2,f3⟩:=ZL hNl hNw (z:=p2-c) (by omega) g2.symm;have J1:=J _ f1 f2 f3;rw[g1]at J1;refine AC.seq ?_;refine sZ 2900 ?_;refine AD (C5 wjn kN BM htop2 e29) ?_;refine AJ ?_;refine Ak ?_;rw[ezc,SF];refine Am w1 3900 (by kernel_rfl) ?_;refine AD (Au kN BM hzq') ?_;rw[Lt];refine Am w1 1500 (by kernel_rfl) ?_;refine AT wi' ?_;exact⟨(j,A++((N++[p2-c])++Z),q.set j t,_),⟨by dsimp only;omega,J1⟩,by dsimp only;omega,AL⟩
 ·have hk:k=0:=by
   have:¬((k:Int)-1>=0):=by simpa using h20
   omega
  subst hk;obtain⟨q1,q2⟩:=gR f0 I vv;have wu:=I.wU;have wqq:=I.wq;have lu:=I.lU;have lqq:=I.lQ;have hlt:AM u<RB^(m+2):=by
   have:=I.less
   rw[E6]at this;have h:=Fl wv;rw[show v.length=m+2 from hvl]at h;omega
  have hta:=dh hlt (by omega);have hll:=JS hlt;rw[q2]at hll hta;have ed:a%b*f/f=a%b:=Nat.mul_div_cancel _ f0;have cd:=VE (a%b*f) f f0 fl (by omega);rw[ed]at cd;clear I;refine B6 ?_;refine AC.weak ⟨[(8,.sl true 1 [AY f]),(10,i64 ((m+2:Nat):Int)),(11,.sl false 1 (u.map AY)),(12,.sl false 1 (q.map AY))],[],_⟩ ⟨.drop (.drop .nil),⟨.refl _,.refl _,SR lu,SR lqq,trivial⟩,Ae _⟩ ?_;have e5:List.take (m+2) (u.map AY)=(u.take (m+2)).map AY:=by
   rw[List.map_take]
  have eu2:(u.map AY).length=la.length+1:=by rw[Ap];omega
  have ct:=Kn (u.take (m+2)) (wu.take _) (by rw[Bf];omega);rw[hta]at ct;refine AC.seq ?_;refine B5 w1 4000 [0,1,2,3,4,5,6,7,8,9,10,11] [12] (by kernel_rfl) ?_;refine AD (Bh kN Nat.sub_zero (@E6 D) e5) ?_;refine BQ.same _ ct AG ?_;have hf0:([AY f]:List D)[0]?=some (AY f):=rfl;refine AD kN ?_;refine Bl kT hf0 ?_;refine AD kN ?_;refine BQ.same _ cd AG ?_;refine AD kN ?_;refine sR 4100 ?_;refine Az.same _ (Kn q wqq (by omega)) AG ?_;refine BK ?_;refine Ab ?_;exact AO (by rw[q1]) AA.out
theorem Tx (a b:Nat)(hb:b≠0)(ha:(AW a).length<1000000)(hbl:(AW b).length<1000000):AI C0 176 [rD a,rD b] (.tup [rD (a/b),rD (a%b)]):=by
 rcases BH a b with h|h
 ·exact gS a b h ha hbl
 ·rcases hl:(AW b).length with _|m
  ·have:=IA b
   rw[hl]at this;simp at this;exact Aa this hb
  ·rcases m with _|m
   ·exact jd a b h ha hl hb
   ·exact gT a b m h ha hl
abbrev rZ (z:Int):D:=.agg [Aq (decide (z<0)),rD z.natAbs]
def sg (neg:Bool)(n:Nat):Int:=if neg then -(n:Int)else n
theorem ik {n:Nat}:0<(AW n).length↔n≠0:=by
 constructor
 ·rintro h rfl
  rw[GB]at h;cases h
 ·intro h
  rw[IE h,Bk];exact Nat.succ_pos _
theorem Va (n:Nat):decide (((((AW n).map AY).length:Nat):Int)>0)=decide (n≠0):=by
 have:=@ik n
 rw[Ap];exact Co.2 ⟨λh=>this.1 (by omega),λh=>by have:=this.2 h;omega⟩
theorem tc (neg:Bool)(n:Nat):rZ (sg neg n)=.agg [Aq (neg&&decide (n≠0)),rD n]:=by
 unfold rZ sg;cases neg
 ·simp only[HO,if_false,KA,Dl]
  rw[Ag (by omega)]
 ·simp only[if_true,IU,LG,Dl]
  congr 3
  exact Co.2 (by omega)
theorem P1 (z:Int):sg (decide (z<0)) z.natAbs=z:=by
 unfold sg
 by_cases h:z<0
 ·rw[AZ h,AH rfl];omega
 ·rw[Ag h,AE (by decide)];omega
theorem S4 (b:Bool)(n:Nat):B0 (.agg [Aq b,.sl false 1 ((AW n).map AY)]):=.agg λd hd=>by
 simp only[A0,DC,or_false]at hd;rcases hd with rfl|rfl
 ·exact .prim _
 ·exact NS _
def FW (z:Int):Prop:=(AW z.natAbs).length<1000000
instance  (b:Bool)(n:Nat):AA (.agg [Aq b,rD n]):=⟨S4 b n⟩
theorem WE (a b:Nat)(fa:(AW a).length<1000000)(fb:(AW b).length<1000000):AI C0 175 [rD a,rD b] (rD (Nat.gcd a b)):=by
 refine Ah.walk w1 oV rfl λF=>?_
 change AC C0 F none F _ ⟨DE 0 [.sl false 1 ((AW a).map AY),.sl false 1 ((AW b).map AY)],[],0⟩ _;refine sR 0 ?_;refine AC.seq ?_;refine AC.block ?_;refine AC.loop (α:=Nat×Nat×Nat) (λp=>⟨[(0,.sl false 1 ((AW p.1).map AY)),(1,.sl false 1 ((AW p.2.1).map AY))],[],p.2.2⟩) (λp=>p.2.1)
  (λp=>Nat.gcd p.1 p.2.1=Nat.gcd a b/\(AW p.1).length<1000000/\(AW p.2.1).length<1000000) (a,b,_) ⟨rfl,fa,fb⟩ AL ?_
 rintro⟨x,y,n⟩ F ⟨h1,h2,h3⟩;dsimp only at h1 h2 h3⊢;have et:=Va y;refine AC.seq ?_;refine sZ 100 ?_;refine AT et ?_
 by_cases hy:y=0
 ·rw[Ag (by simpa using hy)]
  subst hy;refine AJ ?_;refine B6 ?_;refine sR 400 ?_;refine Ab ?_;refine AO (d0:=rD x) ?_ AA.out;rw[<-h1,Nat.gcd_zero_right]
 ·rw[AZ hy]
  have cd:=Tx x y hy h2 h3;refine AJ ?_;refine Ak ?_;refine AC.block ?_;refine sR 200 ?_;refine cI cd ?_;refine rI 300 ?_;refine⟨(y,x%y,_),⟨?_,h3,?_⟩,Bz x (by omega),AL⟩
  ·dsimp only
   rw[<-h1,MZ x y,Nat.gcd_rec y x,MZ]
  ·exact DB (H9 _ _ (Nat.mod_le x y)) h2
theorem PU (neg:Bool)(l:List Nat)(h:Rd l)(hl:l.length<1000000000):AI C0 177 [Aq neg,rL l] (rZ (sg neg (AM l))):=by
 refine Ah.walk w1 YH rfl λF=>?_
 rw[tc];have ct:=Kn l h (by omega);generalize AM l=n at*;have et:=Va n;unfold rD at ct⊢;unfold rL at ct⊢;refine sR 0 ?_;refine sR 100 ?_;refine cI ct ?_;refine AC.seq ?_;cases neg
 ·refine Am w1 200 (by kernel_rfl) ?_
  refine AD et ?_;refine Ab ?_;exact AO (by simp) (S4 _ n)
 ·refine Am w1 200 (by kernel_rfl) ?_
  refine AD et ?_;refine Ab ?_;exact AO (by simp) (S4 _ n)
theorem Kc (neg:Bool)(n:Nat)(h:(AW n).length<1000000000):AI C0 177 [Aq neg,rD n] (rZ (sg neg n)):=by
 have:=PU neg (AW n) (EL n) h
 rwa [Ds]at this
theorem Xc (z:Int)(h:FW z):AI C0 174 [rZ z] (rZ (-z)):=by
 have cs:=Kc (!decide (z<0)) z.natAbs (Fc h (by decide));have e:rZ (sg (!decide (z<0)) z.natAbs)=rZ (-z):=by
  congr 1
  unfold sg
  by_cases hz:z<0
  ·rw[AZ hz];simp;omega
  ·rw[Ag hz];simp;omega
 rw[e]at cs;refine Ah.walk w1 oU rfl λF=>?_
 refine sR 0 ?_;refine sR 100 ?_;refine cI cs ?_;refine Ab ?_;exact AO rfl AA.out
theorem NM (x y:Int)(hx:FW x)(hy:FW y):AI C0 125 [rZ x,rZ y] (rZ (x*y)):=by
 have cm:=Tk x.natAbs y.natAbs hx hy;have hl:(AW (x.natAbs*y.natAbs)).length<1000000000:=DB (RM _ _) (by unfold FW at hx hy;omega);have cs:=λb=>Kc b (x.natAbs*y.natAbs) hl
 have e:sg (decide (x<0) != decide (y<0)) (x.natAbs*y.natAbs)=x*y:=by
  conv=>rhs;rw[<-P1 x,<-P1 y]
  generalize decide (x<0)=a;generalize decide (y<0)=b;unfold sg;cases a<;>cases b<;>simp[Int.neg_mul,Int.mul_neg]
 rw[<-e];refine Ah.walk w1 mh rfl λF=>?_
 refine sR 0 ?_;refine AC.seq ?_;refine B5 w1 100 [0,1,2,3,4,5,6,7,8,9] [10,11] (by kernel_rfl) ?_;refine AD kN ?_;refine BQ.same _ cm AG ?_;refine AD kN ?_;refine Az.same _ (cs _) AG ?_;refine BK ?_;refine Ab ?_;exact AO rfl AA.out
theorem jF {a b:Nat}(h:b<=a):decide (Dh (a:Int) (b:Int)>=0)=true:=AZ (by unfold Dh;split<;>(try split)<;>omega)
theorem jG {a b:Nat}(h:a<b):decide (Dh (a:Int) (b:Int)>=0)=false:=Ag (by unfold Dh;split<;>(try split)<;>omega)
theorem rV (x y:Int)(hx:FW x)(hy:FW y):AI C0 225 [rZ x,rZ y] (rZ (x+y)):=by
 refine Ah.walk w1 no rfl λF=>?_
 unfold FW at hx hy;cases hs:(decide (x<0)==decide (y<0))
 ·have hs':decide (x<0)≠decide (y<0):=by simpa using hs
  have hs2:(x<0/\¬y<0)\/(¬x<0/\y<0):=by
   by_cases h1:x<0<;>by_cases h2:y<0<;>simp_all
  have cc:=QP x.natAbs y.natAbs (by omega) (by omega);refine sR 0 ?_;refine AC.seq ?_;refine sZ 100 ?_;refine AT hs ?_;refine AJ ?_;refine Ak ?_;refine AC.seq ?_;refine sR 300 ?_;refine cI cc ?_;rcases BH x.natAbs y.natAbs with h|h
  ·have cb:=aj y.natAbs x.natAbs (IY h) hy
   have cs:=Kc (decide (y<0)) (y.natAbs-x.natAbs) (DB (Uv _ _) (by omega));have e:sg (decide (y<0)) (y.natAbs-x.natAbs)=x+y:=by
    unfold sg
    by_cases hy0:y<0
    ·rw[AZ hy0,AH rfl];omega
    ·rw[Ag hy0,AE (by decide)];omega
   rw[e]at cs;rw[jG h];refine AJ ?_;refine Ak ?_;refine AC.seq ?_;refine B5 w1 500 [0,1,2,3,4,5,6] [7,8] (by kernel_rfl) ?_;refine AD kN ?_;refine BQ.same _ cb AG ?_;refine AD kN ?_;refine Az.same _ cs AG ?_;refine BK ?_;refine Ab ?_;exact AO rfl AA.out
  ·have cb:=aj x.natAbs y.natAbs h hx
   have cs:=Kc (decide (x<0)) (x.natAbs-y.natAbs) (DB (Uv _ _) (by omega));have e:sg (decide (x<0)) (x.natAbs-y.natAbs)=x+y:=by
    unfold sg
    by_cases hx0:x<0
    ·rw[AZ hx0,AH rfl];omega
    ·rw[Ag hx0,AE (by decide)];omega
   rw[e]at cs;rw[jF h];refine AJ ?_;refine AC.seq ?_;refine B5 w1 400 [0,1,2,3,4,5,6] [7,8] (by kernel_rfl) ?_;refine AD kN ?_;refine BQ.same _ cb AG ?_;refine AD kN ?_;refine Az.same _ cs AG ?_;refine BK ?_;refine Ab ?_;exact AO rfl AA.out
 ·have hs':decide (x<0)=decide (y<0):=by simpa using hs
  have ca:=r8 x.natAbs y.natAbs hx hy;have cs:=Kc (decide (x<0)) (x.natAbs+y.natAbs) (DB (Uu _ _) (by omega));have e:sg (decide (x<0)) (x.natAbs+y.natAbs)=x+y:=by
   unfold sg
   by_cases hx0:x<0
   ·have hy0:y<0:=Cw (hs'.symm.trans (AZ hx0))
    rw[AZ hx0,AH rfl];omega
   ·have hy0:¬y<0:=Cz (hs'.symm.trans (Ag hx0))
    rw[Ag hx0,AE (by decide)];omega
  rw[e]at cs;refine sR 0 ?_;refine AC.seq ?_;refine sZ 100 ?_;refine AT hs ?_;refine AJ ?_;refine AC.seq ?_;refine B5 w1 200 [0,1,2,3,4,5,6] [7,8] (by kernel_rfl) ?_;refine AD kN ?_;refine BQ.same _ ca AG ?_;refine AD kN ?_;refine Az.same _ cs AG ?_;refine BK ?_;refine Ab ?_;exact AO rfl AA.out
theorem ck (k m:Nat):EY (k+1) m []=EY k (m/10) []++[UInt8.ofNat (48+m%10)]:=by
 rw[<-Ug (k+1) m [] (.inr (Nat.succ_pos k))];unfold EY K6
 by_cases h:m/10=0
 ·rw[AH h,AH h];simp
 ·rw[AE h,AE h]
  rw[DV,Bo,GM,Nat.add_sub_add_right,Dk]
theorem SH:∀(k hi d:Nat),hi≠0->d<10^k->Lib.decDigits (hi*10^k+d)=Lib.decDigits hi++EY k d []
 | 0,hi,d,_,hd=>by
  have h0:d=0:=by simpa using hd
  subst h0;rw[LE,Dy,DL];simp[EY,K6]
 |k+1,hi,d,hh,hd=>by
  have e1:hi*10^(k+1)=10*(hi*10^k):=by rw[CE,<-Br,BP]
  have h1:1<=10^k:=Nat.pow_pos (by decide);have h2:1<=hi*10^k:=F6 (Do hh) h1;have h3:¬hi*10^(k+1)+d<10:=by omega
  have h4:d/10<10^k:=by rw[CE]at hd;omega
  rw[ck,<-Dk,<-SH k hi (d/10) hh h4];rw[Lib.decDigits,dif_neg h3,e1]
  congr 2
  ·omega
  ·congr 1;omega
theorem nN (hi d:Nat)(h:hi≠0)(hd:d<RB):Lib.decDigits (d+RB*hi)=Lib.decDigits hi++EY 9 d []:=by
 have:=SH 9 hi d h (CN hd (by decide))
 rw[<-this]
 congr 1
 rw[BP,KH]
theorem NG {l:List Nat}(h:Rd l):(Lib.decDigits (AM l)).length<=9*l.length+1:=by
 have h1:=Fl h;have e:RB^l.length=10^(9*l.length):=by rw[Nat.pow_mul]
 rw[e]at h1;refine LO _ _ (Fc h1 ?_);exact Nat.pow_lt_pow_right (by decide) (Gu _)
theorem XJ (neg:Bool)(n:Nat)(h:neg=true->n≠0):Lib.itoa (sg neg n)=if neg then 45::Lib.decDigits n else Lib.decDigits n:=by
 unfold Lib.itoa sg;cases neg
 ·simp only[HO,if_false]
  rw[AE (by omega)];rfl
 ·have:=h rfl
  simp only[if_true];rw[AH (by omega),LG];rfl
theorem ro (neg:Bool)(n:Nat)(h:neg=true->n≠0)(hl:(AW n).length<1000000):AI C0 126 [.agg [Aq neg,rD n]] (str (sb (Lib.itoa (sg neg n)))):=by
 refine Ah.walk w1 mi rfl λF=>?_
 rw[XJ neg n h];change AC C0 F none F _ ⟨DE 0 [.agg [Aq neg,.sl false 1 ((AW n).map AY)]],[],0⟩ _;have vn:=Ds n;have wn:=EL n;have tp:=λk a=>Oi n (k:=k) (a:=a)
 generalize AW n=l at*;subst vn;rcases hc:l.length with _|m
 ·have e0:l=[]:=Ei hc
  subst e0;have hn:neg=false:=by cases neg;rfl;exact Aa rfl (h rfl)
  subst hn;have e1:Lib.decDigits (AM [])=[48]:=by unfold Lib.decDigits AM;rw[dif_pos (by decide)];rfl
  rw[AE (by decide),e1];refine sR 0 ?_;refine AC.seq ?_;refine sR 100 ?_;refine AJ ?_;refine sR 200 ?_;refine Ab ?_;exact AO rfl AA.out
 ·obtain⟨y,hy⟩:=CH (l:=l) (i:=m) (by omega)
  have yl:=wn y (BA hy);have y0:=tp m y hc hy;have hy':=Db hy;have el:(((l.map AY).length:Nat):Int)=((m+1:Nat):Int):=by rw[Ap,hc]
  have et:(((m+1:Nat):Int)==0)=false:=B3.2 (by omega);have w0:IntKind.i64.wrap (((m+1:Nat):Int)-1)=(m:Int):=by rw[wI (by omega) (by omega)];omega
  have w2:IntKind.i64.wrap (((m+1:Nat):Int)-2)=(m:Int)-1:=by rw[wI (by omega) (by omega)];omega
  have cd:=On y 1 (by unfold RB at yl;omega);rw[Ww]at cd;have wr0:IntKind.i64.wrap ((((l.map AY).length:Nat):Int)-1)=(m:Int):=by rw[el,w0]
  have ed:l.drop m=[y]:=by
   rw[EU (by omega),Gq (by omega)];rw[BF (by omega)]at hy;rw[Ff hy]
  refine sR 0 ?_;refine AC.seq ?_;refine sZ 100 ?_;refine AT (Ac el et) ?_;refine AJ ?_;refine Ak ?_;refine sZ 300 ?_;refine AD (Bh el w0 wr0 kN) ?_;refine Bl kT hy' ?_;refine AD kN ?_;refine Az.same _ cd AG ?_;refine BK ?_;have ev:AM (l.drop m)=y:=by rw[ed];simp[AM]
  refine AC.seq ?_;refine sZ 400 ?_;refine AT (Ac el w2) ?_;refine AC.block ?_;refine AC.loop (α:=Nat×Nat) (λp=>⟨[(1,.optr 0 0 2 0 0),(3,str (sb (Lib.decDigits (AM (l.drop p.1))))),(4,i64 ((p.1:Int)-1))],[⟨0,0,165,2,[.agg [Aq neg,.sl false 1 (l.map AY)]]⟩],p.2⟩) (λp=>p.1)
   (λp=>p.1<=m/\AM (l.drop p.1)≠0) (m,_) ⟨Ae _,by dsimp only;rw[ev];exact y0⟩ (by dsimp only;rw[ev];exact AL) ?_
  rintro⟨k,n1⟩ F ⟨h1,h2⟩;dsimp only at h1 h2⊢;clear cd;refine AC.seq ?_;refine sR 500 ?_;refine AJ ?_
  (refine Bq (λh20=>?_) (λh20=>?_))<;>(try simp only[Bd,Bn]at h20)<;>(try simp only[h20])
  ·obtain⟨j,rfl⟩:∃j,k=j+1:=⟨k-1,by
    have:(k:Int)-1>=0:=by simpa using h20
    omega⟩
   have wj:((j+1:Nat):Int)-1=(j:Int):=by omega
   obtain⟨d,hd⟩:=CH (l:=l) (i:=j) (by omega);have hd':=Db hd;have dl:=wn d (BA hd);have c9:=On d 9 (by unfold RB at dl;omega);have eD:Lib.decDigits (AM (l.drop (j+1)))++EY 9 d []=Lib.decDigits (AM (l.drop j)):=by rw[Ou hd,nN _ _ h2 dl]
   have hlen:=NG (l:=l.drop j) λa ha=>wn a (J9 ha)
   rw[<-eD,Bo,DQ]at hlen;have h3:AM (l.drop j)≠0:=by
    rw[Ou hd]
    have:0<RB*AM (l.drop (j+1)):=F6 (by decide) (Do h2)
    omega
   have z1:=CL (Lib.decDigits (AM (l.drop (j+1))));have z2:=NF (EY 9 d []);have wi:IntKind.i64.wrap ((j:Int)-1)=(j:Int)-1:=wI (by omega) (by omega);rw[wj];refine Ak ?_;refine AC.seq ?_;refine AC.block ?_;refine Am w1 700 (by kernel_rfl) ?_;refine AD kN ?_;refine Bl kT hd' ?_;refine AD kN ?_;refine Az.same _ c9 AG ?_;refine BK ?_;rw[II,eD];refine Am w1 600 (by kernel_rfl) ?_;refine AT wi ?_;exact⟨(j,_),⟨by dsimp only;omega,h3⟩,by dsimp only;omega,AL⟩
  ·have hk:k=0:=by
    have:¬((k:Int)-1>=0):=by simpa using h20
    omega
   subst hk;rw[E6]at h2⊢;have hlen:=NG wn;have z1:=CL (Lib.decDigits (AM l));have z2:(⟨#[45]⟩:ByteArray).size=1:=rfl;refine B6 ?_;refine AC.seq ?_;refine AC.seq ?_;cases neg
   ·refine rI 800 ?_
    refine AJ ?_;refine Ak ?_;rw[AE (by decide)];refine sR 1000 ?_;refine Ab ?_;exact AO rfl AA.out
   ·refine rI 800 ?_
    refine AJ ?_;rw[AH rfl];refine sR 900 ?_;refine Ab ?_;refine AO ?_ AA.out;show str ((⟨([45]:List UInt8).toArray⟩:ByteArray)++⟨(Lib.decDigits (AM l)).toArray⟩)=_;rw[II];rfl
theorem TN (z:Int)(h:FW z):AI C0 126 [rZ z] (str (sb (Lib.itoa z))):=by
 have:=ro (decide (z<0)) z.natAbs (λh=>by have:=Cw h;omega) h
 rwa [P1]at this
theorem LA {C:A9}{f:Nat}{ds ds':List D}{Φ:D->Prop}{H:Hp}{n:Nat}(Hf:Hp)(hc:Ah C f ds' Φ)(hH:CW H Hf H Hf)(hv:EK H Hf ds ds')
  (hp:Af ds'):CT C f ds H n (λd' H' n'=>Φ d'/\H'=Hf/\n'=n+1):=by
 refine⟨hc.1,λF ρ w vs m hfr hg hvs hr=>?_⟩;obtain⟨m',hO,hN⟩:=hH.mem m;obtain⟨l1,l2⟩:=hv.spec;refine(hc.2 (AK F.X ρ Hf) w vs m.g (BO m.gn m.size) (λb hb=>m'.own_lt hb) (by omega) λi x hx=>?_).mono ?_
 ·have hi:i<ds'.length:=(List.getElem?_eq_some_iff.1 hx).1
  have hd0:ds[i]?=some ds[i]:=BF (by omega);exact hp.out x (BA hx) _ _ _ _ _ ((l2 i _ x hd0 hx).rep m hO hN (hr i _ hd0))
 ·rintro e w' ⟨v,d',rfl,hb,hd',rep⟩
  have hb2:∀(b:Nat) (cs:Array Value) (T:Nat) (fz:Nat×Nat),w.heap[b]?=some (.cells cs T fz)->∃(cs':Array Value) (fz':Nat×Nat),w'.heap[b]?=some (.cells cs' T fz')/\cs'.size=cs.size:=λb cs T fz hh=>⟨cs,_,by
   rw[hb.block b (Array.getElem?_eq_some_iff.1 hh).1];exact hh,rfl⟩
  have x:BL ρ (AK F.X ρ H) w ρ (AK F.X ρ Hf) w':=⟨hb.size,λ_ _ _ h=>h,λb hb' hO2=>⟨λh=>hO2 (hO b h),hb.block b hb'⟩,hb2⟩
  have x':BL ρ (AK F.X ρ Hf) w ρ (AK F.X ρ Hf) w':=⟨hb.size,λ_ _ _ h=>h,λb hb' hO2=>⟨hO2,hb.block b hb'⟩,hb2⟩
  refine⟨v,_,Hf,n+1,ρ,rfl,⟨hd',rfl,rfl⟩,m'.same x' hb.os hb.tape hb.output hb.block,x,λk g hg'=>hfr k g (by omega),λe he=>?_,rep.mono ⟨Ae _,λ_ _ _ h=>(by cases h),λb _ hO2=>⟨hO2,rfl⟩,λb cs T fz h=>⟨cs,_,h,rfl⟩⟩⟩;obtain⟨e',h1,h2,h3,_⟩:=hH.names e he
  have:=hg e' h1
  omega
theorem dm {l:List UInt8}{i:Nat}{c:UInt8}(hc:l[i]?=some c)(hi:i<=BC l):(((c.toNat:Nat):Int)==47)=decide (i=BC l):=by
 have e1:(((c.toNat:Nat):Int)==47)=(c==47):=by
  rw[F7,Dp,Dp,<-UInt8.toNat_inj];exact⟨λh=>(show c.toNat=47 by omega),λh=>by rw[h];rfl⟩
 rw[e1];unfold BC at hi⊢;clear e1
 induction l generalizing i with
 |nil=>cases hc
 |cons a l ih=>
  rw[Mb]at hi⊢;cases i with
  |zero=>
   cases hc
   by_cases h:c=47
   ·subst h;rfl
   ·have h1:(c != 47)=true:=by simpa using h
    have h2:(c==47)=false:=by simpa using h
    rw[AH h1,h2,Bk,Ag (by omega)]
  |succ i=>
   by_cases h:a=47
   ·subst h
    exact Aa hi (by simp)
   ·have h1:(a != 47)=true:=by simpa using h
    rw[AH h1,Bk]at hi⊢;rw[ih hc (by omega)];exact Co.2 (by omega)
theorem Ph (l:List UInt8)(h:l.all BY=true)(hl:l.length<=18):AI C0 170 [str (sb l)] (i64 (dv l:Int)):=by
 refine Ah.walk w1 oQ rfl λF=>?_
 have hsz:=CL l;refine sR 0 ?_;refine sR 100 ?_;refine AC.seq ?_;refine sR 200 ?_;refine AC.block ?_;refine AC.loop (α:=Nat×Nat) (λp=>⟨[(0,str (sb l)),(3,i64 (dv (l.take p.1):Int)),(4,i64 (p.1:Int))],[],p.2⟩) (λp=>l.length-p.1) (λp=>p.1<=l.length) (0,_) (BT _) AL ?_;rintro⟨i,n⟩ F hi;dsimp only at hi⊢;refine AC.seq ?_;refine sZ 300 ?_;refine AT hsz ?_;refine AJ ?_
 (refine Bq (λhlt=>?_) (λhlt=>?_))<;>(try simp only[Bd,Bn]at hlt)<;>(try simp only[hlt])
 ·have hi2:i<l.length:=by
   have:=Cw hlt
   omega
  obtain⟨c,hc⟩:∃c,l[i]?=some c:=⟨l[i],BF hi2⟩
  have hcd:BY c=true:=CI.1 h c (BA hc);obtain⟨c1,c2⟩:=KU hcd;have hg:(sb l).data.toList.getD i 0=c:=by
   show(l.toArray.toList).getD i 0=c;simp[hc]
  have hdl:dv (l.take i)<10^17:=by
   have:=Fp (l.take i) (CI.2 λa ha=>CI.1 h a (H4 ha))
   rw[Bf,E2 hi]at this;exact CN this (Ez (by decide) (by omega))
  have hnx:dv (l.take (i+1))=dv (l.take i)*10+(c.toNat-48):=by
   rw[Dx,hc];show dv (l.take i++[c])=_;rw[My];simp[dv,GR]
  have k1:IntKind.i64.wrap (10*(dv (l.take i):Int))=((10*dv (l.take i):Nat):Int):=by rw[wI (by omega) (by omega)];omega
  have k2:IntKind.i64.wrap ((c.toNat:Nat):Int)=((c.toNat:Nat):Int):=wI (by omega) (by omega);have k3:IntKind.i64.wrap (((10*dv (l.take i):Nat):Int)+((c.toNat:Nat):Int))=((10*dv (l.take i)+c.toNat:Nat):Int):=by rw[wI (by omega) (by omega)];omega
  have k4:IntKind.i64.wrap (((10*dv (l.take i)+c.toNat:Nat):Int)-48)=((dv (l.take (i+1)):Nat):Int):=by rw[hnx,wI (by omega) (by omega)];omega
  have wi:IntKind.i64.wrap ((i:Int)+1)=((i+1:Nat):Int):=wI (by omega) (by omega);refine Ak ?_;refine AC.seq ?_;refine AC.block ?_;refine Am w1 500 (by kernel_rfl) ?_;refine AT (E7 kN hg k1 k2 k3 k4) ?_;refine Am w1 400 (by kernel_rfl) ?_;refine AT wi ?_;exact⟨(i+1,_),hi2,by dsimp only;omega,AL⟩
 ·have hi2:i=l.length:=by
   have:=Cz hlt
   omega
  subst hi2;rw[B1 (Ae _)];refine B6 ?_;refine sR 600 ?_;refine Ab ?_;exact AO rfl AA.out
theorem NL (l:List UInt8)(hl:l.length<=1000000000):AI C0 169 [str (sb l)] (i64 (BC l:Int)):=by
 refine Ah.walk w1 oP rfl λF=>?_
 have hsz:=CL l;refine sR 0 ?_;refine AC.seq ?_;refine sR 100 ?_;refine AC.block ?_;refine AC.loop (α:=Nat×Nat) (λp=>⟨[(0,str (sb l)),(3,i64 (p.1:Int))],[],p.2⟩) (λp=>l.length-p.1) (λp=>p.1<=BC l) (0,_) (BT _) AL ?_;rintro⟨i,n⟩ F hi;dsimp only at hi⊢;have hsl:=Ic l;refine AC.seq ?_;refine sZ 200 ?_;refine AT hsz ?_;refine AJ ?_
 (refine Bq (λhlt=>?_) (λhlt=>?_))<;>(try simp only[Bd,Bn]at hlt)<;>(try simp only[hlt])
 ·have hi2:i<l.length:=by
   have:=Cw hlt
   omega
  obtain⟨c,hc⟩:∃c,l[i]?=some c:=⟨l[i],BF hi2⟩
  have hg:(sb l).data.toList.getD i 0=c:=by
   show(l.toArray.toList).getD i 0=c;simp[hc]
  have wi:IntKind.i64.wrap ((i:Int)+1)=((i+1:Nat):Int):=wI (by omega) (by omega);have ht:(((c.toNat:Nat):Int)==47)=decide (i=BC l):=dm hc hi;refine Ak ?_;refine AC.seq ?_;refine AC.block ?_;refine sZ 400 ?_;refine AT (Au kN hg ht) ?_
  by_cases he:i=BC l
  ·rw[AZ he]
   refine AJ ?_;refine sR 500 ?_;refine Ab ?_;exact AO (by rw[he]) AA.out
  ·rw[Ag he]
   refine AJ ?_;refine Ak ?_;refine Am w1 300 (by kernel_rfl) ?_;refine AT wi ?_;exact⟨(i+1,_),by dsimp only;omega,by dsimp only;omega,AL⟩
 ·have hi2:i=l.length:=by
   have:=Cz hlt
   omega
  refine B6 ?_;refine sZ 600 ?_;refine AT hsz ?_;refine Ab ?_;exact AO (by congr 3;omega) AA.out
theorem R9 {H Hf:Hp}{K g T:Nat}{l:List Nat}{N:Nat}(hl:l.length=N)(he:Hp.get H K=some ⟨K,g,T,1,l.map AY⟩:=by exact rfl)(hn:Hp.get Hf K=none:=by exact rfl):Fz H Hf (.osl K g 1 0 N) (.sl false 1 (l.map AY)):=by
 subst hl;have key:∀(j:Nat) (d d':D),(l.map AY)[0+j]?=some d->(l.map AY)[j]?=some d'->d=d':=λj d d' h1 h2=>by
  rw[BM]at h1;rw[h1]at h2;exact Ff h2
 refine .osl (e:=⟨K,g,T,1,l.map AY⟩) he hn rfl rfl (by simp) (by simp) (λj d d' h1 h2=>by rw[key j d d' h1 h2]) λj d d' q c c' h1 h2 h3 h4=>?_
 rw[key j d d' h1 h2]at h3;rw[h3]at h4;cases h4;exact Fz.refl _
theorem PP (c:UInt8)(l:List UInt8):(((c.toNat:Nat):Int)==45)=C9 (c::l):=by
 show _=(c==45);rw[F7,Dp,Dp,<-UInt8.toNat_inj];exact⟨λh=>(show c.toNat=45 by omega),λh=>by rw[h];rfl⟩
abbrev MF:Ar:=⟨0,0,165,2,[.agg [Aq false,CD]]⟩
theorem nQ {x:List UInt8}(h:9<x.length):dv x=dv (x.take (x.length-9))*RB+dv (x.drop (x.length-9)):=by
 conv=>lhs;rw[<-Ef (x.length-9) x,My,DQ,show x.length-(x.length-9)=9 by omega]
theorem rX (A B t n v:Nat):(A*B+t)*B^n+v=A*B^(n+1)+(v+B^n*t):=by
 rw[Bp,Br,CE,BP B,BP t];omega
theorem U4 {x x0:List UInt8}{w:List Nat}(h9:9<x.length)(g1:x.all BY=true)(g2:x.length+w.length*9=x0.length)(g3:Rd w)(g4:dv x0=dv x*RB^w.length+AM w):
  (x.take (x.length-9)).all BY=true/\(x.take (x.length-9)).length+(w++[dv (x.drop (x.length-9))]).length*9=x0.length/\Rd (w++[dv (x.drop (x.length-9))]) /\
  dv x0=dv (x.take (x.length-9))*RB^(w++[dv (x.drop (x.length-9))]).length+AM (w++[dv (x.drop (x.length-9))]):=by
 refine⟨CI.2 λa ha=>CI.1 g1 a (H4 ha),?_,Rd.append g3 λa ha=>?_,?_⟩
 ·rw[Bf,Bo,GM];omega
 ·simp only[A0,DC,or_false]at ha
  subst ha
  have:=Fp (x.drop (x.length-9)) (CI.2 λa ha=>CI.1 g1 a (J9 ha))
  rwa [DQ,show x.length-(x.length-9)=9 by omega]at this
 ·rw[g4,nQ h9,GU rfl,Bo,GM]
  exact rX _ _ _ _ _
theorem gH {x x0:List UInt8}{w:List Nat}(h9:x.length<=9)(g1:x.all BY=true)(g3:Rd w)(g4:dv x0=dv x*RB^w.length+AM w):Rd (w++[dv x])/\AM (w++[dv x])=dv x0:=by
 refine⟨Rd.append g3 λa ha=>?_,?_⟩
 ·simp only[A0,DC,or_false]at ha
  subst ha;exact CN (Fp x g1) (Ez (by decide) h9)
 ·rw[g4,GU rfl,BP,KH]
theorem W3 {w:List Nat}{a:Nat}:List.take w.length (w.map AY)++[i64 (a:Int)]=(w++[a]).map AY:=by
 rw[B1 (by rw[Ap];exact Ae _),C4];rfl
theorem XY (l:List UInt8)(hd:(Bi l).all BY=true)(hl:l.length<=1000000):AI C0 173 [str (sb l)] (rZ (rv l)):=by
 have er:rv l=sg (C9 l) (dv (Bi l)):=rfl;rw[er];refine Ah.walk w1 oT rfl λF=>?_
 have hsz:=CL l;have hdl:(Bi l).length<=l.length:=by
  unfold Bi;split
  ·rw[DQ];omega
  ·exact Ae _
 refine sR 0 ?_;refine Ck (α:=Nat) (λn=>⟨[(0,str (sb l)),(2,.optr 0 0 2 0 0),(3,Aq (C9 l))],[MF],n⟩) (λ_=>True) ?_ ?_
 ·cases l with
  |nil=>
   have e0:(sb []).size=0:=rfl;have e1:decide (((0:Nat):Int)>0)=false:=rfl;refine Am w1 100 (by kernel_rfl) ?_;refine AD (Ac e0 e1) ?_;refine AD (Ac kF e1) ?_;exact⟨trivial,_,trivial,AL⟩
  |cons c l=>
   have hpos:(sb (c::l)).size=l.length+1:=hsz;have e0:decide (((sb (c::l)).size:Int)>0)=true:=AZ (by omega);have e1:((((c::l).getD (Int.toNat 0) 0).toNat:Int)==45)=C9 (c::l):=PP c l;refine Am w1 100 (by kernel_rfl) ?_;refine AD e0 ?_;refine AD (Au kT e0 e1) ?_;exact⟨trivial,_,trivial,AL⟩
 rintro n0 -;refine Ck (α:=Nat) (λn=>⟨[(0,str (sb (Bi l))),(2,.optr 0 0 2 0 0),(3,Aq (C9 l))],[MF],n⟩) (λ_=>True) ?_ ?_
 ·refine sR 200 ?_
  cases hb:C9 l
  ·have ed:Bi l=l:=by unfold Bi;rw[hb];rfl
   rw[ed];refine AJ ?_;refine Ak ?_;exact⟨rfl,_,trivial,AL⟩
  ·have ed:Bi l=l.drop 1:=by unfold Bi;rw[hb];rfl
   have hl0:1<=l.length:=by
    cases l with
    |nil=>cases hb
    |cons c l=>rw[Bk];omega
   have ee:(sb l).extract (Int.toNat 1) l.length=sb (Bi l):=by
    rw[D9,B1 (Ae _),ed];rfl
   refine AJ ?_;refine Am w1 300 (by kernel_rfl) ?_;refine AD (Ac hsz kN) ?_;rw[ee];exact⟨trivial,_,trivial,AL⟩
 rintro n1 -;generalize C9 l=neg at*;generalize Bi l=x0 at*;clear er hsz;have hx0:x0.length<=1000000:=BO hdl hl;clear hdl hl l;refine sR 400 ?_;refine AC.seq ?_;refine AC.block ?_;refine AC.loop (α:=Bool×List UInt8×List Nat×Nat×Nat) (λp=>match p with
  |(false,x,_,_,n)=>⟨[(0,str (sb x)),(2,.optr 0 0 2 0 0),(3,Aq neg),(4,CD)],[MF],n⟩
  |(true,x,w,g,n)=>⟨[(0,str (sb x)),(2,.optr 0 0 2 0 0),(3,Aq neg),(4,.osl 608 g 1 0 w.length)],[⟨608,g,3,1,w.map AY⟩,MF],n⟩) (λp=>p.2.1.length)
  (λp=>p.2.1.all BY=true/\p.2.1.length+p.2.2.1.length*9=x0.length/\Rd p.2.2.1/\dv x0=dv p.2.1*RB^p.2.2.1.length+AM p.2.2.1/\(p.1=false->p.2.2.1=[]))
  (false,x0,[],0,_) ⟨hd,rfl,(λa ha=>by cases ha),by simp[AM],λ_=>rfl⟩ AL ?_
 rintro⟨t,x,w,g,n2⟩ F ⟨g1,g2,g3,g4,g5⟩;dsimp only at g1 g2 g3 g4 g5;have hsz:=CL x
 by_cases h9:9<x.length
 ·have ht:decide ((x.length:Int)>9)=true:=AZ (by omega)
  have cv:=Ph (x.drop (x.length-9)) (CI.2 λa ha=>CI.1 g1 a (J9 ha)) (by rw[DQ];omega);have wk:IntKind.i64.wrap ((x.length:Int)-9)=((x.length-9:Nat):Int):=by rw[wI (by omega) (by omega)];omega
  have wr:IntKind.i64.wrap (((sb x).size:Int)-9)=((x.length-9:Nat):Int):=by rw[hsz,wk]
  have e1:(sb x).extract (x.length-9) x.length=sb (x.drop (x.length-9)):=by rw[D9,B1 (Ae _)]
  have e2:(sb x).extract 0 (x.length-9)=sb (x.take (x.length-9)):=by rw[D9,E6]
  cases t
  ·dsimp only
   obtain rfl:=g5 rfl;refine AC.seq ?_;refine sZ 500 ?_;refine AT (Ac hsz ht) ?_;refine AJ ?_;refine Ak ?_;refine AC.block ?_;refine sZ 600 ?_;refine AD (C5 hsz wk wr kN e1) ?_;refine Az.same _ cv AG ?_;refine BK ?_;have J:=U4 h9 g1 g2 g3 g4;rw[FZ]at J;refine Am w1 700 (by kernel_rfl) ?_;refine AD (Bh hsz wk wr kN) ?_;refine AD e2 ?_;exact⟨(true,x.take (x.length-9),[dv (x.drop (x.length-9))],n2+11,_),⟨J.1,J.2.1,J.2.2.1,J.2.2.2,λh=>by cases h⟩,by dsimp only;rw[Bf];omega,AL⟩
  ·dsimp only
   clear g5;have J:=U4 h9 g1 g2 g3 g4;have ew:(w.map AY).length=w.length:=Ap _;have el:w.length+1=(w++[dv (x.drop (x.length-9))]).length:=by rw[Bo];rfl
   refine AC.seq ?_;refine sZ 500 ?_;refine AT (Ac hsz ht) ?_;refine AJ ?_;refine Ak ?_;refine AC.block ?_;refine sZ 600 ?_;refine AD (C5 hsz wk wr kN e1) ?_;refine Az.same _ cv AG ?_;refine BK ?_;rw[W3,el];refine Am w1 700 (by kernel_rfl) ?_;refine AD (Bh hsz wk wr kN) ?_;refine AD e2 ?_;exact⟨(true,x.take (x.length-9),w++[dv (x.drop (x.length-9))],n2+11,_),⟨J.1,J.2.1,J.2.2.1,J.2.2.2,λh=>by cases h⟩,by dsimp only;rw[Bf];omega,AL⟩
 ·have ht:decide ((x.length:Int)>9)=false:=Ag (by omega)
  have cv:=Ph x g1 (by omega);obtain⟨r1,r2⟩:=gH (by omega) g1 g3 g4;have cs:=PU neg (w++[dv x]) r1 (by rw[Bo,GM];omega);rw[r2]at cs;cases t
  ·dsimp only
   obtain rfl:=g5 rfl;refine AC.seq ?_;refine sZ 500 ?_;refine AT (Ac hsz ht) ?_;refine AJ ?_;refine B6 ?_;refine sR 800 ?_;refine Az.same _ cv AG ?_;refine BK ?_;refine Az.own _ (LA [MF] cs (.drop (.keep .nil)) ⟨.refl _,R9 rfl,trivial⟩ AG) ?_;rintro d H' n' ⟨rfl,rfl,rfl⟩;refine BK ?_;refine Ab ?_;exact AO rfl AA.out
  ·dsimp only
   clear g5;have ew:(w.map AY).length=w.length:=Ap _;have el:w.length+1=(w++[dv x]).length:=by rw[Bo];rfl
   refine AC.seq ?_;refine sZ 500 ?_;refine AT (Ac hsz ht) ?_;refine AJ ?_;refine B6 ?_;refine sR 800 ?_;refine Az.same _ cv AG ?_;refine BK ?_;rw[W3,el];refine Az.own _ (LA [MF] cs (.drop (.keep .nil)) ⟨.refl _,R9 rfl,trivial⟩ AG) ?_;rintro d H' n' ⟨rfl,rfl,rfl⟩;refine BK ?_;refine Ab ?_;exact AO rfl AA.out
def UF (o:Option D):Bool:=match o with
 |some (.agg [.prim (.bool false),.sl false 1 [.prim (.int .i64 1)]])=>true
 |_=>false
theorem ic {o:Option D}(h:UF o=true):o=some (rZ 1):=by
 have h1:AW 1=[1]:=Oh (by decide) (by decide);unfold UF at h;split at h
 ·show _=some (D.agg [Aq (decide ((1:Int)<0)),rL (AW 1)])
  rw[h1];rfl
 ·cases h
theorem eA:UF ((F8 X1 1000 60).1 127 [i64 1])=true:=by kernel_rfl
theorem gi:AI C0 127 [i64 1] (rZ 1):=CA DJ 1000 60 (ic eA)
def N9 (l:List UInt8):Int:=rv (Bu l)
def N0 (l:List UInt8):Int:=if Ce l then rv (BR l)else 1
instance  (x y:Int):AA (.tup [rZ x,rZ y]):=⟨.tup λd hd=>by
 simp only[A0,DC,or_false]at hd;rcases hd with rfl|rfl
 ·exact AA.out
 ·exact AA.out⟩
theorem NR (l:List UInt8)(hn:(Bi (Bu l)).all BY=true)(hd:(Bi (BR l)).all BY=true)(hl:l.length<=1000000):AI C0 123 [str (sb l)] (.tup [rZ (N9 l),rZ (N0 l)]):=by
 refine Ah.walk w1 me rfl λF=>?_
 have hsz:=CL l;have cs:=NL l (by omega);have hsl:=Ic l;have c1:=XY (Bu l) hn (by unfold Bu;rw[Bf];omega);have c2:=XY (BR l) hd (by unfold BR;rw[DQ];omega);have cw:=gi;unfold N9 N0;refine sR 0 ?_;refine sR 100 ?_;refine sR 200 ?_;refine cI cs ?_;cases hh:Ce l
 ·have he:BC l=l.length:=by
   unfold Ce at hh
   have:=Cz hh
   omega
  have e0:(((BC l:Nat):Int)==(l.length:Int))=true:=Dp.2 (by omega);have en:Bu l=l:=by unfold Bu;rw[he,B1 (Ae _)]
  rw[en]at c1⊢;refine AC.seq ?_;refine sZ 300 ?_;refine AT (Ac hsz e0) ?_;refine AJ ?_;refine sR 400 ?_;refine cI c1 ?_;refine Az.same _ cw AG ?_;refine BK ?_;refine Ab ?_;exact AO rfl AA.out
 ·have he:BC l<l.length:=Cw hh
  have e0:(((BC l:Nat):Int)==(l.length:Int))=false:=B3.2 (by omega);have x1:(sb l).extract 0 (BC l)=sb (Bu l):=by rw[D9,E6];rfl
  have x2:(sb l).extract (BC l+1) l.length=sb (BR l):=by rw[D9,B1 (Ae _)];rfl
  have wk:IntKind.i64.wrap (((BC l:Nat):Int)+1)=((BC l+1:Nat):Int):=wI (by omega) (by omega);refine AC.seq ?_;refine sZ 300 ?_;refine AT (Ac hsz e0) ?_;refine AJ ?_;refine Ak ?_;refine AC.seq ?_;refine B5 w1 500 [0,1,2,3,4,5,6,7] [8,9,10] (by kernel_rfl) ?_;refine AD (C5 hsz wk kN x1 x2) ?_;refine BQ.same _ c1 AG ?_;refine AD (C5 hsz wk kN x1 x2) ?_;refine Az.same _ c2 AG ?_;refine BK ?_;refine Ab ?_;exact AO rfl AA.out
def Ao (r:Rat):List UInt8:=if r.den=1 then Lib.itoa r.num else Lib.itoa r.num++47::Lib.decDigits r.den
def qZ (x y:Int):Rat:=mkRat (if y<0 then -x else x) y.natAbs
theorem Rx {x:Int}{d:Nat}(hd:d≠0):(mkRat x d).num=sg (decide (x<0)) (x.natAbs/Nat.gcd x.natAbs d)/\(mkRat x d).den=d/Nat.gcd x.natAbs d:=by
 rw[mkRat,dif_neg hd,Rat.normalize_eq];refine⟨?_,rfl⟩;dsimp only;have hg:0<Nat.gcd x.natAbs d:=OI _ (Do hd);obtain⟨p,hp⟩:=Nat.gcd_dvd_left x.natAbs d;have e1:x.natAbs/Nat.gcd x.natAbs d=p:=by
  refine Nat.div_eq_of_eq_mul_right hg hp
 have e2:x=(Nat.gcd x.natAbs d:Int)*sg (decide (x<0)) p:=by
  have h0:(x.natAbs:Int)=(Nat.gcd x.natAbs d:Int)*(p:Int):=by rw[<-EG,<-hp]
  unfold sg
  by_cases hx:x<0
  ·rw[AZ hx,AH rfl,Int.mul_neg,<-h0];omega
  ·rw[Ag hx,AE (by decide),<-h0];omega
 rw[e1]
 conv=>lhs;arg 1;rw[e2]
 rw[Int.mul_ediv_cancel_left _ (by omega)]
theorem Wq (q:Nat):((((((AW q).map AY).length:Nat):Int)==1)=true/\∃a,(AW q)[0]?=some a/\(((a:Nat):Int)==1)=decide (q=1))\/((((((AW q).map AY).length:Nat):Int)==1)=false/\q≠1):=by
 rw[Ap]
 by_cases h:(AW q).length=1
 ·refine .inl ⟨Dp.2 (by omega),?_⟩
  obtain⟨a,ha⟩:=CH (l:=AW q) (i:=0) (by omega);refine⟨a,ha,?_⟩;have e:AW q=[a]:=by
   obtain⟨b,hb⟩:=List.length_eq_one_iff.1 h;rw[hb]at ha⊢;cases ha;rfl
  have e2:q=a:=by rw[<-Ds q,e];simp[AM]
  rw[e2];rw[F7,Dp,decide_eq_true_iff];omega
 ·refine .inr ⟨B3.2 (by omega),λhq=>h ?_⟩
  rw[hq,Oh (by decide) (by decide)];rfl
theorem VL (x y:Int)(hy0:y≠0)(hx:FW x)(hy:FW y):AI C0 124 [rZ x,rZ y] (str (sb (Ao (qZ x y)))):=by
 refine Ah.walk w1 mg rfl λF=>?_
 unfold qZ;refine sR 0 ?_;refine Ck (α:=Nat) (λn=>⟨[(2,.optr 0 0 2 0 0),(3,.optr 1 1 2 0 0)],[⟨1,1,165,2,[.agg [Aq false,rD y.natAbs]]⟩,⟨0,0,165,2,[rZ (if y<0 then -x else x)]⟩],n⟩) (λ_=>True) ?_ ?_
 ·by_cases h:y<0
  ·have cx:=Xc x hx
   have cy:=Xc y hy;have e1:rZ (-y)=.agg [Aq false,rD y.natAbs]:=by
    show D.agg [Aq (decide (-y<0)),rD (-y).natAbs]=_;rw[Ag (by omega),LG]
   rw[e1]at cy;rw[AH h];refine sZ 100 ?_;refine AT (AZ h) ?_;refine AJ ?_;refine B5 w1 200 [0,1,2] [3,4,5] (by kernel_rfl) ?_;refine AD kN ?_;refine BQ.same _ cx AG ?_;refine AD kN ?_;refine Az.same _ cy AG ?_;refine BK ?_;exact⟨trivial,_,trivial,AL⟩
  ·have e1:rZ y=.agg [Aq false,rD y.natAbs]:=by
    show D.agg [Aq (decide (y<0)),rD y.natAbs]=_;rw[Ag h]
   rw[AE h];refine sZ 100 ?_;refine AT (Ag h) ?_;refine AJ ?_;refine Ak ?_;refine⟨rfl,5,trivial,?_⟩;rw[<-e1];exact AL
 rintro n0 -;obtain⟨z,hz⟩:∃z,z=(if y<0 then -x else x):=⟨_,rfl⟩
 have hza:z.natAbs=x.natAbs:=by rw[hz];split<;>omega
 obtain⟨d,hd⟩:∃d,d=y.natAbs:=⟨_,rfl⟩
 have hd0:d≠0:=by omega
 unfold FW at hx hy;rw[<-hza]at hx;rw[<-hd]at hy;rw[<-hz,<-hd];clear hz hza hd hy0;clear x y;have cg:=WE z.natAbs d hx hy;obtain⟨qn,qd⟩:=Rx (x:=z) hd0;have hg:0<Nat.gcd z.natAbs d:=OI _ (Do hd0);have hgl:(AW (Nat.gcd z.natAbs d)).length<1000000:=DB (H9 _ _ (Nat.gcd_le_right _ (Do hd0))) hy;have c4:=Tx z.natAbs (Nat.gcd z.natAbs d) (by omega) hx hgl;have c5:AI C0 176 [rD d,rD (Nat.gcd z.natAbs d)] (.tup [.sl false 1 ((AW (d/Nat.gcd z.natAbs d)).map AY),rD (d%Nat.gcd z.natAbs d)]):=Tx d (Nat.gcd z.natAbs d) (by omega) hy hgl;have hpl:(AW (z.natAbs/Nat.gcd z.natAbs d)).length<1000000:=DB (H9 _ _ (GP _ _)) hx;have hql:(AW (d/Nat.gcd z.natAbs d)).length<1000000:=DB (H9 _ _ (GP _ _)) hy;have etx:Ao (mkRat z d)=if d/Nat.gcd z.natAbs d=1 then Lib.itoa (sg (decide (z<0)) (z.natAbs/Nat.gcd z.natAbs d))else Lib.itoa (sg (decide (z<0)) (z.natAbs/Nat.gcd z.natAbs d))++47::Lib.decDigits (d/Nat.gcd z.natAbs d):=by
  unfold Ao;rw[qn,qd]
 rw[etx];clear etx qn qd hg hgl;generalize z.natAbs/Nat.gcd z.natAbs d=p at*;generalize d/Nat.gcd z.natAbs d=q at*;generalize z.natAbs%Nat.gcd z.natAbs d=r1 at*;generalize d%Nat.gcd z.natAbs d=r2 at*;generalize Nat.gcd z.natAbs d=gg at*;have c6:=Kc (decide (z<0)) p (by omega);have hab:(sg (decide (z<0)) p).natAbs=p:=by unfold sg;split<;>omega
 have c7:=TN (sg (decide (z<0)) p) (by unfold FW;rw[hab];exact hpl);have c8:=Kc false q (by omega);have c9:=TN (sg false q) (by unfold FW;show(AW q).length<1000000;exact hql);have e9:Lib.itoa (sg false q)=Lib.decDigits q:=by rw[XJ false q (by simp)];rfl
 rw[e9]at c9;have l1:=NG (EL p);rw[Ds]at l1;have l2:=NG (EL q);rw[Ds]at l2;have l3:(Lib.itoa (sg (decide (z<0)) p)).length<=(Lib.decDigits p).length+1:=by
  unfold Lib.itoa;split
  ·rw[hab,Bk];exact Ae _
  ·rw[show(sg (decide (z<0)) p).toNat=p by omega];omega
 generalize sg (decide (z<0)) p=pz at*;have s1:=CL (Lib.itoa pz);have s2:=CL (Lib.decDigits q);have s3:(⟨#[47]⟩:ByteArray).size=1:=rfl;have s4:(sb (Lib.itoa pz)++(⟨#[47]⟩:ByteArray)).size=(sb (Lib.itoa pz)).size+(⟨#[47]⟩:ByteArray).size:=ByteArray.size_append;generalize Lib.itoa pz=t1 at*;generalize Lib.decDigits q=t2 at*;refine sR 300 ?_;refine cI cg ?_;refine sR 400 ?_;refine cI c4 ?_;refine sR 500 ?_;refine cI c5 ?_;refine sR 600 ?_;refine cI c6 ?_;refine cI c7 ?_;have ht:=Wq q;rcases ht with⟨h1,a,ha,h2⟩|⟨h1,h2⟩
 ·have ha':=Db ha
  refine AC.seq ?_;refine sZ 700 ?_;refine AD h1 ?_;refine Bl kT ha' ?_;refine AD (Ac h1 h2) ?_
  by_cases hq:q=1
  ·rw[AZ hq,AH hq]
   refine AJ ?_;refine sR 800 ?_;refine Ab ?_;exact AO rfl AA.out
  ·rw[Ag hq,AE hq]
   refine AJ ?_;refine Ak ?_;refine sR 900 ?_;refine Az.same _ c8 AG ?_;refine BK ?_;refine Az.same _ c9 AG ?_;refine BK ?_;refine Ab ?_;refine AO ?_ AA.out;show str ((⟨t1.toArray⟩++⟨([47]:List UInt8).toArray⟩:ByteArray)++⟨t2.toArray⟩)=_;rw[II,II,Dk];rfl
 ·rw[AE h2]
  refine AC.seq ?_;refine sZ 700 ?_;refine AT h1 ?_;refine AD kF ?_;refine AJ ?_;refine Ak ?_;refine sR 900 ?_;refine Az.same _ c8 AG ?_;refine BK ?_;refine Az.same _ c9 AG ?_;refine BK ?_;refine Ab ?_;refine AO ?_ AA.out;show str ((⟨t1.toArray⟩++⟨([47]:List UInt8).toArray⟩:ByteArray)++⟨t2.toArray⟩)=_;rw[II,II,Dk];rfl
set_option maxHeartbeats 2000000
theorem PI (k:Nat)(h:k<10):(UInt8.ofNat (48+k)).toNat=48+k:=by
 rw[UInt8.toNat_ofNat'];omega
theorem EE:∀n:Nat,(Lib.decDigits n).all BY=true/\dv (Lib.decDigits n)=n/\(Lib.decDigits n)≠[]:=λn=>by
 induction n using Nat.strongRecOn with
 |_ n ih=>
  have one:∀k,k<10->BY (UInt8.ofNat (48+k))=true:=λk hk=>by
   unfold BY;rw[PI k hk,BX];exact⟨Nat.ble_eq_true_of_le (by omega),Nat.ble_eq_true_of_le (by omega)⟩
  have vone:∀k,k<10->dv [UInt8.ofNat (48+k)]=k:=λk hk=>by
   show 0*10+((UInt8.ofNat (48+k)).toNat-48)=k;rw[PI k hk];omega
  rw[Lib.decDigits];split
  ·rename_i h
   exact⟨by rw[F5,one n h];rfl,vone n h,by simp⟩
  ·rename_i h
   obtain⟨h1,h2,h3⟩:=ih (n/10) (by omega);refine⟨by rw[LF,h1,F5,one _ (Bz _ (by decide))];rfl,?_,by simp⟩;rw[My,h2,vone _ (Bz _ (by decide)),GM];omega
theorem jJ {n:Nat}(h:n≠0):∃c l,Lib.decDigits n=c::l/\c≠48:=by
 induction n using Nat.strongRecOn with
 |_ n ih=>
  rw[Lib.decDigits];split
  ·rename_i h1
   refine⟨_,_,rfl,λhh=>?_⟩
   have:=congrArg UInt8.toNat hh
   rw[PI n h1]at this
   have:48+n=48:=this
   omega
  ·rename_i h1
   obtain⟨c,l,e,hc⟩:=ih (n/10) (by omega) (by omega);rw[e];exact⟨c,l++_,rfl,hc⟩
theorem nP {c:UInt8}(h:BY c=true):c≠47/\c≠45:=by
 obtain⟨h1,h2⟩:=KU h;exact⟨λhh=>by subst hh;simp at h1,λhh=>by subst hh;simp at h1⟩
theorem La (z:Int):C9 (Lib.itoa z)=decide (z<0)/\Bi (Lib.itoa z)=Lib.decDigits z.natAbs:=by
 unfold Lib.itoa
 by_cases h:z<0
 ·rw[AH h,AZ h]
  exact⟨rfl,rfl⟩
 ·rw[AE h,Ag h,show z.toNat=z.natAbs by omega]
  have h1:=RU (EE z.natAbs).1;exact⟨h1,JQ (EE z.natAbs).1⟩
theorem Xp (z:Int):rv (Lib.itoa z)=z:=by
 unfold rv;rw[(La z).1,(La z).2,(EE z.natAbs).2.1]
 by_cases h:z<0
 ·rw[AZ h,AH rfl];omega
 ·rw[Ag h,AE (by decide)];omega
theorem UV (z:Int):∀c∈Lib.itoa z,(c != 47)=true:=λc hc=>by
 have hd:∀n,∀c∈Lib.decDigits n,(c != 47)=true:=λn c h=>by
  have:=(nP (CI.1 (EE n).1 c h)).1
  simpa using this
 unfold Lib.itoa at hc;split at hc
 ·rcases A0.1 hc with rfl|h
  ·rfl
  ·exact hd _ c h
 ·exact hd _ c hc
theorem RF {p:UInt8->Bool}:∀ {l:List UInt8} (m:List UInt8),(∀c∈l,p c=true)->(l++m).takeWhile p=l++m.takeWhile p
 | [],_,_=>rfl
 |a::l,m,h=>by
  rw[ED,Mb,AH (h a Cf),RF m λc hc=>h c (Cn _ hc)];rfl
theorem M4 (r:Rat):BC (Ao r)=(Lib.itoa r.num).length:=by
 unfold BC Ao;split
 ·have:=RF (p:=(· != 47)) [] (UV r.num)
  rw[DV]at this;rw[this];simp
 ·rw[RF (p:=(· != 47)) _ (UV r.num)]
  simp
theorem Lg (r:Rat):Bu (Ao r)=Lib.itoa r.num:=by
 unfold Bu;rw[M4];unfold Ao;split
 ·exact B1 (Ae _)
 ·exact List.take_left' rfl
theorem Kj (r:Rat):BR (Ao r)=if r.den=1 then[]else Lib.decDigits r.den:=by
 unfold BR;rw[M4];unfold Ao;split
 ·exact Gq (Nat.le_succ _)
 ·rw[List.drop_append]
  rw[Gq (Nat.le_succ _),KF];rfl
theorem NN (r:Rat):Ce (Ao r) = !decide (r.den=1):=by
 unfold Ce;rw[M4];unfold Ao
 by_cases h:r.den=1
 ·rw[AH h,AZ h,Ag (by omega)];rfl
 ·rw[AE h,Ag h,Bo,Bk,AZ (by omega)];rfl
theorem R1 (r:Rat):N9 (Ao r)=r.num:=by unfold N9;rw[Lg,Xp]
theorem We (r:Rat):N0 (Ao r)=r.den:=by
 unfold N0;rw[NN,Kj]
 by_cases h:r.den=1
 ·rw[AZ h,h];rfl
 ·rw[Ag h,AE h,AH (show(!false)=true from rfl),Lv (EE _).1,(EE _).2.1]
theorem PY (r:Rat):(Bi (Bu (Ao r))).all BY=true:=by rw[Lg,(La _).2];exact(EE _).1
theorem PX (r:Rat):(Bi (BR (Ao r))).all BY=true:=by
 rw[Kj];split
 ·rfl
 ·rw[JQ (EE _).1];exact(EE _).1
theorem XG (z:Int):Lib.itoa z≠[]:=by
 unfold Lib.itoa;split
 ·simp
 ·exact(EE _).2.2
theorem Zt (r:Rat):Ao r≠[]:=by
 unfold Ao;split
 ·exact XG _
 ·simp
theorem ST (r:Rat):C9 (Ao r)=decide (r.num<0):=by
 rw[<-(La r.num).1];unfold Ao;split
 ·rfl
 ·have:=XG r.num
  cases h:Lib.itoa r.num with
  |nil=>exact Aa h this
  |cons c l=>rfl
theorem Wf (r:Rat):decide (Ao r=[48])=decide (r.num=0):=by
 refine Co.2 ⟨λh=>?_,λh=>?_⟩
 ·have h1:=R1 r
  rw[h]at h1;rw[<-h1];decide
 ·have:r.den=1:=by
   have:=r.reduced
   rw[h]at this;simpa using this
  unfold Ao;rw[AH this,h];show Lib.decDigits 0=[48];rw[Lib.decDigits,dif_pos (by decide)];rfl
abbrev rR (r:Rat):D:=str (sb (Ao r))
def GJ (r:Rat):Prop:=(Ao r).length<=1000000
theorem TV (r:Rat)(hl:GJ r):AI C0 166 [rR r] (i64 (FX r)):=by
 refine Ah.walk w1 oN rfl λF=>?_
 have hsz:=CL (Ao r);unfold GJ at hl;have ez:=EQ (Ao r) [48];rw[Wf]at ez;have en:=ST r;refine sR 0 ?_;refine AC.seq ?_;refine AC.seq ?_;have ez2:Bb (sb (Ao r)) ⟨#[48]⟩=decide (r.num=0):=ez;have hne:=Zt r;refine Am w1 100 (by kernel_rfl) ?_;refine AT ez2 ?_
 by_cases h0:r.num=0
 ·rw[AZ h0]
  refine AJ ?_;refine sR 200 ?_;refine Ab ?_;exact AO (by unfold FX;rw[h0];rfl) AA.out
 ·rw[Ag h0]
  have hpos:0<(Ao r).length:=List.length_pos_iff.2 hne;have e0:decide (((sb (Ao r)).size:Int)>0)=true:=AZ (by omega);have e1:((((Ao r).getD (Int.toNat 0) 0).toNat:Int)==45)=decide (r.num<0):=by
   rw[<-en];cases ht:Ao r with
   |nil=>exact Aa ht hne
   |cons c l=>exact PP c l
  refine AJ ?_;refine Ak ?_;refine AC.seq ?_;refine sZ 300 ?_;refine AD e0 ?_;refine AD (Au kT e0 e1) ?_
  by_cases hn:r.num<0
  ·rw[AZ hn]
   refine AJ ?_;refine sR 400 ?_;refine Ab ?_;exact AO (by unfold FX;congr 3;omega) AA.out
  ·rw[Ag hn]
   refine AJ ?_;refine Ak ?_;refine sR 500 ?_;refine Ab ?_;exact AO (by unfold FX;congr 3;omega) AA.out
theorem Jh (z:Int):Ao (z:Rat)=Lib.itoa z:=by
 unfold Ao;rw[AH (Rat.den_intCast z),Rat.num_intCast]
theorem s8 (r:Rat)(hl:GJ r):AI C0 138 [rR r] (rR (r.num:Rat)):=by
 refine Ah.walk w1 oB rfl λF=>?_
 have hsz:=CL (Ao r);unfold GJ at hl;have cs:=NL (Ao r) (by omega);have hle:=Ic (Ao r);have e1:(sb (Ao r)).extract 0 (BC (Ao r))=sb (Ao (r.num:Rat)):=by rw[D9,E6,Jh,<-Lg];rfl
 refine sR 0 ?_;refine sR 100 ?_;refine cI cs ?_;simp only[Qt,e1];refine Ab ?_;exact AO rfl AA.out
theorem rh (r:Rat)(hl:GJ r):AI C0 139 [rR r] (rR ((r.den:Int):Rat)):=by
 refine Ah.walk w1 oC rfl λF=>?_
 have hsz:=CL (Ao r);unfold GJ at hl;have cs:=NL (Ao r) (by omega);have hh:=NN r;have hle:=Ic (Ao r);unfold Ce at hh;have ed:=Kj r;unfold BR at ed;refine sR 0 ?_;refine sR 100 ?_;refine cI cs ?_;refine AC.seq ?_;refine AC.seq ?_
 by_cases h:r.den=1
 ·rw[AZ h]at hh
  have hge:=Cz (p:=BC (Ao r)<(Ao r).length) hh;have et:(((BC (Ao r):Nat):Int)==((Ao r).length:Int))=true:=Dp.2 (by omega);refine Am w1 200 (by kernel_rfl) ?_;refine AT (Ac hsz et) ?_;refine AJ ?_;refine sR 300 ?_;refine Ab ?_;refine AO ?_ AA.out;show _=str (sb (Ao ((r.den:Int):Rat)));rw[Jh,h];show _=str (sb (Lib.decDigits 1));rw[Lib.decDigits,dif_pos (by decide)];rfl
 ·rw[Ag h]at hh
  have hge:=Cw (p:=BC (Ao r)<(Ao r).length) hh;have et:(((BC (Ao r):Nat):Int)==((Ao r).length:Int))=false:=B3.2 (by omega);have wk:IntKind.i64.wrap (((BC (Ao r):Nat):Int)+1)=((BC (Ao r)+1:Nat):Int):=wI (by omega) (by omega);have e1:(sb (Ao r)).extract (BC (Ao r)+1) (Ao r).length=sb (Ao ((r.den:Int):Rat)):=by
   rw[AE h]at ed;rw[D9,B1 (Ae _),ed,Jh];rfl
  refine Am w1 200 (by kernel_rfl) ?_;refine AT (Ac hsz et) ?_;refine AJ ?_;refine Ak ?_;refine sZ 400 ?_;refine AD (Au hsz wk kN) ?_;refine AD e1 ?_;refine Ab ?_;exact AO rfl AA.out
theorem Sh {r:Rat}(h:r.num<0):(Ao r).drop 1=Ao (-r)/\(Ao (-r)).length+1=(Ao r).length:=by
 have e:Lib.itoa r.num=45::Lib.itoa (-r.num):=by
  unfold Lib.itoa;rw[AH h,AE (by omega),show(-r.num).toNat=r.num.natAbs by omega]
 have e2:Ao r=45::Ao (-r):=by
  unfold Ao;rw[Rat.neg_den,Rat.neg_num,e];split<;>rfl
 rw[e2];exact⟨rfl,rfl⟩
theorem kw (r:Rat):decide (FX r<0)=decide (r.num<0):=Co.2 (by unfold FX;omega)
theorem r7 (r:Rat)(hl:GJ r):AI C0 137 [rR r] (rR (if r.num<0 then -r else r)):=by
 refine Ah.walk w1 mr rfl λF=>?_
 have hsz:=CL (Ao r);have cs:=TV r hl;unfold GJ at hl;have e1:=kw r;refine sR 0 ?_;refine AC.seq ?_;refine sR 100 ?_;refine cI cs ?_;rw[e1]
 by_cases h:r.num<0
 ·obtain⟨t1,t2⟩:=Sh h
  have ee:(sb (Ao r)).extract (Int.toNat 1) (Ao r).length=sb (Ao (-r)):=by
   rw[D9,B1 (Ae _),<-t1];rfl
  rw[AZ h,AH h];refine AJ ?_;refine sZ 200 ?_;refine AD (Ac hsz kN) ?_;rw[ee];refine Ab ?_;exact AO rfl AA.out
 ·rw[Ag h,AE h]
  refine AJ ?_;refine Ak ?_;refine sR 300 ?_;refine Ab ?_;exact AO rfl AA.out
def Cu (r:Rat):Rat:=if r.num<0 then -r else r
theorem PE (r:Rat):(Cu r).num=r.num.natAbs/\(Cu r).den=r.den:=by
 unfold Cu;split
 ·rw[Rat.neg_num,Rat.neg_den];exact⟨by omega,rfl⟩
 ·exact⟨by omega,rfl⟩
def qk (r:Rat):Bool:=!decide (20<(Ao r).length) && !(decide (9<BC (Ao (Cu r)))||decide (10<(Ao (Cu r)).length-BC (Ao (Cu r))))
theorem iq (r:Rat):(Ao (Cu r)).length<=(Ao r).length:=by
 unfold Cu;split
 ·rename_i h
  have:=(Sh h).2
  omega
 ·exact Ae _
theorem PB (r:Rat):Lib.itoa (Cu r).num=Lib.decDigits r.num.natAbs:=by
 rw[(PE r).1];unfold Lib.itoa;rw[AE (by omega)];rfl
theorem NA {r:Rat}(h:qk r=true):r.num.natAbs<10^9/\r.den<10^9:=by
 unfold qk at h;simp only[BX,Bd,JC,KG]at h;obtain⟨h1,h2,h3⟩:=h;have hs:=M4 (Cu r);rw[PB]at hs;have hd:=Kj (Cu r);rw[(PE r).2]at hd;have hdl:(BR (Ao (Cu r))).length=(Ao (Cu r)).length-(BC (Ao (Cu r))+1):=by unfold BR;rw[DQ]
 have d1:=Fp _ (EE r.num.natAbs).1;have d2:=Fp _ (EE r.den).1;rw[(EE _).2.1]at d1 d2;refine⟨CN d1 (Ez (by decide) (by omega)),?_⟩
 by_cases h1:r.den=1
 ·rw[h1];decide
 ·rw[AE h1]at hd
  rw[hd]at hdl;exact CN d2 (Ez (by decide) (by omega))
theorem Pc (r:Rat)(hl:GJ r):AI C0 121 [rR r] (.tup [i64 (if qk r then r.num else 0),i64 (if qk r then(r.den:Int)else 0),Aq (qk r)]):=by
 refine Ah.walk w1 mb rfl λF=>?_
 have hsz:=CL (Ao r);unfold GJ at hl;have hne:=Zt r;have hpos:0<(Ao r).length:=List.length_pos_iff.2 hne;refine sR 0 ?_;refine sR 100 ?_;refine AC.seq ?_;refine AC.seq ?_
 by_cases h20:20<(Ao r).length
 ·have e2:decide (((Ao r).length:Int)>20)=true:=AZ (by omega)
  have eq:qk r=false:=by unfold qk;rw[AZ h20];rfl
  rw[eq];refine Am w1 200 (by kernel_rfl) ?_;refine AT (Ac hsz e2) ?_;refine AJ ?_;refine sR 300 ?_;refine Ab ?_;exact AO rfl AA.out
 ·have e2:decide (((Ao r).length:Int)>20)=false:=Ag (by omega)
  have eq:qk r = !(decide (9<BC (Ao (Cu r)))||decide (10<(Ao (Cu r)).length-BC (Ao (Cu r)))):=by unfold qk;rw[Ag h20];rfl
  have en:=ST r;refine Am w1 200 (by kernel_rfl) ?_;refine AT (Ac hsz e2) ?_;refine AJ ?_;refine Ak ?_;refine Ck (α:=Nat) (λn=>⟨[(5,rR r),(6,Aq (decide (r.num<0)))],[],n⟩) (λ_=>True) ?_ ?_
  ·have e0:decide (((sb (Ao r)).size:Int)>0)=true:=AZ (by omega)
   have e1:((((Ao r).getD (Int.toNat 0) 0).toNat:Int)==45)=decide (r.num<0):=by
    rw[<-en];cases ht:Ao r with
    |nil=>exact Aa ht hne
    |cons c l=>exact PP c l
   refine Am w1 400 (by kernel_rfl) ?_;refine AD e0 ?_;refine AD (Au kT e0 e1) ?_;exact⟨trivial,_,trivial,AL⟩
  rintro n0 -;refine Ck (α:=Nat) (λn=>⟨[(5,rR (Cu r)),(6,Aq (decide (r.num<0)))],[],n⟩) (λ_=>True) ?_ ?_
  ·refine sR 500 ?_
   by_cases h:r.num<0
   ·obtain⟨t1,t2⟩:=Sh h
    have ea:Cu r = -r:=by unfold Cu;rw[AH h]
    have ee:(sb (Ao r)).extract (Int.toNat 1) (Ao r).length=sb (Ao (Cu r)):=by
     rw[ea,D9,B1 (Ae _),<-t1];rfl
    rw[AZ h];refine AJ ?_;refine Am w1 600 (by kernel_rfl) ?_;refine AD (Ac hsz kN) ?_;rw[ee];exact⟨trivial,_,trivial,AL⟩
   ·have ea:Cu r=r:=by unfold Cu;rw[AE h]
    rw[Ag h,ea];refine AJ ?_;refine Ak ?_;exact⟨rfl,_,trivial,AL⟩
  rintro n1 -;have hal:=iq r;have hsa:=M4 (Cu r);rw[PB]at hsa;have hn:=Lg (Cu r);rw[PB]at hn;have hd:=Kj (Cu r);rw[(PE r).2]at hd;have hh:=NN (Cu r);rw[(PE r).2]at hh;unfold Ce at hh;have hle:=Ic (Ao (Cu r));have cs:=NL (Ao (Cu r)) (by omega);have hszA:=CL (Ao (Cu r));clear hsz hne hpos e2 en;generalize hT:Ao (Cu r)=T at*;have eR:rR (Cu r)=str (sb T):=by rw[<-hT]
  rw[eR];clear hT eR;refine sR 700 ?_;refine cI cs ?_;have w8:IntKind.i64.wrap ((T.length:Int)-(BC T:Int))=((T.length-BC T:Nat):Int):=by rw[wI (by omega) (by omega)];omega
  have eb:decide (((T.length-BC T:Nat):Int)>10)=decide (10<T.length-BC T):=Co.2 (by omega)
  by_cases h9:9<BC T
  ·have e8:decide ((BC T:Int)>9)=true:=AZ (by omega)
   rw[AZ h9]at eq;have eq2:qk r=false:=eq;rw[eq2];refine AC.seq ?_;refine sZ 800 ?_;refine AT e8 ?_;refine AD kT ?_;refine AJ ?_;refine sR 900 ?_;refine Ab ?_;exact AO rfl AA.out
  have e8:decide ((BC T:Int)>9)=false:=Ag (by omega);rw[Ag h9]at eq
  by_cases h10:10<T.length-BC T
  ·rw[AZ h10]at eq eb
   have eq2:qk r=false:=eq;rw[eq2];refine AC.seq ?_;refine sZ 800 ?_;refine AT e8 ?_;refine AD (Bh kF hszA w8 eb) ?_;refine AJ ?_;refine sR 900 ?_;refine Ab ?_;exact AO rfl AA.out
  rw[Ag h10]at eq eb;have eq2:qk r=true:=eq;rw[eq2];refine AC.seq ?_;refine sZ 800 ?_;refine AT e8 ?_;refine AD (Bh kF hszA w8 eb) ?_;refine AJ ?_;refine Ak ?_;have hd1:=EE r.num.natAbs;have hd2:=EE r.den;have c1:=Ph (Lib.decDigits r.num.natAbs) hd1.1 (by omega);rw[hd1.2.1]at c1;have e10:(sb T).extract 0 (BC T)=sb (Lib.decDigits r.num.natAbs):=by
   rw[D9,E6,<-hn];rfl
  refine sZ 1000 ?_;refine AD (Ac hszA kN) ?_;refine AD e10 ?_;refine Az.same _ c1 AG ?_;refine BK ?_;refine Ck (α:=Nat) (λn=>⟨[(6,Aq (decide (r.num<0))),(8,i64 (r.num.natAbs:Int)),(9,i64 (r.den:Int))],[],n⟩) (λ_=>True) ?_ ?_
  ·by_cases hden:r.den=1
   ·rw[AZ hden]at hh
    have e11:decide ((BC T:Int)<(T.length:Int))=false:=Ag (by have:=Cz (p:=BC T<T.length) hh;omega);rw[hden];refine sZ 1100 ?_;refine AT (Ac hszA e11) ?_;refine AJ ?_;refine Ak ?_;exact⟨rfl,_,trivial,AL⟩
   ·rw[Ag hden]at hh
    rw[AE hden]at hd;have hlt:=Cw (p:=BC T<T.length) hh;have e11:decide ((BC T:Int)<(T.length:Int))=true:=AZ (by omega);have wk:IntKind.i64.wrap (((BC T:Nat):Int)+1)=((BC T+1:Nat):Int):=wI (by omega) (by omega);have e12:(sb T).extract (BC T+1) T.length=sb (Lib.decDigits r.den):=by
     rw[D9,B1 (Ae _),<-hd];rfl
    have hdl:(Lib.decDigits r.den).length<=18:=by
     rw[<-hd];unfold BR;rw[DQ];omega
    have c2:=Ph (Lib.decDigits r.den) hd2.1 hdl;rw[hd2.2.1]at c2;refine sZ 1100 ?_;refine AT (Ac hszA e11) ?_;refine AJ ?_;refine Am w1 1200 (by kernel_rfl) ?_;refine AD (Au hszA wk kN) ?_;refine AD e12 ?_;refine Az.same _ c2 AG ?_;refine BK ?_;exact⟨trivial,_,trivial,AL⟩
  rintro n2 -;obtain⟨b1,b2⟩:=NA eq2;refine Ck (α:=Nat) (λn=>⟨[(8,i64 r.num),(9,i64 (r.den:Int))],[],n⟩) (λ_=>True) ?_ ?_
  ·refine sR 1300 ?_
   by_cases h:r.num<0
   ·have wn:IntKind.i64.wrap (0-(r.num.natAbs:Int))=r.num:=by rw[wI (by omega) (by omega)];omega
    rw[AZ h];refine AJ ?_;refine Am w1 1400 (by kernel_rfl) ?_;refine AT wn ?_;exact⟨trivial,_,trivial,AL⟩
   ·have en:(r.num.natAbs:Int)=r.num:=by omega
    rw[Ag h,en];refine AJ ?_;refine Ak ?_;exact⟨rfl,_,trivial,AL⟩
  rintro n3 -;refine sR 1500 ?_;refine Ab ?_;exact AO rfl AA.out
theorem iB (b:Bool)(n:Nat):(sg b n).natAbs=n:=by unfold sg;split<;>omega
theorem ah (z:Int)(d:Nat)(hz:z.natAbs<=4000000000000000000)(hd0:0<d)(hd:d<=4000000000000000000):AI C0 122 [i64 z,i64 (d:Int)] (rR (mkRat z d)):=by
 refine Ah.walk w1 mc rfl λF=>?_
 have hg:0<Nat.gcd z.natAbs d:=OI _ hd0;have hgl:Nat.gcd z.natAbs d<=d:=Nat.gcd_le_right _ hd0;obtain⟨qn,qd⟩:=Rx (x:=z) (d:=d) (by omega);have etx:Ao (mkRat z d)=if d/Nat.gcd z.natAbs d=1 then Lib.itoa (mkRat z d).num else Lib.itoa (mkRat z d).num++47::Lib.decDigits (d/Nat.gcd z.natAbs d):=by
  unfold Ao;rw[qd]
 have q1:z.tdiv (Nat.gcd z.natAbs d:Nat)=(mkRat z d).num:=by
  rw[qn];obtain⟨p,hp⟩:=Nat.gcd_dvd_left z.natAbs d;have e1:z.natAbs/Nat.gcd z.natAbs d=p:=Nat.div_eq_of_eq_mul_right hg hp;have e2:z=(Nat.gcd z.natAbs d:Int)*sg (decide (z<0)) p:=by
   have h0:(z.natAbs:Int)=(Nat.gcd z.natAbs d:Int)*(p:Int):=by rw[<-EG,<-hp]
   unfold sg
   by_cases hx:z<0
   ·rw[AZ hx,AH rfl,Int.mul_neg,<-h0];omega
   ·rw[Ag hx,AE (by decide),<-h0];omega
  rw[e1]
  conv=>lhs;arg 1;rw[e2]
  rw[Int.mul_tdiv_cancel_left _ (by omega)]
 have q2:(d:Int).tdiv (Nat.gcd z.natAbs d:Nat)=((d/Nat.gcd z.natAbs d:Nat):Int):=rfl;have q5:(mkRat z d).num.natAbs<=4000000000000000000:=by
  rw[qn];rw[iB];exact BO (GP _ _) hz
 have q4:d/Nat.gcd z.natAbs d<=4000000000000000000:=BO (GP _ _) hd;have hx:0<d/Nat.gcd z.natAbs d:=Nat.div_pos hgl hg;have ert:rR (mkRat z d)=str (sb (if d/Nat.gcd z.natAbs d=1 then Lib.itoa (mkRat z d).num else Lib.itoa (mkRat z d).num++47::Lib.decDigits (d/Nat.gcd z.natAbs d))):=by rw[<-etx]
 rw[ert];clear etx ert qn qd;generalize(mkRat z d).num=pz at*;refine fR 0 ?_;refine FF ⟨[(0,i64 z),(1,i64 d),(4,str ⟨#[]⟩)],[],50⟩ ?_ ?_
 ·refine AC.seq ?_
  have l1:(decide (z < -4000000000000000000))=false:=by apply Ag;omega
  have l2:(decide (z>4000000000000000000))=false:=by apply Ag;omega
  have l3:(decide ((d:Int) < -4000000000000000000))=false:=by apply Ag;omega
  have l4:(decide ((d:Int)>4000000000000000000))=false:=by apply Ag;omega
  refine Am w1 100 (by kernel_rfl) ?_
  repeat'(first|(refine And.intro (by exact B4) ?_;(refine At ?_);(try simp only[MD,QO,l1,l2,l3,l4]))|((refine Bq (λhb=>?_) (λhb=>?_))<;>(try simp only[Bd,Bn]at hb)<;>(try simp only[hb])<;>(refine At ?_)))
  refine AJ ?_;refine Ak ?_;exact And.intro (by trivial) (AL)
 refine FF ⟨[(0,i64 z),(1,i64 d),(4,str ⟨#[]⟩)],[],100⟩ ?_ ?_
 ·refine fR 300 ?_
  refine AJ ?_;have e27:(decide ((d:Int)<0))=false:=by simp
  rw[e27];refine Ak ?_;exact And.intro (by trivial) (AL)
 refine AC.seq ?_;have m1:max z (IntKind.i64.wrap (0-z))=(z.natAbs:Int):=by rw[wI (by omega) (by omega)];omega
 refine Am w1 500 (by kernel_rfl) ?_;refine JK m1 ?_;refine dI (km z.natAbs d (by omega) (by omega)) ?_;refine AC.seq ?_;refine B5 w1 600 [0,1,2,3,4,5,6] [7] (by kernel_rfl) ?_;refine B7 ?_;have w1p:IntKind.i64.wrap pz=pz:=wI (by omega) (by omega);rw[q1,q2,w1p,wN (BO q4 (by decide))];clear q1 q2 hg hgl;generalize d/Nat.gcd z.natAbs d=y at*;refine fR 700 ?_;have c1:=On pz.natAbs 1 (by omega);have c2:=On y 1 (by omega);rw[Ww]at c1 c2;have s1:=LO 18 pz.natAbs (DB q5 (by decide));have s2:=LO 18 y (DB q4 (by decide));have z1:=NF (Lib.decDigits pz.natAbs);have z2:=NF (Lib.decDigits y);have m1:max pz (IntKind.i64.wrap (0-pz))=(pz.natAbs:Int):=by rw[wI (by omega) (by omega)];omega
 refine Ck (α:=Nat) (λn=>⟨[(0,i64 pz),(1,i64 (y:Int)),(4,str ⟨#[]⟩),(6,str (sb (if pz<0 then[45]else[])))],[],n⟩) (λ_=>True) ?_ ?_
 ·refine fR 800 ?_
  by_cases h:pz<0
  ·rw[AZ h,AH h]
   refine AJ ?_;refine fI 900 ?_;exact⟨rfl,_,trivial,AL⟩
  ·rw[Ag h,AE h]
   refine AJ ?_;refine Ak ?_;exact⟨rfl,_,trivial,AL⟩
 rintro n0 -;have ei:(if pz<0 then[45]else[])++Lib.decDigits pz.natAbs=Lib.itoa pz:=by
  unfold Lib.itoa;split
  ·rfl
  ·rw[show pz.toNat=pz.natAbs by omega];rfl
 have z3:=CL (if pz<0 then[45]else[]);have z4:(if pz<0 then[45]else[]:List UInt8).length<=1:=by split<;>simp
 have z5:(Lib.itoa pz).length<=20:=by rw[<-ei,Bo];omega
 refine sZ 1000 ?_;refine JK m1 ?_;refine dI c1 ?_;rw[II,ei];have z6:=NF (Lib.itoa pz);generalize Lib.itoa pz=t1 at*;clear ei z3 z4;refine Ck (α:=Nat) (λn=>⟨[(6,str (sb (if y=1 then t1 else t1++47::Lib.decDigits y)))],[],n⟩) (λ_=>True) ?_ ?_
 ·refine fR 1100 ?_
  by_cases hy:y=1
  ·rw[AH hy]
   have e54:(decide ((y:Int)>1))=false:=by apply Ag;omega
   rw[e54];refine AJ ?_;refine Ak ?_;exact⟨rfl,_,trivial,AL⟩
  ·rw[AE hy]
   have e54:(decide ((y:Int)>1))=true:=by apply AZ;omega
   have s3:(⟨#[47]⟩:ByteArray).size=1:=rfl;have sc:((⟨t1.toArray⟩:ByteArray)++(⟨#[47]⟩:ByteArray)).size=(⟨t1.toArray⟩:ByteArray).size+(⟨#[47]⟩:ByteArray).size:=ByteArray.size_append;rw[e54];refine AJ ?_;refine fI 1200 ?_;refine dI c2 ?_;have e47:(⟨#[47]⟩:ByteArray)=⟨([47]:List UInt8).toArray⟩:=rfl;rw[e47,II,II,Dk,ED,FZ];exact⟨rfl,_,trivial,AL⟩
 rintro n1 -;refine fR 1300 ?_;refine Ab ?_;exact AO rfl AA.out
theorem SW {n k:Nat}(h:(Ad n).length<=k):(AW n).length<=3*k:=by
 refine JS (CN (Ij n) ?_);rw[Nat.pow_mul];exact BO (Ez (by decide) h) (Mc (by decide) k)
theorem L6 {n k:Nat}(h:(Ad n).length<=k):(Lib.decDigits n).length<=27*k+1:=by
 have h1:=NG (EL n);rw[Ds]at h1
 have:=SW h
 omega
theorem XH {z:Int}{k:Nat}(h:(Ad z.natAbs).length<=k):(Lib.itoa z).length<=27*k+2:=by
 have:=L6 h
 unfold Lib.itoa;split
 ·rw[Bk];omega
 ·rw[show z.toNat=z.natAbs by omega];omega
theorem Lf {r:Rat}{k:Nat}(h:rk r k)(hk:k<=10000):GJ r:=by
 have h1:=XH h.1;have h2:=L6 h.2;unfold GJ Ao;split
 ·omega
 ·rw[Bo,Bk];omega
def LZ (x:Int)(p:Nat):Prop:=(AW x.natAbs).length<=p
theorem LZ.mul {x y:Int}{p q:Nat}(hx:LZ x p)(hy:LZ y q):LZ (x*y) (p+q):=by
 unfold LZ at*;rw[MX]
 have:=RM x.natAbs y.natAbs
 omega
theorem LZ.add {x y:Int}{p q:Nat}(hx:LZ x p)(hy:LZ y q):LZ (x+y) (p+q+1):=by
 unfold LZ at*;have h1:=H9 (x+y).natAbs (x.natAbs+y.natAbs) (Int.natAbs_add_le x y);have h2:=Uu x.natAbs y.natAbs;omega
theorem LZ.few {x:Int}{p:Nat}(h:LZ x p)(hp:p<1000000):FW x:=DB h hp
theorem LZ.num {r:Rat}{k:Nat}(h:rk r k):LZ r.num (3*k):=SW h.1
theorem LZ.den {r:Rat}{k:Nat}(h:rk r k):LZ (r.den:Int) (3*k):=SW h.2
theorem qi (a b:Rat):qZ (a.num*b.den+b.num*a.den) ((a.den:Int)*b.den)=a+b:=by
 unfold qZ;have h:¬((a.den:Int)*b.den<0):=by
  rw[<-EG];omega
 rw[AE h,<-EG,Dl,Rat.add_def',]
theorem qj (a b:Rat):qZ (a.num*b.num) ((a.den:Int)*b.den)=a*b:=by
 unfold qZ;have h:¬((a.den:Int)*b.den<0):=by
  rw[<-EG];omega
 rw[AE h,<-EG,Dl,Rat.mul_def']
theorem M2 {x y:Int}(hx:x.natAbs<10^9)(hy:y.natAbs<10^9):(x*y).natAbs<10^18:=by
 rw[MX];exact CN (Nat.mul_lt_mul'' hx hy) (by decide)
theorem Tw (a b:Rat)(i j:Nat)(ha:rk a i)(hb:rk b j)(hij:i+j<=10000):AI C0 167 [rR a,rR b] (rR (a+b)):=by
 refine Ah.walk w1 oO rfl λF=>?_
 have ta:=Lf ha (by omega);have tb:=Lf hb (by omega);have qa:=Pc a ta;have qb:=Pc b tb
 by_cases hq:qk a=true/\qk b=true
 ·obtain⟨h1,h2⟩:=hq
  obtain⟨n1,d1⟩:=NA h1;obtain⟨n2,d2⟩:=NA h2;rw[h1,AH rfl,AH rfl]at qa;rw[h2,AH rfl,AH rfl]at qb;have p1:=M2 n1 (y:=(b.den:Int)) (by omega);have p2:=M2 n2 (y:=(a.den:Int)) (by omega);have p3:=M2 (x:=(a.den:Int)) (y:=(b.den:Int)) (by omega) (by omega);have m1:IntKind.i64.wrap (a.num*(b.den:Int))=a.num*b.den:=wI (by omega) (by omega);have m2:IntKind.i64.wrap (b.num*(a.den:Int))=b.num*a.den:=wI (by omega) (by omega);have m3:IntKind.i64.wrap (a.num*(b.den:Int)+b.num*(a.den:Int))=a.num*b.den+b.num*a.den:=wI (by omega) (by omega);have m4:IntKind.i64.wrap ((a.den:Int)*(b.den:Int))=((a.den*b.den:Nat):Int):=by rw[wI (by omega) (by omega),EG]
  have p4:a.den*b.den<10^18:=by rw[<-EG,Dl]at p3;exact p3
  have cf:=ah (a.num*b.den+b.num*a.den) (a.den*b.den) (by omega) (F6 a.den_pos b.den_pos) (by omega);rw[<-Rat.add_def']at cf;refine sR 0 ?_;refine sR 100 ?_;refine cI qa ?_;refine sR 200 ?_;refine cI qb ?_;refine AC.seq ?_;refine sZ 300 ?_;refine AD kT ?_;refine AJ ?_;refine sZ 400 ?_;refine AT (Bh m1 m2 m3 m4) ?_;refine cI cf ?_;refine Ab ?_;exact AO rfl AA.out
 ·refine sR 0 ?_
  refine sR 100 ?_;refine cI qa ?_;refine sR 200 ?_;refine cI qb ?_;refine Ck (α:=Nat) (λn=>⟨[(0,rR a),(1,rR b)],[],n⟩) (λ_=>True) ?_ ?_
  ·cases h1:qk a
   ·refine sZ 300 ?_
    refine AD h1 ?_;refine AD kF ?_;refine AJ ?_;refine Ak ?_;exact⟨rfl,_,trivial,AL⟩
   ·have h2:qk b=false:=by
     cases h2:qk b
     ·rfl
     ·exact Aa ⟨h1,h2⟩ hq
    rw[h2];refine sZ 300 ?_;refine AD h1 ?_;refine AD kT ?_;refine AJ ?_;refine Ak ?_;exact⟨rfl,_,trivial,AL⟩
  rintro n0 -;clear qa qb hq;have pa:=NR (Ao a) (PY a) (PX a) ta;have pb:=NR (Ao b) (PY b) (PX b) tb;rw[R1,We]at pa pb;have lan:=LZ.num ha;have lad:=LZ.den ha;have lbn:=LZ.num hb;have lbd:=LZ.den hb;have da:=a.den_pos;have db:=b.den_pos;have c1:=NM a.num b.den (lan.few (by omega)) (lbd.few (by omega));have c2:=NM b.num a.den (lbn.few (by omega)) (lad.few (by omega));have c3:=rV (a.num*b.den) (b.num*a.den) ((lan.mul lbd).few (by omega)) ((lbn.mul lad).few (by omega));have c4:=NM (a.den:Int) b.den (lad.few (by omega)) (lbd.few (by omega));have c5:=VL (a.num*b.den+b.num*a.den) ((a.den:Int)*b.den) (by rw[<-EG];have:=F6 da db;omega) (((lan.mul lbd).add (lbn.mul lad)).few (by omega)) ((lad.mul lbd).few (by omega));rw[qi]at c5;refine sR 500 ?_;refine cI pa ?_;refine sR 600 ?_;refine cI pb ?_;refine AC.seq ?_;refine B5 w1 700 [0,1,2,3,4,5,6,7,8] [9,10,11] (by kernel_rfl) ?_;refine AD kN ?_
  first|refine BQ.same _ c1 AG ?_|refine Az.same _ c1 AG ?_
  refine AD kN ?_
  first|refine BQ.same _ c2 AG ?_|refine Az.same _ c2 AG ?_
  refine AD kN ?_
  first|refine BQ.same _ c3 AG ?_|refine Az.same _ c3 AG ?_
  refine AD kN ?_
  first|refine BQ.same _ c4 AG ?_|refine Az.same _ c4 AG ?_
  refine AD kN ?_
  first|refine BQ.same _ c5 AG ?_|refine Az.same _ c5 AG ?_
  refine AD kN ?_;refine Ab ?_;exact AO rfl AA.out
theorem uC (a b:Rat)(i j:Nat)(ha:rk a i)(hb:rk b j)(hij:i+j<=10000):AI C0 69 [rR a,rR b] (rR (a*b)):=by
 refine Ah.walk w1 tK rfl λF=>?_
 have ta:=Lf ha (by omega);have tb:=Lf hb (by omega);have qa:=Pc a ta;have qb:=Pc b tb
 by_cases hq:qk a=true/\qk b=true
 ·obtain⟨h1,h2⟩:=hq
  obtain⟨n1,d1⟩:=NA h1;obtain⟨n2,d2⟩:=NA h2;rw[h1,AH rfl,AH rfl]at qa;rw[h2,AH rfl,AH rfl]at qb;have p1:=M2 n1 (y:=b.num) n2;have p3:=M2 (x:=(a.den:Int)) (y:=(b.den:Int)) (by omega) (by omega);have m1:IntKind.i64.wrap (a.num*b.num)=a.num*b.num:=wI (by omega) (by omega);have m4:IntKind.i64.wrap ((a.den:Int)*(b.den:Int))=((a.den*b.den:Nat):Int):=by rw[wI (by omega) (by omega),EG]
  have p4:a.den*b.den<10^18:=by rw[<-EG,Dl]at p3;exact p3
  have cf:=ah (a.num*b.num) (a.den*b.den) (by omega) (F6 a.den_pos b.den_pos) (by omega);rw[<-Rat.mul_def']at cf;refine sR 0 ?_;refine sR 100 ?_;refine cI qa ?_;refine sR 200 ?_;refine cI qb ?_;refine AC.seq ?_;refine sZ 300 ?_;refine AD kT ?_;refine AJ ?_;refine sZ 400 ?_;refine AT (Ac m1 m4) ?_;refine cI cf ?_;refine Ab ?_;exact AO rfl AA.out
 ·refine sR 0 ?_
  refine sR 100 ?_;refine cI qa ?_;refine sR 200 ?_;refine cI qb ?_;refine Ck (α:=Nat) (λn=>⟨[(0,rR a),(1,rR b)],[],n⟩) (λ_=>True) ?_ ?_
  ·cases h1:qk a
   ·refine sZ 300 ?_
    refine AD h1 ?_;refine AD kF ?_;refine AJ ?_;refine Ak ?_;exact⟨rfl,_,trivial,AL⟩
   ·have h2:qk b=false:=by
     cases h2:qk b
     ·rfl
     ·exact Aa ⟨h1,h2⟩ hq
    rw[h2];refine sZ 300 ?_;refine AD h1 ?_;refine AD kT ?_;refine AJ ?_;refine Ak ?_;exact⟨rfl,_,trivial,AL⟩
  rintro n0 -;clear qa qb hq;have pa:=NR (Ao a) (PY a) (PX a) ta;have pb:=NR (Ao b) (PY b) (PX b) tb;rw[R1,We]at pa pb;have lan:=LZ.num ha;have lad:=LZ.den ha;have lbn:=LZ.num hb;have lbd:=LZ.den hb;have da:=a.den_pos;have db:=b.den_pos;have c1:=NM a.num b.num (lan.few (by omega)) (lbn.few (by omega));have c4:=NM (a.den:Int) b.den (lad.few (by omega)) (lbd.few (by omega));have c5:=VL (a.num*b.num) ((a.den:Int)*b.den) (by rw[<-EG];have:=F6 da db;omega) ((lan.mul lbn).few (by omega)) ((lad.mul lbd).few (by omega));rw[qj]at c5;refine sR 500 ?_;refine cI pa ?_;refine sR 600 ?_;refine cI pb ?_;refine AC.seq ?_;refine B5 w1 700 [0,1,2,3,4] [5,6,7] (by kernel_rfl) ?_;refine AD kN ?_
  first|refine BQ.same _ c1 AG ?_|refine Az.same _ c1 AG ?_
  refine AD kN ?_
  first|refine BQ.same _ c4 AG ?_|refine Az.same _ c4 AG ?_
  refine AD kN ?_
  first|refine BQ.same _ c5 AG ?_|refine Az.same _ c5 AG ?_
  refine AD kN ?_;refine Ab ?_;exact AO rfl AA.out
theorem ib (c:UInt8):BY c=(!decide ((c.toNat:Int)<48) && !decide ((c.toNat:Int)>57)):=by
 unfold BY;rw[F7,BX,BX];simp only[Bd,KG,Nat.ble_eq];omega
theorem bw {l:List UInt8}{i:Nat}{c:UInt8}(hc:l[i]?=some c)(h:(l.take i).all BY=true):(l.take (i+1)).all BY=BY c:=by
 rw[Dx,hc,LF,h];simp
theorem li {l:List UInt8}{i:Nat}{c:UInt8}(hc:l[i]?=some c)(h:BY c=false):l.all BY=false:=by
 cases ha:l.all BY
 ·rfl
 ·have:=CI.1 ha c (BA hc)
  rw[h]at this;cases this
theorem jO (l:List UInt8)(hl:l.length<=1000000000):AI C0 268 [str (sb l)] (Aq (l.all BY)):=by
 refine Ah.walk w1 pt rfl λF=>?_
 have hsz:=CL l;refine sR 0 ?_;refine AC.seq ?_;refine sR 100 ?_;refine AC.block ?_;refine AC.loop (α:=Nat×Nat) (λp=>⟨[(0,str (sb l)),(3,i64 (p.1:Int))],[],p.2⟩) (λp=>l.length-p.1) (λp=>p.1<=l.length/\(l.take p.1).all BY=true) (0,_) ⟨BT _,rfl⟩ AL ?_;rintro⟨i,n⟩ F ⟨hi,ha⟩;dsimp only at hi ha⊢;refine AC.seq ?_;refine sZ 200 ?_;refine AT hsz ?_;refine AJ ?_
 (refine Bq (λhlt=>?_) (λhlt=>?_))<;>(try simp only[Bd,Bn]at hlt)<;>(try simp only[hlt])
 ·have hi2:i<l.length:=by
   have:=Cw hlt
   omega
  obtain⟨c,hc⟩:∃c,l[i]?=some c:=⟨l[i],BF hi2⟩
  have hg:l.getD i 0=c:=by simp[hc]
  have wi:IntKind.i64.wrap ((i:Int)+1)=((i+1:Nat):Int):=wI (by omega) (by omega);have hid:=ib c;have hat:=bw hc ha;have hno:=li hc;refine Ak ?_;refine AC.seq ?_;refine AC.block ?_;refine sZ 400 ?_;refine AT (Ac kN hg) ?_
  by_cases c1:(c.toNat:Int)<48
  ·rw[AZ c1]at hid
   have e4:=AZ c1;simp only[e4];refine AD kT ?_;refine AJ ?_;refine sR 500 ?_;refine Ab ?_;exact AO (by rw[hno hid]) AA.out
  ·rw[Ag c1]at hid
   have e4:=Ag c1;simp only[e4];refine AD (Au kF kN hg) ?_
   by_cases c2:(c.toNat:Int)>57
   ·rw[AZ c2]at hid⊢
    refine AJ ?_;refine sR 500 ?_;refine Ab ?_;exact AO (by rw[hno hid]) AA.out
   ·rw[Ag c2]at hid⊢
    refine AJ ?_;refine Ak ?_;refine Am w1 300 (by kernel_rfl) ?_;refine AT wi ?_;exact⟨(i+1,_),⟨hi2,hat.trans hid⟩,by dsimp only;omega,AL⟩
 ·have hi2:i=l.length:=by
   have:=Cz hlt
   omega
  subst hi2;rw[B1 (Ae _)]at ha;refine B6 ?_;refine sR 600 ?_;refine Ab ?_;exact AO (by rw[ha]) AA.out
theorem fk (c:UInt8):(((c.toNat:Nat):Int)==48)=decide (c=48):=by
 rw[F7,Dp,decide_eq_true_iff,<-UInt8.toNat_inj];exact⟨λh=>(show c.toNat=48 by omega),λh=>by rw[h];rfl⟩
theorem Zl (l:List UInt8)(hl:l.length<=1000000000):AI C0 224 [str (sb l)] (Aq (Cs l)):=by
 refine Ah.walk w1 nm rfl λF=>?_
 have hsz:=CL l;have cd:=jO l hl;refine sR 0 ?_;refine AC.seq ?_;refine AC.seq ?_
 match l,hl,hsz,cd with
 | [],_,hsz,_=>
  have e1:((((sb []).size:Nat):Int)==0)=true:=rfl;refine Am w1 100 (by kernel_rfl) ?_;refine AT e1 ?_;refine AD kT ?_;refine AJ ?_;refine sR 200 ?_;refine Ab ?_;exact AO rfl AA.out
 | [c],hl,hsz,cd=>
  have e1:((((sb [c]).size:Nat):Int)==0)=false:=rfl;have e2:decide ((((sb [c]).size:Nat):Int)>1)=false:=rfl;have ep:Cs [c]=[c].all BY:=by
   unfold Cs Jt
   by_cases h:c=48
   ·subst h;rfl
   ·simp[h]
  rw[ep];refine Am w1 100 (by kernel_rfl) ?_;refine AT e1 ?_;refine AD kF ?_;simp only[e2];refine AD kF ?_;refine AJ ?_;refine Ak ?_;refine sR 300 ?_;refine cI cd ?_;refine Ab ?_;exact AO rfl AA.out
 |c::d::l,hl,hsz,cd=>
  have hs2:(sb (c::d::l)).size=l.length+2:=hsz;have e1:((((sb (c::d::l)).size:Nat):Int)==0)=false:=B3.2 (by omega);have e2:decide ((((sb (c::d::l)).size:Nat):Int)>1)=true:=AZ (by omega);have e3:((((c::d::l).getD (Int.toNat 0) 0).toNat:Int)==48)=decide (c=48):=fk c;have ep:Cs (c::d::l)=if c=48 then false else(c::d::l).all BY:=by
   unfold Cs Jt
   by_cases h:c=48
   ·subst h;simp
   ·simp[h]
  rw[ep];refine Am w1 100 (by kernel_rfl) ?_;refine AT e1 ?_;refine AD (Ac kF e2) ?_;refine AD (Bh kT e2 e3 kF) ?_
  by_cases h:c=48
  ·rw[AZ h,AH h]
   refine AJ ?_;refine sR 200 ?_;refine Ab ?_;exact AO rfl AA.out
  ·rw[Ag h,AE h]
   refine AJ ?_;refine Ak ?_;refine sR 300 ?_;refine cI cd ?_;refine Ab ?_;exact AO rfl AA.out
def CZ (r:Rat):Bool:=decide (600<(Lib.decDigits r.num.natAbs).length)||decide (600<(Lib.decDigits r.den).length)
theorem qz (r:Rat)(k:Nat)(h:rk r k)(hk:k<=10000):AI C0 87 [rR r] (i64 (if CZ r then 4 else 0)):=by
 refine Ah.walk w1 sJ rfl λF=>?_
 have tr:=Lf h hk;have c1:=s8 r tr;have hn:rk ((r.num:Int):Rat) (k+1):=by
  refine⟨by rw[Rat.num_intCast];have:=h.1;omega,by rw[Rat.den_intCast];have:=GA (n:=1) (k:=1) (by decide);omega⟩
 have c2:=r7 ((r.num:Int):Rat) (by
  unfold GJ;rw[Jh]
  have:=XH h.1
  omega)
 have c3:=rh r tr;have e2:Ao (if((r.num:Int):Rat).num<0 then -((r.num:Int):Rat)else((r.num:Int):Rat))=Lib.decDigits r.num.natAbs:=by
  have e:=PB ((r.num:Int):Rat);rw[Rat.num_intCast]at e⊢;rw[<-e];unfold Cu;rw[Rat.num_intCast];split
  ·rw[<-Rat.intCast_neg,Jh,Rat.num_intCast]
  ·rw[Jh,Rat.num_intCast]
 have e3:Ao ((r.den:Int):Rat)=Lib.decDigits r.den:=by
  rw[Jh];rfl
 have s2:=CL (Lib.decDigits r.num.natAbs);have s3:=CL (Lib.decDigits r.den);unfold CZ;unfold rR at c2 c3;rw[e2]at c2;rw[e3]at c3;generalize Lib.decDigits r.num.natAbs=A at*;generalize Lib.decDigits r.den=B at*;have t2:decide ((A.length:Int)>600)=decide (600<A.length):=Co.2 (by omega);have t3:decide ((B.length:Int)>600)=decide (600<B.length):=Co.2 (by omega);refine sR 0 ?_;refine AC.seq ?_;refine sR 100 ?_;refine cI c1 ?_;refine cI c2 ?_;simp only[s2,t2]
 by_cases h9:600<A.length
 ·rw[AZ h9]
  refine AD kT ?_;refine AJ ?_;refine sR 200 ?_;refine Ab ?_;exact AO rfl AA.out
 ·rw[Ag h9]
  refine AD kF ?_;refine LI kF ?_;refine Az.same _ c3 AG ?_;refine AD (Au kF s3 t3) ?_
  by_cases h8:600<B.length
  ·rw[AZ h8]
   refine AJ ?_;refine sR 200 ?_;refine Ab ?_;exact AO rfl AA.out
  ·rw[Ag h8]
   refine AJ ?_;refine Ak ?_;refine sR 300 ?_;refine Ab ?_;exact AO rfl AA.out
theorem iE (l:List UInt8):BC l=(Bu l).length:=by
 have:=Ic l
 unfold Bu;rw[Bf];omega
theorem RV (l:List UInt8):Bu (Bi l)=Bx l/\BR (Bi l)=BR l/\Ce (Bi l)=Ce l/\decide (Bu l=[45,48])=(C9 l&&decide (Bx l=[48])):=by
 cases hb:C9 l
 ·have ed:Bi l=l:=by unfold Bi;rw[hb];rfl
  have en:C9 (Bu l)=false:=by
   unfold Bu;cases l with
   |nil=>rfl
   |cons c l=>
    cases hk:BC (c::l)with
    |zero=>rfl
    |succ k=>exact hb
  have es:Bx l=Bu l:=by unfold Bx Bi;rw[en];rfl
  rw[ed,es];refine⟨rfl,rfl,rfl,?_⟩;rw[KA];refine Ag λh=>?_
  rw[h]at en;cases en
 ·cases l with
  |nil=>cases hb
  |cons c m=>
   have hc:c=45:=by simpa[C9]using hb
   subst hc;have ed:Bi (45::m)=m:=rfl;have e1:BC (45::m)=BC m+1:=by
    unfold BC;rw[Mb,AH (by decide),Bk]
   have e2:Bu (45::m)=45::Bu m:=by unfold Bu;rw[e1,List.take_succ_cons]
   have e3:BR (45::m)=BR m:=by unfold BR;rw[e1,Qs]
   have e4:Ce (45::m)=Ce m:=by unfold Ce;rw[e1,Bk];exact Co.2 (by omega)
   have e5:Bx (45::m)=Bu m:=by unfold Bx;rw[e2];rfl
   rw[ed,e2,e3,e4,e5];refine⟨rfl,rfl,rfl,?_⟩;rw[IU];exact Co.2 (by simp)
theorem Om (l:List UInt8):In l=((!Cs (Bx l)||(C9 l&&decide (Bx l=[48])))||(Ce l&&(!Cs (BR l)||decide (BR l=[48])||decide (BR l=[49])))):=by
 unfold In;rw[(RV l).2.2.2]
theorem j7 {l:List UInt8}(h:Cs l=true):l≠[]:=(JV h).1
theorem ZA {l:List UInt8}(h:0<l.length):(((l.getD (Int.toNat 0) 0).toNat:Int)==45)=C9 l:=by
 cases l with
 |nil=>cases h
 |cons c l=>exact PP c l
theorem qp (l:List UInt8)(hl:l.length<=100000):AI C0 165 [str (sb l)] (i64 (CR l)):=by
 refine Ah.walk w1 oM rfl λF=>?_
 have hsz:=CL l;obtain⟨p1,p2,p3,-⟩:=RV l;have hdl:(Bi l).length<=l.length:=by
  unfold Bi;split
  ·rw[DQ];omega
  ·exact Ae _
 have hbf:=Om l;have hchk1:(!Cs (Bx l)||(C9 l&&decide (Bx l=[48])))=true->CR l=1:=λh=>by
  unfold CR;rw[hbf,h,Bool.true_or,AH rfl]
 have hchk2:(Ce l&&(!Cs (BR l)||decide (BR l=[48])||decide (BR l=[49])))=true->CR l=1:=λh=>by
  unfold CR;rw[hbf,h,Bool.or_true,AH rfl]
 have hne:Cs (Bx l)=true->0<l.length:=λh=>by
  cases l with
  |nil=>exact Aa rfl (j7 h)
  |cons c l=>rw[Bk];omega
 refine sR 0 ?_;refine sR 100 ?_;refine Ck (α:=Nat) (λn=>⟨[(0,str (sb l)),(3,str (sb (Bi l)))],[],n⟩) (λ_=>True) ?_ ?_
 ·rcases DU l.length with h0|h0
  ·have e0:l=[]:=Ei h0
   have e1:decide (((sb []).size:Int)>0)=false:=rfl;have ed:Bi l=l:=by rw[e0];rfl
   rw[ed,e0];refine sZ 200 ?_;refine AT e1 ?_;refine AD kF ?_;refine AJ ?_;refine Ak ?_;exact⟨rfl,_,trivial,AL⟩
  ·have e0:decide (((sb l).size:Int)>0)=true:=AZ (by omega)
   have e1:=ZA h0;refine sZ 200 ?_;refine AD e0 ?_;refine AD (Au kT e0 e1) ?_;cases hb:C9 l
   ·have ed:Bi l=l:=by unfold Bi;rw[hb];rfl
    rw[ed];refine AJ ?_;refine Ak ?_;exact⟨rfl,_,trivial,AL⟩
   ·have ed:Bi l=l.drop 1:=by unfold Bi;rw[hb];rfl
    have ee:(sb l).extract (Int.toNat 1) l.length=sb (Bi l):=by
     rw[D9,B1 (Ae _),ed];rfl
    refine AJ ?_;refine Am w1 300 (by kernel_rfl) ?_;refine AD (Ac hsz kN) ?_;rw[ee];exact⟨trivial,_,trivial,AL⟩
 rintro n0 -;have cs:=NL (Bi l) (by omega);have hle:=Ic (Bi l);have hszS:=CL (Bi l);have hhs:Ce l=decide (BC (Bi l)<(Bi l).length):=p3.symm;have e10:(sb (Bi l)).extract 0 (BC (Bi l))=sb (Bx l):=by rw[<-p1,D9,E6];rfl
 have e11:(sb (Bi l)).extract (BC (Bi l)+1) (Bi l).length=sb (BR l):=by rw[<-p2,D9,B1 (Ae _)];rfl
 have hNl:BC (Bi l)=(Bx l).length:=by rw[<-p1];exact iE _
 have hDl:(BR l).length=(Bi l).length-(BC (Bi l)+1):=by rw[<-p2];unfold BR;rw[DQ]
 have pp:=λh1 h2=>NR (Bi l) h1 h2 (by omega)
 unfold N9 N0 at pp;rw[p1,p2,p3]at pp;have edef:CR l=if In l then 1 else if 600<(Bx l).length\/600<(BR l).length then 4 else if Ce l=true/\Nat.gcd (dv (Bx l)) (dv (BR l))≠1 then 1 else 0:=rfl
 rw[hbf]at edef;generalize hN:Bx l=Nn at*;generalize hD:BR l=Dn at*;generalize hH:Ce l=hv at*;generalize hK:CR l=KnV at*;generalize Bi l=Sn at*;generalize BC Sn=k at*;clear p1 p2 p3 hbf hN hD hH hK;have cf:=Zl Nn (by omega);have cf2:=Zl Dn (by omega);have q0:=EQ Nn [48];have q1:=EQ Dn [48];have q2:=EQ Dn [49];refine sR 400 ?_;refine cI cs ?_;refine Ck (α:=Nat) (λn=>⟨[(0,str (sb l)),(3,str (sb Sn)),(4,i64 (k:Int))],[],n⟩) (λ_=>(!Cs Nn||(C9 l&&decide (Nn=[48])))=false) ?_ ?_
 ·refine sZ 500 ?_
  refine AD (Ac hszS kN) ?_;refine AD e10 ?_;cases hp:Cs Nn
  ·rw[hp]at cf
   refine Az.same _ cf AG ?_;refine BK ?_;simp only[Qv];refine AD kT ?_;refine AJ ?_;refine sR 600 ?_;refine Ab ?_;exact AO (by rw[hchk1 (by rw[hp];rfl)];rfl) AA.out
  ·rw[hp]at cf
   have hl0:=hne hp;have e1:=ZA hl0;refine Az.same _ cf AG ?_;refine BK ?_;simp only[ON];refine AD (Au kF hsz e1) ?_;have q0':Bb (sb Nn) ⟨#[48]⟩=decide (Nn=[48]):=q0;cases hb:C9 l
   ·refine AD kF ?_
    refine AJ ?_;refine Ak ?_;exact⟨rfl,_,rfl,AL⟩
   ·refine AD (Bh kT kF hszS kN) ?_
    refine AD (Bh kT kF e10 q0') ?_
    by_cases h0:Nn=[48]
    ·rw[AZ h0]
     refine AJ ?_;refine sR 600 ?_;refine Ab ?_;exact AO (by rw[hchk1 (by simp[hp,hb,h0])];rfl) AA.out
    ·rw[Ag h0]
     refine AJ ?_;refine Ak ?_;exact⟨rfl,_,by simp,AL⟩
 rintro n1 hb1;clear hchk1 hne cf q0;refine Ck (α:=Nat) (λn=>⟨[(0,str (sb l)),(3,str (sb Sn)),(4,i64 (k:Int))],[],n⟩) (λ_=>(hv&&(!Cs Dn||decide (Dn=[48])||decide (Dn=[49])))=false) ?_ ?_
 ·cases hv
  ·have e40:decide ((k:Int)<(Sn.length:Int))=false:=Ag (by have:=Cz hhs.symm;omega)
   refine sZ 700 ?_;refine AT (Ac hszS e40) ?_;refine AD kF ?_;refine AJ ?_;refine Ak ?_;exact⟨rfl,_,rfl,AL⟩
  ·have hkl:=Cw hhs.symm
   have e40:decide ((k:Int)<(Sn.length:Int))=true:=AZ (by omega);have wk:IntKind.i64.wrap ((k:Int)+1)=((k+1:Nat):Int):=wI (by omega) (by omega);have q1':Bb (sb Dn) ⟨#[48]⟩=decide (Dn=[48]):=q1;have q2':Bb (sb Dn) ⟨#[49]⟩=decide (Dn=[49]):=q2;refine sZ 700 ?_;refine AT (Ac hszS e40) ?_;refine AD (Bh kT wk hszS kN) ?_;simp only[e11];refine LI kT ?_;cases hp:Cs Dn
   ·rw[hp]at cf2
    refine Az.same _ cf2 AG ?_;refine AD kB ?_;refine AD kT ?_;refine AJ ?_;refine sR 800 ?_;refine Ab ?_;exact AO (by rw[hchk2 (by simp[hp])];rfl) AA.out
   ·rw[hp]at cf2
    have e12:(sb Sn).extract (IntKind.i64.wrap ((k:Int)+1)).toNat (sb Sn).size=sb Dn:=by rw[wk,hszS,Qt];exact e11
    refine Az.same _ cf2 AG ?_;refine AD kB ?_;simp only[e12,q1']
    by_cases h48:Dn=[48]
    ·rw[AZ h48]
     refine AD kT ?_;refine AJ ?_;refine sR 800 ?_;refine Ab ?_;exact AO (by rw[hchk2 (by simp[h48])];rfl) AA.out
    ·rw[Ag h48]
     refine AD kB ?_;simp only[e12,q2']
     by_cases h49:Dn=[49]
     ·rw[AZ h49]
      refine AJ ?_;refine sR 800 ?_;refine Ab ?_;exact AO (by rw[hchk2 (by simp[h49])];rfl) AA.out
     ·rw[Ag h49]
      refine AJ ?_;refine Ak ?_;exact⟨rfl,_,by simp,AL⟩
 rintro n2 hb2;clear hchk2 cf2 q1 q2 e10 e11 hsz;have hpN:Cs Nn=true:=by
  cases h:Cs Nn
  ·rw[h]at hb1;simp at hb1
  ·rfl
 have hpD:hv=true->Cs Dn=true:=λh0=>by
  cases h:Cs Dn
  ·rw[h,h0]at hb2;simp at hb2
  ·rfl
 rw[hb1,hb2]at edef;rw[AE (by decide)]at edef;have wl1:IntKind.i64.wrap ((Sn.length:Int)-(k:Int))=(Sn.length:Int)-(k:Int):=wI (by omega) (by omega);have wl2:IntKind.i64.wrap ((Sn.length:Int)-(k:Int)-1)=(Sn.length:Int)-(k:Int)-1:=wI (by omega) (by omega);have e91:decide ((Sn.length:Int)-(k:Int)-1>600)=decide (600<Dn.length):=Co.2 (by omega);refine Ck (α:=Nat) (λn=>⟨[(3,str (sb Sn)),(4,i64 (k:Int))],[],n⟩) (λ_=>Nn.length<=600/\Dn.length<=600) ?_ ?_
 ·by_cases g1:600<k
  ·have e9:decide ((k:Int)>600)=true:=AZ (by omega)
   rw[AH (.inl (by omega))]at edef;refine sZ 900 ?_;refine AT e9 ?_;refine AD kT ?_;refine AJ ?_;refine sR 1000 ?_;refine Ab ?_;exact AO (by rw[edef];rfl) AA.out
  ·have e9:decide ((k:Int)>600)=false:=Ag (by omega)
   refine sZ 900 ?_;refine AT e9 ?_;refine AD (C5 kF hszS wl1 wl2 e91) ?_
   by_cases g2:600<Dn.length
   ·rw[AH (.inr g2)]at edef
    rw[AZ g2];refine AJ ?_;refine sR 1000 ?_;refine Ab ?_;exact AO (by rw[edef];rfl) AA.out
   ·rw[Ag g2]
    refine AJ ?_;refine Ak ?_;exact⟨rfl,_,⟨by omega,by omega⟩,AL⟩
 rintro n3 ⟨g1,g2⟩;rw[AE (by omega)]at edef;clear e91 wl1 wl2 hb1 hb2;obtain⟨-,dN⟩:=JV hpN;refine Ck (α:=Nat) (λn=>⟨[],[],n⟩) (λ_=>KnV=0) ?_ ?_
 ·cases hv
  ·have e40:decide ((k:Int)<(Sn.length:Int))=false:=Ag (by have:=Cz hhs.symm;omega)
   rw[AE (by simp)]at edef;refine sZ 1100 ?_;refine AT (Ac hszS e40) ?_;refine AJ ?_;refine Ak ?_;exact⟨rfl,_,edef,AL⟩
  ·have hkl:=Cw hhs.symm
   have e40:decide ((k:Int)<(Sn.length:Int))=true:=AZ (by omega);obtain⟨-,dD⟩:=JV (hpD rfl);have pa:=pp (by rw[JQ dN];exact dN) (by rw[JQ dD];exact dD);rw[AH rfl,Lv dN,Lv dD]at pa;have lN:(AW (dv Nn)).length<1000000:=DB (JS (CN (Fp Nn dN) (Mc (by decide) Nn.length))) (by omega);have lD:(AW (dv Dn)).length<1000000:=DB (JS (CN (Fp Dn dD) (Mc (by decide) Dn.length))) (by omega);have cg:AI C0 175 [rD ((dv Nn:Int)).natAbs,rD ((dv Dn:Int)).natAbs] (.sl false 1 ((AW (Nat.gcd (dv Nn) (dv Dn))).map AY)):=WE (dv Nn) (dv Dn) lN lD;have ht:=Wq (Nat.gcd (dv Nn) (dv Dn));have ed1:Nat.gcd (dv Nn) (dv Dn)≠1->KnV=1:=λh=>by rw[AH ⟨rfl,h⟩]at edef;exact edef
   have ed0:Nat.gcd (dv Nn) (dv Dn)=1->KnV=0:=λh=>by rw[AE (λhh=>hh.2 h)]at edef;exact edef
   clear edef;generalize Nat.gcd (dv Nn) (dv Dn)=gg at*;refine sZ 1100 ?_;refine AT (Ac hszS e40) ?_;refine AJ ?_;refine sR 1200 ?_;refine cI pa ?_;refine sR 1300 ?_;refine cI cg ?_;rcases ht with⟨t1,a,ha,t2⟩|⟨t1,t2⟩
   ·have ha':=Db ha
    have t1n:((((AW gg).map AY).length:Int) != 1)=false:=by unfold bne;rw[t1];rfl
    have t2n:((a:Int) != 1) = !decide (gg=1):=by unfold bne;rw[t2]
    refine sZ 1400 ?_;refine AT t1n ?_;refine AD kF ?_;refine Bl kF ha' ?_;refine AD (Ac kF t2n) ?_
    by_cases hg1:gg=1
    ·rw[AZ hg1]
     refine AJ ?_;refine Ak ?_;exact⟨rfl,_,ed0 hg1,AL⟩
    ·rw[Ag hg1]
     refine AJ ?_;refine sR 1500 ?_;refine Ab ?_;exact AO (by rw[ed1 hg1];rfl) AA.out
   ·have edf:=ed1 t2
    have t1n:((((AW gg).map AY).length:Int) != 1)=true:=by unfold bne;rw[t1];rfl
    refine sZ 1400 ?_;refine AT t1n ?_;refine AD kT ?_;refine AJ ?_;refine sR 1500 ?_;refine Ab ?_;exact AO (by rw[edf];rfl) AA.out
 rintro n4 h0;refine sR 1600 ?_;refine Ab ?_;exact AO (by rw[h0];rfl) AA.out
end Go.Ide
