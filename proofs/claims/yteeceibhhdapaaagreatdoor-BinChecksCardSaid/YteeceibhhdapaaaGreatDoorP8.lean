/- The layer of own lemmas and contracts, part 8. -/
import Derived.Test.YteeceibhhdapaaaGreatDoorP7
import Derived.Test.YteeceibhhdapaaaGreatDoorP3
set_option linter.unusedVariables false
set_option linter.unusedSimpArgs false
namespace Go.Ide
open Go.Proofs Go.RowKit
set_option maxRecDepth 20000
def Ca (b:Nat):Bool:=((decide (97<=b)&&decide (b<=122))||(decide (65<=b)&&decide (b<=90)))||(decide (48<=b)&&decide (b<=57))||b==45||b==95||b==46
def DM (l:List UInt8):Bool:=l.all (λb=>Ca b.toNat)&&(decide (1<=l.length)&&decide (l.length<=24))
theorem aN (s:ByteArray)(p:Nat)(hp:p<s.size):s.data.toList[p]?=some (s.get! p):=by
 have hp':p<s.data.size:=hp;rw[IU,Be hp']
 congr 1
 show _=s.data[p]!;rw[getElem!_pos s.data p hp']
theorem Wg (s:ByteArray)(p:Nat)(h:(s.get! p).toNat<128):Utf8.decode s p=((s.get! p).toNat,1):=by
 unfold Utf8.decode;exact AF h
theorem gR (s:ByteArray)(p:Nat)(h:¬(s.get! p).toNat<128):128<=(Utf8.decode s p).1:=by
 unfold Utf8.decode;dsimp only;simp only[DJ];rw[AE h];have hv:128<=Utf8.runeError:=by decide
 repeat' split
 all_goals first|exact hv|(rename_i h1;simp only[ge_iff_le,BV,Gl]at h1;dsimp only;omega)
theorem fE (s:ByteArray):AK C0 56 [str s] (Aq (DM s.data.toList)):=by
 refine Ai.walk w1 Zo rfl λB=>?_
 have hsz:s.data.toList.length=s.size:=Hy;refine fR 0 ?_;refine AC.seq ?_;refine AC.seq ?_;refine tn w1 100 [0] 1 rfl (by kernel_rfl) rfl ?_;refine Bz ?_;intro F hF;refine Ap ?_;refine AC.block ?_;refine Ft (α:=Nat×Nat) (λp=>⟨[(0,str s),(7,.optr 101 2 0 0 0)],[],p.2⟩) (λp=>s.size-p.1) (λp F=>Le C0 B F 101 2 s p.1/\p.1<=s.size/\(s.data.toList.take p.1).all (λb=>Ca b.toNat)=true) (0,3) ⟨hF,BZ _,rfl⟩ AL ?_;rintro⟨p,n⟩ F ⟨hIt,hp,hall⟩;dsimp only at hIt hp hall⊢;refine AC.seq ?_;refine tl w1 200 0 [1] rfl (by kernel_rfl) s p ?_;refine And.intro hIt (And.intro (λhlt F hIt=>?_) (λhge=>?_))
 ·refine Bz ?_
  generalize hc:(Utf8.decode s p).1=c;refine AC.seq ?_;refine AI ?_;refine Aj ?_;refine AC.block ?_;refine fR 300 ?_;refine EB ⟨[(0,str s),(7,.optr 101 2 0 0 0),(4,.prim (.int .i32 c)),(5,Aq ((decide ((c:Int)>=97)&&decide ((c:Int)<=122))||(decide ((c:Int)>=65)&&decide ((c:Int)<=90))))],[],n+30⟩ (Ak w1 400 (by kernel_rfl) ?_) ?_
  ·repeat'(first|(refine And.intro (by exact B0) ?_;refine Ap ?_)|((refine Bn (λhb=>?_) (λhb=>?_))<;>(try simp only[Bc,Bk]at hb)<;>(try simp only[hb])<;>(refine Ap ?_)))
   all_goals exact AL
  generalize hL:((decide ((c:Int)>=97)&&decide ((c:Int)<=122))||(decide ((c:Int)>=65)&&decide ((c:Int)<=90)))=L;refine EB ⟨[(0,str s),(7,.optr 101 2 0 0 0),(47,Aq ((((!L && !(decide ((c:Int)>=48)&&decide ((c:Int)<=57)))&&((c:Int) != 45))&&((c:Int) != 95))&&((c:Int) != 46)))],[],n+60⟩ (Ak w1 500 (by kernel_rfl) ?_) ?_
  ·repeat'(first|(refine And.intro (by exact B0) ?_;refine Ap ?_)|((refine Bn (λhb=>?_) (λhb=>?_))<;>(try simp only[Bc,Bk]at hb)<;>(try simp only[hb])<;>(refine Ap ?_)))
   all_goals exact AL
  have hbad:((((!L && !(decide ((c:Int)>=48)&&decide ((c:Int)<=57)))&&((c:Int) != 45))&&((c:Int) != 95))&&((c:Int) != 46)) = !(Ca c):=by
   subst hL;rw[FU];simp only[Ca,BV,Bc,IR,Bool.and_eq_false_iff,Hu,bne_iff_ne,ne_eq,Bv];omega
  rw[hbad];refine AI ?_
  (refine Bn (λhb=>?_) (λhb=>?_))<;>(try simp only[Bc,Bk]at hb)<;>(try simp only[hb])
  ·have hbf:Ca c=false:=by simpa using hb
   refine fR 600 ?_;refine Ab ?_;refine AN ?_ AA.out;have hb8:Ca (s.get! p).toNat=false:=by
    by_cases hlow:(s.get! p).toNat<128
    ·rw[Wg s p hlow]at hc
     rw[show(s.get! p).toNat=c from hc];exact hbf
    ·unfold Ca;simp;omega
   have:DM s.data.toList=false:=by
    unfold DM
    have:s.data.toList.all (λb=>Ca b.toNat)=false:=by
     rw[List.all_eq_false];exact⟨_,A8 (aN s p hlt),by rw[hb8];simp⟩
    rw[this];rfl
   rw[this]
  ·have hbt:Ca c=true:=by simpa using hb
   have hclt:c<128:=by
    unfold Ca at hbt;simp only[MO,BV,Gl,Dt]at hbt;omega
   have hlow:(s.get! p).toNat<128:=by
    apply DG;intro h
    have:=gR s p h
    omega
   rw[Wg s p hlow]at hc hIt;refine Aj ?_;refine⟨(p+1,n+60),⟨hIt,hlt,?_⟩,by dsimp only;omega,AL⟩;rw[D7,aN s p hlt,J8,hall];simp;rw[show(s.get! p).toNat=c from hc];exact hbt
 ·have hpe:p=s.size:=by omega
  refine Bz ?_;refine AC.seq ?_;refine AI ?_;refine By ?_;refine EB ⟨[(2,Aq (decide (1<=(s.size:Int))&&decide ((s.size:Int)<=24)))],[],n+60⟩ (Ak w1 700 (by kernel_rfl) ?_) ?_
  ·repeat'(first|(refine And.intro (by exact B0) ?_;refine Ap ?_)|((refine Bn (λhb=>?_) (λhb=>?_))<;>(try simp only[Bc,Bk]at hb)<;>(try simp only[hb])<;>(refine Ap ?_)))
   all_goals exact AL
  refine Ab ?_;refine AN ?_ AA.out;have hall':s.data.toList.all (λb=>Ca b.toNat)=true:=by rw[<-hall,hpe,<-hsz,Dk]
  unfold DM;rw[hall',Hq,hsz];have e:(decide (1<=(s.size:Int))&&decide ((s.size:Int)<=24))=(decide (1<=s.size)&&decide (s.size<=24)):=by
   rw[FU];simp only[BV,Gl];omega
  rw[<-e]
def TD:Value->Value->Bool
 | .int .i64 a,.int .i64 b=>a==b
 | .string a,.string b=>a.data.toList==b.data.toList
 | .bool a,.bool b=>a==b
 | .slice none 0 0,.slice none 0 0=>true
 |_,_=>false
theorem iU {a b:Value}(h:TD a b=true):a=b:=by
 unfold TD at h;split at h
 ·rw[eq_of_beq h]
 ·rename_i a b
  have:=eq_of_beq h
  congr 1
  exact ByteArray.ext (Array.toList_inj.1 this)
 ·rw[eq_of_beq h]
 ·rfl
 ·cases h
def KA (f:D->D->Bool):List D->List D->Bool
 | [],[]=>true
 |a::l,b::m=>f a b&&KA f l m
 |_,_=>false
theorem P0 {f:D->D->Bool}(hf:∀a b,f a b=true->a=b):∀ {l m:List D},KA f l m=true->l=m
 | [],[],_=>rfl
 |a::l,b::m,h=>by
  simp only[KA,BV]at h;rw[hf a b h.1,P0 hf h.2]
 | [],_::_,h=>by simp[KA]at h
 |_::_,[],h=>by simp[KA]at h
def MZ:Nat->D->D->Bool
 | 0,_,_=>false
 |n+1,a,b=>match a,b with
  | .prim a,.prim b=>TD a b
  | .agg l,.agg m=>KA (MZ n) l m
  | .sl x y l,.sl x' y' m=>(x==x')&&Nat.beq y y'&&KA (MZ n) l m
  |_,_=>false
theorem Sa:∀(n:Nat) (a b:D),MZ n a b=true->a=b
 | 0,_,_,h=>by simp[MZ]at h
 |n+1,a,b,h=>by
  unfold MZ at h;split at h
  ·rw[iU h]
  ·rw[P0 (Sa n) h]
  ·simp only[BV]at h
   rw[eq_of_beq h.1.1,Bu h.1.2,P0 (Sa n) h.2]
  ·cases h
def uT:Nat->Nat->List UInt8
 | 0,_=>[]
 |k+1,u=>match Nat.blt u 10 with
  |true=>[UInt8.ofNat (48+u)]
  |false=>uT k (u/10)++[UInt8.ofNat (48+u%10)]
def Qr (t:Nat)(name:String):Option Nat:=match Nat.beq t 141 with
 |true=>match decide (name = "Cmp")with
  |true=>some 232
  |false=>none
 |false=>none
theorem ZA (t:Nat)(name:String)(f:Nat)(h:Qr t name=some f)(v:Value)(w:World):(method (C0.P.types.size+Made.depth) t v name).run C0.P w=.ok (f,v) w:=by
 unfold Qr at h;split at h<;>try(cases h;done)
 rename_i ht;split at h<;>try(cases h;done)
 rename_i hn;obtain rfl:=Bu ht;obtain rfl:=Cs hn;cases h
 kernel_rfl
def tw:Au:=⟨.arr 256 1 false,256,256,true,.agg (Array.replicate 256 (.bool false))⟩
noncomputable def OP (t:Nat):Option Au:=match Nat.beq t 323 with
 |true=>some tw
 |false=>ON.get t
theorem TR:CY C0.P OP:=λt i h=>by
 unfold OP at h;split at h
 ·rename_i ht
  obtain rfl:=Bu ht;cases h
  kernel_rfl
 ·exact ax t i h
set_option maxHeartbeats 2000000
def BX (c:UInt8):Bool:=Nat.ble 48 c.toNat&&Nat.ble c.toNat 57
def Ge:D:=.agg ((List.range 256).map λi=>Aq (Nat.ble 48 i&&Nat.ble i 57))
abbrev Qx:List UInt8:=[48,49,50,51,52,53,54,55,56,57]
noncomputable def X4:EV:=⟨OP,LF.get,Ma.get,λ_=>false,λ_ _=>none,λ_ _=>none,Jx⟩
theorem TO:Ep C0 X4:=⟨TR,QZ,JE,λ_ _ _ h=>by simp[X4]at h,by kernel_rfl,λ_ _ _ h=>by simp[X4]at h,PV⟩
theorem w4:DA C0 X4:=TO.w
theorem dQ:AK C0 310 [str (sb Qx)] (.tup [Ge,Aq true]):=B6 TO 1000 40 (by kernel_rfl)
def Tb (o:Option D)(b:Bool):Bool:=match o with
 |some (.prim (.bool c))=>c==b
 |_=>false
theorem fo {o:Option D}{b:Bool}(h:Tb o b=true):o=some (Aq b):=by
 unfold Tb at h;split at h
 ·rw[Dt]at h;subst h;rfl
 ·cases h
theorem bM:((List.range 256).all λc=>Tb ((Fx X4 1000 40).1 319 [.pptr Ge,.prim (.int .u8 (c:Nat))]) (Nat.ble 48 c&&Nat.ble c 57))=true:=by kernel_rfl
theorem UC (c:UInt8):AK C0 319 [.pptr Ge,.prim (.int .u8 (c.toNat:Nat))] (Aq (BX c)):=by
 refine B6 TO 1000 40 ?_;have h:=CI.1 bM c.toNat (List.mem_range.2 c.toNat_lt);exact fo h
instance:Ag Ge:=⟨λc hc=>by
 change c∈(List.range 256).map (λi=>Aq (Nat.ble 48 i&&Nat.ble i 57))at hc;obtain⟨i,_,rfl⟩:=List.mem_map.1 hc;exact .prim _⟩
def Fm (l:List UInt8):List UInt8:=(l.reverse.dropWhile BX).reverse
theorem d8 (m:List UInt8)(c:UInt8):Fm (m++[c])=if BX c then Fm m else m++[c]:=by
 unfold Fm;rw[List.reverse_append,List.reverse_singleton,List.singleton_append,MV];split
 ·rfl
 ·rw[List.reverse_cons,List.reverse_reverse]
theorem iR (l:List UInt8):((Fm l).dropWhile BX=[])↔l.all BX=true:=by
 constructor
 ·intro h
  have h1:∀m:List UInt8,m.dropWhile BX=[]->m.all BX=true:=λm=>by
   induction m with
   |nil=>intro _;rfl
   |cons c m ih=>
    intro hm;rw[MV]at hm;split at hm
    ·rename_i hc
     rw[FQ,hc,ih hm];rfl
    ·cases hm
  have h2:(l.reverse.dropWhile BX).all BX=true:=by
   have:=h1 _ h
   unfold Fm at this
   rwa [List.all_reverse]at this
  have h3:∀m:List UInt8,(m.dropWhile BX).all BX=true->m.all BX=true:=λm=>by
   induction m with
   |nil=>intro _;rfl
   |cons c m ih=>
    intro hm;rw[MV]at hm;split at hm
    ·rename_i hc
     rw[FQ,hc,ih hm];rfl
    ·exact hm
  have:=h3 _ h2
  rwa [List.all_reverse]at this
 ·intro h
  have h1:∀m:List UInt8,m.all BX=true->m.dropWhile BX=[]:=λm=>by
   induction m with
   |nil=>intro _;rfl
   |cons c m ih=>
    intro hm;rw[FQ,BV]at hm;rw[MV,AF hm.1];exact ih hm.2
  have hx:=h1 l.reverse (by rw[List.all_reverse];exact h);unfold Fm;rw[hx];rfl
theorem bs (l:List UInt8)(hl:l.length<=1000000000):AK C0 311 [str (sb l),.pptr Ge] (str (sb (l.dropWhile BX))):=by
 refine Ai.walk w1 YQ rfl λF=>?_
 have hps:Ag Ge:=AH;have hcc:=UC;generalize Ge=sd at*;refine sR 0 ?_;refine AC.seq ?_;refine AC.block ?_;refine AC.loop (α:=List UInt8×Nat) (λp=>⟨[(0,str (sb p.1)),(1,.pptr sd)],[],p.2⟩) (λp=>p.1.length) (λp=>p.1.dropWhile BX=l.dropWhile BX/\p.1.length<=l.length) (l,_) ⟨rfl,Af _⟩ AL ?_;rintro⟨m,n⟩ F ⟨h1,h2⟩;dsimp only at h1 h2⊢;refine AC.seq ?_;refine AC.seq ?_;cases m with
 |nil=>
  have e1:decide (((sb []).size:Int)>0)=false:=rfl;refine Ak w1 100 (by kernel_rfl) ?_;refine AT e1 ?_;refine AI ?_;refine By ?_;refine sR 400 ?_;refine Ab ?_;exact AN (by rw[<-h1];rfl) AA.out
 |cons c m=>
  have hsz:=CS (c::m);have e1:decide (((sb (c::m)).size:Int)>0)=true:=AZ (by rw[hsz,Bj];omega);have hx:(((sb (c::m)).data.toList.getD ((0:Int)).toNat 0).toNat:Int)=(c.toNat:Int):=rfl;have b1:(0:Int)<((sb (c::m)).size:Int):=by rw[hsz,Bj];omega
  have b2:(1:Int)<=((sb (c::m)).size:Int):=by omega
  have e3:(sb (c::m)).extract ((1:Int)).toNat (sb (c::m)).size=sb m:=by
   rw[EZ,hsz,B5 (Af _)];rfl
  have cc:=hcc c;refine Ak w1 100 (by kernel_rfl) ?_;refine AT e1 ?_;refine AI ?_;refine Aj ?_;refine AC.block ?_;refine AC.seq ?_;refine sZ 200 ?_;refine AT hx ?_;refine cI cc ?_;rcases hb:BX c with _|_
  ·refine AI ?_
   refine By ?_;refine sR 400 ?_;refine Ab ?_;refine AN ?_ AA.out;rw[<-h1,MV,AE (by rw[hb];simp)]
  ·refine AI ?_
   refine Aj ?_;refine Ak w1 300 (by kernel_rfl) ?_;refine AT e3 ?_;refine⟨(m,_),⟨?_,?_⟩,?_,AL⟩
   ·rw[<-h1,MV,AF hb]
   ·rw[Bj]at h2;dsimp only;omega
   ·show m.length<m.length+1;omega
theorem bU (l:List UInt8)(hl:l.length<=1000000000):AK C0 312 [str (sb l),.pptr Ge] (str (sb (Fm l))):=by
 refine Ai.walk w1 YR rfl λF=>?_
 have hps:Ag Ge:=AH;have hcc:=UC;generalize Ge=sd at*;refine sR 0 ?_;refine AC.seq ?_;refine AC.block ?_;refine AC.loop (α:=List UInt8×Nat) (λp=>⟨[(0,str (sb p.1)),(1,.pptr sd)],[],p.2⟩) (λp=>p.1.length) (λp=>Fm p.1=Fm l/\p.1.length<=l.length) (l,_) ⟨rfl,Af _⟩ AL ?_;rintro⟨m,n⟩ F ⟨h1,h2⟩;dsimp only at h1 h2⊢;refine AC.seq ?_;refine AC.seq ?_;rcases Qf m with rfl|⟨m,c,rfl⟩
 ·have e1:decide (((sb []).size:Int)>0)=false:=rfl
  refine Ak w1 100 (by kernel_rfl) ?_;refine AT e1 ?_;refine AI ?_;refine By ?_;refine sR 400 ?_;refine Ab ?_;exact AN (by rw[<-h1];rfl) AA.out
 ·rw[Qe]at h1 h2⊢
  have hsz:=CS (m++[c]);rw[B1,GL]at hsz h2;have e1:decide (((sb (m++[c])).size:Int)>0)=true:=AZ (by rw[hsz];omega);have wk1:IntKind.i64.wrap (((sb (m++[c])).size:Int)-1)=(m.length:Int):=by rw[hsz,wI (by omega) (by omega)];omega
  have hx:(((sb (m++[c])).data.toList.getD (((m.length:Nat):Int)).toNat 0).toNat:Int)=(c.toNat:Int):=by
   show(((m++[c]).getD m.length 0).toNat:Int)=_;simp
  have b1:((m.length:Nat):Int)<((sb (m++[c])).size:Int):=by rw[hsz];omega
  have e3:(sb (m++[c])).extract 0 (((m.length:Nat):Int)).toNat=sb m:=by
   rw[EZ];simp
  have cc:=hcc c;have ht:=d8 m c;refine Ak w1 100 (by kernel_rfl) ?_;refine AT e1 ?_;refine AI ?_;refine Aj ?_;refine AC.block ?_;refine AC.seq ?_;refine sZ 200 ?_;refine AT (Ah wk1 hx) ?_;refine cI cc ?_;rcases hb:BX c with _|_
  ·rw[AE (by rw[hb];simp)]at ht
   refine AI ?_;refine By ?_;refine sR 400 ?_;refine Ab ?_;exact AN (by rw[<-h1,ht]) AA.out
  ·rw[AF hb]at ht
   refine AI ?_;refine Aj ?_;refine Ak w1 300 (by kernel_rfl) ?_;refine AT (Ah wk1 e3) ?_;refine⟨(m,_),⟨by rw[<-h1,ht],by dsimp only;omega⟩,?_,AL⟩;dsimp only;rw[B1,GL];omega
namespace TrimW
theorem w1:DA C0 X4:=w4
theorem trim_ok (l:List UInt8)(hl:l.length<=1000000000):AK C0 296 [str (sb l),str (sb Qx)] (str (sb ((Fm l).dropWhile BX))):=by
 refine Ai.walk w1 YP rfl λF=>?_
 have cm:=dQ;have c1:=bU l hl;have hlr:(Fm l).length<=1000000000:=by
  unfold Fm;rw[List.length_reverse];exact BP (List.dropWhile_sublist _).length_le (by rw[List.length_reverse];exact hl)
 have c2:=bs (Fm l) hlr;have hps:Ag Ge:=AH;have eS:=Eb l [];have e2:(((sb Qx).size:Int)==1)=false:=rfl;have e4:BM (sb Qx) (sb [])=false:=by rw[Eb];exact Ad (by simp)
 have hfit:Bh true 256 Ge:=by
  have h:((List.range 256).map λi=>Aq (Nat.ble 48 i&&Nat.ble i 57)).length=256:=by rw[An,List.length_range]
  have:=Bh.agg (ds:=(List.range 256).map λi=>Aq (Nat.ble 48 i&&Nat.ble i 57))
  rw[h]at this;exact this
 refine sR 0 ?_
 by_cases h0:l=[]
 ·subst h0
  have eS':BM (sb []) (sb [])=true:=by rw[Eb];exact AZ rfl
  refine AC.seq ?_;refine sZ 100 ?_;refine AT eS' ?_;refine AD (Ah eS' kT) ?_;refine AI ?_;refine sR 200 ?_;refine Ab ?_;exact AN rfl AA.out
 ·rw[Ad h0]at eS
  refine AC.seq ?_;refine sZ 100 ?_;refine AT eS ?_;refine AD (Ar eS e4 kF) ?_;refine AD (Ar eS e4 kF) ?_;refine AI ?_;refine Aj ?_;refine AC.seq ?_;refine sZ 300 ?_;refine AT e2 ?_;refine AD e2 ?_;refine AD e2 ?_;refine AI ?_;refine Aj ?_;refine AC.seq ?_;refine sR 500 ?_;refine A7.same _ cm AH ?_;refine Ap ?_;generalize Ge=sd at*
  repeat(refine Dm rfl rfl ?_;refine HR (λ_ _=>rfl) ?_)
  refine My (And.intro (by repeat'(first|exact hfit|refine And.intro ?_ ?_|exact B0)) ?_);refine Ap ?_;refine sR 600 ?_;refine AI ?_;refine sR 700 ?_;refine A7.own _ (MM c1 rfl ?_ AH (Ix.prim _)) ?_
  ·intro i x y hx hy
   match i with
   | 0=>simp at hx hy;subst hx;subst hy;exact C8.refl _ _
   | 1=>simp at hx hy;subst hx;subst hy;exact C8.ptr rfl rfl rfl rfl
   |i+2=>simp at hx
  rintro d H' n' ⟨rfl,rfl,rfl⟩;refine BJ ?_;refine A7.own _ (MM c2 rfl ?_ AH (Ix.prim _)) ?_
  ·intro i x y hx hy
   match i with
   | 0=>simp at hx hy;subst hx;subst hy;exact C8.refl _ _
   | 1=>simp at hx hy;subst hx;subst hy;exact C8.ptr rfl rfl rfl rfl
   |i+2=>simp at hx
  rintro d H' n' ⟨rfl,rfl,rfl⟩;refine BJ ?_;refine Ab ?_;exact AN rfl AA.out
end TrimW
def GM (a:Nat)(l:List UInt8):Nat:=l.foldl (λa c=>a*10+(c.toNat-48)) a
def dv (l:List UInt8):Nat:=GM 0 l
theorem X0 (l:List UInt8):∀a,GM a l=a*10^l.length+dv l:=by
 induction l with
 |nil=>intro a;simp[GM,dv]
 |cons c l ih=>
  intro a;have h1:∀b,GM b (c::l)=GM (b*10+(c.toNat-48)) l:=λb=>rfl
  have h2:dv (c::l)=GM (0*10+(c.toNat-48)) l:=rfl;rw[h1,h2,ih,ih (0*10+(c.toNat-48)),Bj,B9];rw[Bl,GK,BT,Bo,BN 10];omega
theorem Ms (l m:List UInt8):dv (l++m)=dv l*10^m.length+dv m:=by
 have:dv (l++m)=GM (dv l) m:=by unfold dv GM;rw[List.foldl_append]
 rw[this,X0]
theorem bo (l:List UInt8):∀a,l.all BX=true->Lib.decFrom a l=some (GM a l):=by
 induction l with
 |nil=>intro a _;rfl
 |cons c l ih=>
  intro a h;rw[FQ,BV]at h;have hd:Lib.digitVal c=some (c.toNat-48):=by
   have h1:=h.1;unfold BX at h1;rw[BV]at h1;unfold Lib.digitVal;rw[AF ⟨Bb h1.1,Bb h1.2⟩]
  rw[Lib.decFrom,hd];exact ih _ h.2
theorem KO {c:UInt8}(h:BX c=true):48<=c.toNat/\c.toNat<=57:=by
 unfold BX at h;rw[BV]at h;exact⟨Bb h.1,Bb h.2⟩
theorem gF {l:List UInt8}(h0:l≠[])(h:l.all BX=true):Lib.atoi l=some (dv l:Int):=by
 cases l with
 |nil=>exact Ae rfl h0
 |cons c l=>
  have hc:BX c=true:=by rw[FQ,BV]at h;exact h.1
  obtain⟨c1,c2⟩:=KO hc;have e1:(c==45)=false:=by
   rw[Bv];intro hh;subst hh;simp at c1
  have e2:(c==43)=false:=by
   rw[Bv];intro hh;subst hh;simp at c1
  unfold Lib.atoi;dsimp only;rw[e1,e2];simp only[HF,if_false];unfold Lib.decNat;simp only[List.isEmpty_cons,HF,if_false];rw[bo _ _ h];rfl
theorem Fi (l:List UInt8)(h:l.all BX=true):dv l<10^l.length:=by
 induction l with
 |nil=>decide
 |cons c l ih=>
  rw[FQ,BV]at h;have h1:dv (c::l)=GM (0*10+(c.toNat-48)) l:=rfl;have h2:=ih h.2;obtain⟨c1,c2⟩:=KO h.1;rw[h1,X0,GK,BT,Bj,B9,BN _ 10];have h3:(c.toNat-48)*10^l.length<=9*10^l.length:=B8 _ (by omega);omega
def Tc (o:Option D)(z:Int):Bool:=match o with
 |some (.agg [.prim (.int .i64 a),.prim (.slice none 0 0)])=>a==z
 |_=>false
theorem fp {o:Option D}{z:Int}(h:Tc o z=true):o=some (Cm z):=by
 unfold Tc at h;split at h
 ·rw[Dt]at h;subst h;rfl
 ·cases h
theorem kS:((List.range 19).all λk=>Tc ((Fx X1 1000 60).1 192 [Cm 10,i64 (k:Nat)]) ((10^k:Nat):Int))=true:=by kernel_rfl
theorem pI (k:Nat)(h:k<19):AK C0 192 [Cm 10,i64 k] (Cm ((10^k:Nat):Int)):=by
 refine B6 DE 1000 60 ?_;exact fp (CI.1 kS k (List.mem_range.2 h))
theorem TN {n:Nat}(h:n<9223372036854775808):Cm (n:Int)=(AV (n:Int)).D:=by
 rw[Ii ⟨by omega,by omega⟩];rfl
theorem tF (a b:Nat)(ha:(Aa a).length<1000000)(hb:(Aa b).length<1000000):AK C0 154 [(AV (a:Int)).D,(AV (b:Int)).D] (AV ((a+b:Nat):Int)).D:=by
 have:=NV (AV (a:Int)) (AV (b:Int)) (CR _) (CR _) (HN ha) (HN hb)
 have e:Ds (AV (a:Int)) (AV (b:Int))=AV ((a+b:Nat):Int):=by
  have h1:=Lh (AV (a:Int)) (AV (b:Int));rw[DU,DU]at h1;rw[NW (LW _ _) (by rw[h1];omega),h1]
  congr 1
 rw[e]at this;exact this
theorem LN {n k:Nat}(h:n<10^k):(Aa n).length<=k:=GP (CM h (MX (by decide) k))
def rv (l:List UInt8):Int:=if C4 l then -(dv (Bf l):Int)else dv (Bf l)
theorem kU (k:Nat)(h:k<19):AK C0 192 [Cm 10,i64 k] (AV ((10^k:Nat):Int)).D:=by
 have:=pI k h
 have h2:10^k<9223372036854775808:=DH (Ew (by decide) (show k<=18 by omega)) (by decide)
 rwa [TN h2]at this
theorem oz (n:Nat)(h:n<9223372036854775808):AK C0 152 [i64 n] (AV (n:Int)).D:=by
 have:=NY (n:Int)
 rwa [TN h]at this
theorem Pb (l:List UInt8)(hd:(Bf l).all BX=true)(hl:l.length<=100000):AK C0 149 [str (sb l)] (AV (rv l)).D:=by
 refine Ai.walk w1 Xh rfl λF=>?_
 have c1:=bY l (by omega);have c2:=Qz l (by omega);have hml:(Bf l).length<=100000:=by
  unfold Bf;split
  ·rw[Dj];omega
  ·exact hl
 unfold rv;generalize hm0:Bf l=m0 at*;generalize C4 l=ng at*;generalize sb l=sl at*;have ez:Cm 0=(AV ((0:Nat):Int)).D:=TN (by decide);have hpm:∀n:Nat,AA (AV (n:Int)).w:=λn=>AH
 refine sR 0 ?_;refine sR 100 ?_;refine cI c1 ?_;refine sR 200 ?_;refine cI c2 ?_;refine sR 300 ?_;refine Cj (α:=Nat) (λn=>⟨[(2,.optr 0 0 2 0 0),(3,Aq ng),(4,.optr 301 8 2 0 0)],[⟨301,8,139,2,[(AV (dv m0:Int)).D]⟩,⟨0,0,139,2,[Cm 0]⟩],n⟩) (λ_=>True) ?_ ?_
 ·refine AC.block ?_
  refine Ft (α:=List UInt8×Nat×Nat) (λp=>⟨[(0,str (sb p.1)),(2,.optr 0 0 2 0 0),(3,Aq ng),(4,.optr 301 8 2 0 0)],[⟨301,8,139,2,[(AV (p.2.1:Int)).D]⟩,⟨0,0,139,2,[Cm 0]⟩],p.2.2⟩) (λp=>p.1.length)
   (λp F'=>F'=F/\p.1.all BX=true/\p.1.length<=m0.length/\p.2.1<10^(m0.length-p.1.length)/\dv m0=p.2.1*10^p.1.length+dv p.1) (m0,0,20) ⟨rfl,hd,Af _,by simp,by simp⟩ (by rw[<-ez];exact AL) ?_
  rintro⟨m,A,n⟩ F' ⟨rfl,h1,h2,h3,h4⟩;dsimp only at h1 h2 h3 h4⊢;refine AC.seq ?_;refine AC.seq ?_
  by_cases hm:m=[]
  ·subst hm
   have e1:decide (((sb []).size:Int)>0)=false:=rfl;have hA:dv m0=A:=by simpa[dv,GM]using h4
   rw[hA];refine Ak w1 400 (by kernel_rfl) ?_;refine AT e1 ?_;refine AI ?_;refine By ?_;exact⟨rfl,_,trivial,AL⟩
  ·have hm1:0<m.length:=List.length_pos_iff.2 hm
   have hsz:=CS m;obtain⟨k,hk⟩:∃k,k=min 18 m.length:=⟨_,rfl⟩
   have e1:decide (((sb m).size:Int)>0)=true:=AZ (by rw[hsz];omega);have ek:min (18:Int) ((sb m).size:Int)=(k:Int):=by rw[hsz];omega
   have b1:(k:Int)<=((sb m).size:Int):=by rw[hsz];omega
   have e22:(sb m).extract 0 ((k:Int)).toNat=sb (m.take k):=by rw[EZ];rfl
   have e36:(sb m).extract ((k:Int)).toNat (sb m).size=sb (m.drop k):=by
    rw[EZ,hsz,B5 (Af _)];rfl
   have htk:(m.take k).all BX=true:=CI.2 λc hc=>CI.1 h1 c (Hx hc)
   have hdk:(m.drop k).all BX=true:=CI.2 λc hc=>CI.1 h1 c (J4 hc)
   have hlk:(m.take k).length=k:=by rw[Bg];omega
   have hv:=Fi _ htk;rw[hlk]at hv;have h18:10^k<=10^18:=Ew (by decide) (by omega);have ca:=jE (sb (m.take k)) (dv (m.take k):Int) (by rw[CS,hlk];omega) (gF (by intro h;change m.take k=[]at h;rw[h]at hlk;simp at hlk;omega) htk);have hval:dv m=dv (m.take k)*10^(m.drop k).length+dv (m.drop k):=by
    conv=>lhs;rw[<-Ef k m]
    exact Ms _ _
   generalize dv (m.take k)=v at*;have hAl:(Aa A).length<=100000:=BP (LN h3) (by omega);have h10:(Aa (10^k)).length<=19:=LN (k:=19) (Nat.pow_lt_pow_right (by decide) (by omega));have hmul:=KM A (10^k);have cp:=kU k (by omega);have c3:=TY A (10^k) (by omega) (by omega);have cv:=oz v (by omega);have hvl:(Aa v).length<=19:=LN (k:=19) (CM hv (Ew (by decide) (by omega)));have c4:=tF (A*10^k) v (by omega) (by omega);refine Ak w1 400 (by kernel_rfl) ?_;refine AT e1 ?_;refine AI ?_;refine Aj ?_;refine AC.block ?_;refine sZ 500 ?_;refine AT ek ?_;refine sZ 600 ?_;refine AT e22 ?_;refine cI ca ?_;refine AC.seq ?_;refine Bx w1 700 [0,1,2,3,4,5] [6,7,8] (by kernel_rfl) ?_;refine BJ ?_;refine BQ.same _ (NY 10) AH ?_;refine BJ ?_;refine BQ.same _ (cp) AH ?_;refine BJ ?_;refine BQ.same _ (c3) AH ?_;refine BJ ?_;refine cI cv ?_;refine cI c4 ?_;refine Ak w1 800 (by kernel_rfl) ?_;refine AT e36 ?_;refine⟨(m.drop k,A*10^k+v,_),⟨trivial,hdk,?_,?_,?_⟩,?_,AL⟩
   ·dsimp only;rw[Dj];omega
   ·dsimp only
    rw[Dj,show m0.length-(m.length-k)=(m0.length-m.length)+k by omega,FT];have h5:(A+1)*10^k<=10^(m0.length-m.length)*10^k:=B8 _ h3;rw[Bl]at h5;omega
   ·dsimp only
    rw[h4,hval,Dj];have h6:10^m.length=10^k*10^(m.length-k):=by rw[<-FT];congr 1;omega
    rw[h6,Bl,Bo];omega
   ·dsimp only;rw[Dj];omega
 rintro n -;have hAl:(Aa (dv m0)).length<=100000:=BP (LN (Fi _ hd)) hml;have cn:=NX (AV (dv m0:Int)) (CR _) (HN (by omega));rw[DU]at cn;have hpn:AA (AV (-(dv m0:Int))).w:=AH;refine AC.seq ?_;refine sR 900 ?_;cases ng with
 |true=>
  rw[AF rfl];refine AI ?_;refine sR 1000 ?_;refine cI cn ?_;refine Ab ?_;exact AN rfl AA.out
 |false=>
  rw[AE (by simp)];refine AI ?_;refine Aj ?_;refine sR 1100 ?_;refine Ab ?_;exact AN rfl AA.out
def Jq (l:List UInt8):Bool:=!decide (l=[])&&l.all BX
def Cp (l:List UInt8):Bool:=Jq l&&(decide (l=[48]) || !decide (l.head? = some 48))
def Bq (l:List UInt8):List UInt8:=l.take (BF l)
def BR (l:List UInt8):List UInt8:=l.drop (BF l+1)
def Cd (l:List UInt8):Bool:=decide (BF l<l.length)
def Br (l:List UInt8):List UInt8:=Bf (Bq l)
def Ih (l:List UInt8):Bool:=!Cp (Br l)||decide (Bq l=[45,48])||(Cd l&&(!Cp (BR l)||decide (BR l=[48])||decide (BR l=[49])))
def CN (l:List UInt8):Nat:=if Ih l then 1 else if 600<(Br l).length\/600<(BR l).length then 4
 else if Cd l=true/\Nat.gcd (dv (Br l)) (dv (BR l))≠1 then 1 else 0
theorem JT {l:List UInt8}(h:Cp l=true):l≠[]/\l.all BX=true:=by
 unfold Cp Jq at h;rw[BV,BV]at h;exact⟨by have:=h.1.1;simpa using this,h.1.2⟩
theorem RF {l:List UInt8}(h:l.all BX=true):C4 l=false:=by
 cases l with
 |nil=>rfl
 |cons c l=>
  rw[FQ,BV]at h;obtain⟨c1,c2⟩:=KO h.1;show(c==45)=false;rw[Bv];intro hh;subst hh;simp at c1
theorem JM {l:List UInt8}(h:l.all BX=true):Bf l=l:=by unfold Bf;rw[RF h];rfl
theorem Lv {l:List UInt8}(h:l.all BX=true):rv l=(dv l:Int):=by
 unfold rv;rw[RF h,JM h];rfl
theorem eC (l:List UInt8)(hl:l.length<=1000000000):AK C0 271 [str (sb l)] (Aq (Jq l)):=by
 refine Ai.walk w1 YM rfl λF=>?_
 have ct:=TrimW.trim_ok l hl;have eS:=Eb l [];have eT:=Eb ((Fm l).dropWhile BX) [];have hall:decide ((Fm l).dropWhile BX=[])=l.all BX:=by
  rw[FU,decide_eq_true_iff];exact iR l
 rw[hall]at eT;unfold Jq;rw[<-eS];generalize hb:BM (sb l) (sb [])=b at*;refine sR 0 ?_;refine AC.seq ?_;cases b with
 |true=>
  have e1:(!BM (sb l) (sb []))=false:=by rw[hb];rfl
  refine Ak w1 100 (by kernel_rfl) ?_;refine AT e1 ?_;refine AD e1 ?_;refine Ab ?_;exact AN rfl AA.out
 |false=>
  have e1:(!BM (sb l) (sb []))=true:=by rw[hb];rfl
  refine Ak w1 100 (by kernel_rfl) ?_;refine AT e1 ?_;refine AD e1 ?_;refine Me e1 ?_;refine A7.same _ ct AH ?_;refine AD (Ah e1 eT) ?_;refine Ab ?_;exact AN rfl AA.out
theorem V5 (l:List UInt8)(hl:l.length<=1000000000):AK C0 230 [str (sb l)] (Aq (Cp l)):=by
 refine Ai.walk w1 Y0 rfl λF=>?_
 have cd:=eC l hl;have e0:=Eb l [48];unfold Cp;refine sR 0 ?_;refine sR 100 ?_;refine cI cd ?_;rcases hd:Jq l with _|_
 ·refine AD (Ah kT HF) ?_
  refine AD (Ah kT HF) ?_;refine Ab ?_;exact AN rfl AA.out
 ·obtain⟨c,m,rfl⟩:∃c m,l=c::m:=by
   cases l with
   |nil=>cases hd
   |cons c m=>exact⟨c,m,rfl⟩
  have hsz:=CS (c::m);rw[Bj]at hsz;have hx:(((sb (c::m)).data.toList.getD ((0:Int)).toNat 0).toNat:Int)=(c.toNat:Int):=rfl;have b0:(0:Int)<((sb (c::m)).size:Int):=by rw[hsz];omega
  by_cases h0:(c::m)=[48]
  ·rw[AZ h0]at e0⊢
   refine AD e0 ?_;refine AD (Ah e0 kT) ?_;refine AD (Ah e0 kT) ?_;refine Ab ?_;exact AN rfl AA.out
  ·rw[Ad h0]at e0⊢
   have e1:((c.toNat:Int) != 48) = !decide (c=48):=by
    rw[FU];simp only[bne_iff_ne,ne_eq,Bc,Hu];constructor
    ·intro h hc;subst hc;exact h rfl
    ·intro h hc
     apply h
     have:c.toNat=48:=by omega
     exact UInt8.toNat_inj.1 this
   refine AD e0 ?_;refine AD (Ba e0 kF hx e1) ?_;refine AD (Ba e0 kF hx e1) ?_;refine Ab ?_;exact AN (by simp) AA.out
theorem js (n:Nat):AK C0 231 [(AV (n:Int)).D] (.tup [i64 (AV (n:Int)).s,Aq (decide (Sm (n:Int)))]):=by
 refine Ai.walk w1 Y1 rfl λF=>?_
 by_cases hs:Sm (n:Int)
 ·obtain⟨a1,a2⟩:=QU hs
  dsimp only[GI.D];rw[a1,a2,AZ hs];refine sR 0 ?_;refine AC.seq ?_;refine Bx w1 100 [0,1,2,3,4,5] [6] (by kernel_rfl) ?_;refine BJ ?_;refine Ab ?_;exact AN rfl AA.out
 ·obtain⟨a1,a2,a3⟩:=TX hs
  dsimp only[GI.D];rw[a1,a2,Ad hs];generalize(Aa n).map AQ=l at*;refine sR 0 ?_;refine AC.seq ?_;refine Bx w1 100 [0,1,2,3,4,5] [6] (by kernel_rfl) ?_;refine AT (Ar (@ne_eq (List D)) a3 D8) ?_;refine Ab ?_;exact AN rfl AA.out
def Fj (l:List UInt8):GF:=⟨AV (rv (Bq l)),if Cd l then dv (BR l)else 1⟩
theorem jp (l:List UInt8)(hl:l.length<=100000)(h1:(Br l).all BX=true)(h2:Cd l=true->(BR l).all BX=true):AK C0 103 [str (sb l)] (Fj l).D:=by
 refine Ai.walk w1 YB rfl λF=>?_
 have cc:=Xy l (by omega);have r1:=Pb (Bq l) h1 (by unfold Bq;rw[Bg];omega);have hpw:AA (AV (rv (Bq l))).w:=AH;unfold Fj;change AK C0 _ _ (.tup [str (sb (Bq l)),str (sb (BR l)),Aq (Cd l)])at cc;rcases hs:Cd l with _|_
 ·rw[hs]at cc
  have wg:=XN (AV (rv (Bq l)));have hp1:AA (AV ((1:Nat):Int)).w:=AH;rw[AE (by simp)];dsimp only[GI.D,GF.D]at*;refine sR 0 ?_;refine sR 100 ?_;refine cI cc ?_;refine AC.seq ?_;refine sR 200 ?_;refine AI ?_;refine sR 300 ?_;refine cI r1 ?_;refine cI wg ?_;refine Ab ?_;exact AN rfl AA.out
 ·rw[hs]at cc
  have hd:=h2 hs;have r2:=Pb (BR l) (by rw[JM hd];exact hd) (by unfold BR;rw[Dj];omega);rw[Lv hd]at r2;have hp1:AA (AV (dv (BR l):Int)).w:=AH;rw[AF rfl];dsimp only[GI.D,GF.D]at*;refine sR 0 ?_;refine sR 100 ?_;refine cI cc ?_;refine AC.seq ?_;refine sR 200 ?_;refine AI ?_;refine Aj ?_;refine sR 400 ?_;refine cI r1 ?_;refine cI r2 ?_;refine Ab ?_;exact AN rfl AA.out
set_option maxHeartbeats 4000000
theorem ox (g:Nat):((g:Int) != 1)=decide (g≠1):=by
 rw[FU,bne_iff_ne,decide_eq_true_iff];omega
theorem gJ (l:List UInt8)(hl:l.length<=100000):AK C0 182 [str (sb l)] (i64 (CN l)):=by
 refine Ai.walk w1 Yc rfl λF=>?_
 have cc:=Xy l (by omega);change AK C0 _ _ (.tup [str (sb (Bq l)),str (sb (BR l)),Aq (Cd l)])at cc;have hnl:(Bq l).length<=100000:=by unfold Bq;rw[Bg];omega
 have hdl:(BR l).length<=100000:=by unfold BR;rw[Dj];omega
 have hsl:(Br l).length<=100000:=by
  unfold Br Bf;split
  ·rw[Dj];omega
  ·exact hnl
 have ct:=Qz (Bq l) (by omega);change AK C0 _ _ (str (sb (Br l)))at ct;have p1:=V5 (Br l) (by omega);have p2:=V5 (BR l) (by omega);have en:=Eb (Bq l) [45,48];have e0:=Eb (BR l) [48];have e1:=Eb (BR l) [49];have z1:=CS (Br l);have z2:=CS (BR l);have hbf:∃b,b=Ih l:=⟨_,rfl⟩
 obtain⟨bf,hbf⟩:=hbf;unfold CN;rw[<-hbf];unfold Ih at hbf;refine sR 0 ?_;refine sR 100 ?_;refine cI cc ?_;refine sR 200 ?_;refine cI ct ?_;refine AC.seq ?_;refine Cj (α:=Nat) (λn=>⟨[(4,str (sb (BR l))),(5,Aq (Cd l)),(6,str (sb (Br l))),(39,Aq bf)],[],n⟩) (λ_=>True) ?_ ?_
 ·refine rI 300 ?_
  refine cI p1 ?_;rcases hp:Cp (Br l)with _|_
  ·rw[hp]at hbf
   have hb:bf=true:=by rw[hbf];rfl
   subst hb;simp only[Qm];refine AD kT ?_;refine AD kT ?_;exact⟨trivial,_,trivial,AL⟩
  ·rw[hp]at hbf
   simp only[OC]
   by_cases hn:Bq l=[45,48]
   ·rw[AZ hn]at en hbf
    have hb:bf=true:=by rw[hbf];rfl
    subst hb;refine AD (Ah kF en) ?_;refine AD (Ar kF kT en) ?_;exact⟨trivial,_,trivial,AL⟩
   ·rw[Ad hn]at en hbf
    rcases hs:Cd l with _|_
    ·rw[hs]at hbf
     have hb:bf=false:=by rw[hbf];rfl
     subst hb;refine AD (Ah kF en) ?_;refine AD (Ba kF kT en hs) ?_;refine AD (Ba kF kT en hs) ?_;exact⟨trivial,_,trivial,AL⟩
    ·rw[hs]at hbf
     refine AD (Ah kF en) ?_;refine AD (Ar kF en hs) ?_;refine Me hs ?_;refine A7.same _ p2 AH ?_;refine Ap ?_;rcases hq:Cp (BR l)with _|_
     ·rw[hq]at hbf
      have hb:bf=true:=by rw[hbf];rfl
      subst hb;refine AD (Ar kF kT hq) ?_;refine AD (Ar kF kT hq) ?_;refine AD (Ar kF kT hq) ?_;exact⟨trivial,_,trivial,AL⟩
     ·rw[hq]at hbf
      refine AD hq ?_;simp only[OC];refine AD kF ?_
      by_cases h0:BR l=[48]
      ·rw[AZ h0]at e0 hbf
       have hb:bf=true:=by rw[hbf];rfl
       subst hb;simp only[e0,imp_self];refine AD kT ?_;refine HT rfl rfl rfl (by simp only[Qm]) (by simp) (HR (λ_ _=>rfl) ?_);refine AD kF ?_;exact⟨trivial,_,trivial,AL⟩
      ·rw[Ad h0]at e0 hbf
       simp only[e0];refine AD kF ?_
       by_cases h1:BR l=[49]
       ·rw[AZ h1]at e1 hbf
        have hb:bf=true:=by rw[hbf];rfl
        subst hb;simp only[e1];exact⟨trivial,_,trivial,AL⟩
       ·rw[Ad h1]at e1 hbf
        have hb:bf=false:=by rw[hbf];rfl
        subst hb;simp only[e1];exact⟨trivial,_,trivial,AL⟩
 rintro n -;cases bf with
 |true=>
  rw[AF rfl];refine AI ?_;refine sR 400 ?_;refine Ab ?_;exact AN rfl AA.out
 |false=>
  rw[AE (by simp)];have hbf:=hbf.symm;simp only[IR,Bk,Bool.and_eq_false_iff]at hbf;obtain⟨⟨hp,hn⟩,hd⟩:=hbf;refine AI ?_;refine Aj ?_;have hsd:=(JT hp).2;refine AC.seq ?_;refine Cj (α:=Nat) (λn=>⟨[(4,str (sb (BR l))),(5,Aq (Cd l)),(6,str (sb (Br l))),(47,Aq (decide (600<(Br l).length\/600<(BR l).length)))],[],n⟩) (λ_=>True) ?_ ?_
  ·by_cases hA:600<(Br l).length
   ·have ea:decide (((sb (Br l)).size:Int)>600)=true:=AZ (by rw[z1];omega)
    have eb:decide (600<(Br l).length\/600<(BR l).length)=true:=AZ (Or.inl hA);rw[eb];refine Ak w1 500 (by kernel_rfl) ?_;refine AT ea ?_;refine AD kT ?_;exact⟨trivial,_,trivial,AL⟩
   ·have ea:decide (((sb (Br l)).size:Int)>600)=false:=Ad (by rw[z1];omega)
    have eb:decide (((sb (BR l)).size:Int)>600)=decide (600<(Br l).length\/600<(BR l).length):=by
     rw[Cn,z2];omega
    refine Ak w1 500 (by kernel_rfl) ?_;refine AT ea ?_;refine AD kF ?_;simp only[eb];exact⟨trivial,_,trivial,AL⟩
  rintro n -
  by_cases hL:600<(Br l).length\/600<(BR l).length
  ·rw[AZ hL,AF hL]
   refine AI ?_;refine sR 600 ?_;refine Ab ?_;exact AN rfl AA.out
  ·rw[Ad hL,AE hL]
   refine AI ?_;refine Aj ?_;refine AC.seq ?_;refine sR 700 ?_;rcases hs:Cd l with _|_
   ·rw[AE (by simp)]
    refine AI ?_;refine Aj ?_;refine sR 1100 ?_;refine Ab ?_;exact AN rfl AA.out
   ·rw[hs]at hd
    have hd':=hd.resolve_left (by simp);have hdd:=(JT hd'.1.1).2;have r1:=Pb (Br l) (by rw[JM hsd];exact hsd) hsl;have r2:=Pb (BR l) (by rw[JM hdd];exact hdd) hdl;rw[Lv hsd]at r1;rw[Lv hdd]at r2;have l1:(Aa (dv (Br l))).length<=100000:=BP (LN (Fi _ hsd)) hsl;have l2:(Aa (dv (BR l))).length<=100000:=BP (LN (Fi _ hdd)) hdl;have cg:=Z9 (AV (dv (Br l):Int)) (AV (dv (BR l):Int)) (CR _) (CR _) (HN (by omega)) (HN (by omega));rw[DU,DU,D6,D6]at cg;have cs:=js (Nat.gcd (dv (Br l)) (dv (BR l)));obtain⟨g,hg0⟩:∃g,g=Nat.gcd (dv (Br l)) (dv (BR l)):=⟨_,rfl⟩
    rw[<-hg0]at cg cs;simp only[<-hg0];have hpa:AA (AV (dv (Br l):Int)).w:=AH;have hpb:AA (AV (dv (BR l):Int)).w:=AH;have hpg:AA (AV (g:Int)).w:=AH;dsimp only[GI.D]at r1 r2 cg cs;refine AI ?_;refine sR 800 ?_;refine cI r1 ?_;refine cI r2 ?_;refine cI cg ?_;refine cI cs ?_;refine Cj (α:=Nat) (λn=>⟨[(63,Aq (decide (g≠1)))],[],n⟩) (λ_=>True) ?_ ?_
    ·by_cases hg:Sm (g:Int)
     ·obtain⟨a1,a2⟩:=QU hg
      have eg:=ox g;rw[a1,AZ hg];refine rI 900 ?_;simp only[OC];refine AD kF ?_;simp only[eg];exact⟨trivial,_,trivial,AL⟩
     ·have eg:decide (g≠1)=true:=AZ λh=>hg (by rw[h];exact⟨by decide,by decide⟩)
      rw[eg,Ad hg];refine rI 900 ?_;simp only[Qm];refine AD kT ?_;exact⟨trivial,_,trivial,AL⟩
    rintro n -
    by_cases hg:g=1
    ·rw[Ad (λh=>h hg),AE (λh=>h.2 hg)]
     refine AI ?_;refine Aj ?_;refine sR 1100 ?_;refine Ab ?_;exact AN rfl AA.out
    ·rw[AZ hg,AF ⟨trivial,hg⟩]
     refine AI ?_;refine sR 1000 ?_;refine Ab ?_;exact AN rfl AA.out
abbrev RB:Nat:=1000000000
def AW (n:Nat):List Nat:=if _h:n=0 then[]else(n%RB)::AW (n/RB)
termination_by n
decreasing_by exact HE (Di _h) (by decide)
def AM:List Nat->Nat
 | []=>0
 |a::l=>a+RB*AM l
def Rd (l:List Nat):Prop:=∀a∈l,a<RB
theorem F3:AW 0=[]:=by unfold AW;rfl
theorem H9 {n:Nat}(h:n≠0):AW n=(n%RB)::AW (n/RB):=by rw[AW,dif_neg h]
theorem EG (n:Nat):Rd (AW n):=by
 induction n using Nat.strongRecOn with
 |ind n ih=>
  by_cases h:n=0
  ·subst h;rw[F3];intro a ha;cases ha
  ·rw[H9 h]
   intro a ha;rcases BA.1 ha with rfl|ha
   ·exact Bs _ (by decide)
   ·exact ih _ (HE (Di h) (by decide)) a ha
theorem Dl (n:Nat):AM (AW n)=n:=by
 induction n using Nat.strongRecOn with
 |ind n ih=>
  by_cases h:n=0
  ·subst h;rw[F3];rfl
  ·rw[H9 h,AM,ih _ (HE (Di h) (by decide))]
   exact ET n RB
theorem IZ (l m:List Nat):AM (l++m)=AM l+RB^l.length*AM m:=by
 induction l with
 |nil=>simp[AM]
 |cons a l ih=>
  simp only[EP,AM,ih,Bj,B9,BH];rw[BN (RB^l.length) RB,Bo,ED]
theorem Rd.tail {a:Nat}{l:List Nat}(h:Rd (a::l)):Rd l:=λb hb=>h b (Ck _ hb)
theorem Rd.head {a:Nat}{l:List Nat}(h:Rd (a::l)):a<RB:=h a Cc
theorem Rd.append {l m:List Nat}(h:Rd l)(k:Rd m):Rd (l++m):=λa ha=>(List.mem_append.1 ha).elim (h a) (k a)
theorem Rd.take {l:List Nat}(h:Rd l)(n:Nat):Rd (l.take n):=λa ha=>h a (Hx ha)
theorem Fd:∀ {l:List Nat},Rd l->AM l<RB^l.length
 | [],_=>by simp[AM]
 |a::l,h=>by
  have h1:=Fd h.tail;have h2:=h.head;rw[AM,Bj,B9]
  calc a+RB*AM l<RB+RB*AM l:=by omega
   _=RB*(AM l+1):=by rw[BH,Du,J7]
   _<=RB*RB^l.length:=CP _ h1
   _=_:=BN _ _
theorem Ub:∀ {l:List Nat},Rd l->(∀a∈l.getLast?,a≠0)->AW (AM l)=l
 | [],_,_=>F3
 | [a],h,hl=>by
  have ha:a≠0:=hl a (by simp);have hb:=h.head;rw[show AM [a]=a from by simp[AM],H9 ha,DO hb,Gh hb,F3]
 |a::b::l,h,hl=>by
  have ih:=Ub h.tail (λx hx=>hl x (by simpa using hx));have hb:=h.head;have hv:AM (b::l)≠0:=by
   intro h0;rw[h0,F3]at ih;cases ih
  have e1:AM (a::b::l)%RB=a:=by rw[AM,Qn,DO hb]
  have e2:AM (a::b::l)/RB=AM (b::l):=by
   rw[AM,Qi _ _ (by decide),Gh hb,BT]
  have hne:AM (a::b::l)≠0:=by
   intro h0;rw[h0]at e2;exact hv (by rw[<-e2];rfl)
  rw[H9 hne,e1,e2,ih]
theorem T8:∀(k:Nat),AM (List.replicate k 0)=0
 | 0=>rfl
 |k+1=>by rw[List.replicate_succ,AM,T8 k,EE]
theorem H6 (b:Nat):∀a,b<=a->(AW b).length<=(AW a).length:=by
 induction b using Nat.strongRecOn with
 |ind b ih=>
  intro a h
  by_cases hb:b=0
  ·subst hb;rw[F3];exact BZ _
  ·rw[H9 hb,H9 (n:=a) (by omega),Bj,Bj]
   exact Nat.succ_le_succ (ih _ (HE (Di hb) (by decide)) _ (Nat.div_le_div_right h))
theorem Tx {a b:Nat}(h:(AW a).length<(AW b).length):a<b:=by
 rcases BL a b with h1|h1
 ·exact h1
 ·have:=H6 b a h1;omega
theorem Mt {l:List Nat}{k a:Nat}(h:l[k]?=some a):AM l=AM (l.take k)+RB^k*(a+RB*AM (l.drop (k+1))):=by
 have hk:k<l.length:=(List.getElem?_eq_some_iff.1 h).1
 conv=>lhs;rw[<-Ef k l]
 rw[IZ,Bg,Ei (by omega)]
 have:l.drop k=a::l.drop (k+1):=by
  rw[D9 hk]
  congr 1
  exact(List.getElem?_eq_some_iff.1 h).2
 rw[this,AM]
theorem T7 {l m:List Nat}{k a b:Nat}(hl:Rd l)(ha:l[k]?=some a)(hb:m[k]?=some b)(hd:l.drop (k+1)=m.drop (k+1))(hab:a<b):AM l<AM m:=by
 have hk:k<l.length:=(List.getElem?_eq_some_iff.1 ha).1;rw[Mt ha,Mt hb,hd];have h1:=Fd (hl.take k);rw[Bg,Ei (by omega)]at h1;generalize AM (m.drop (k+1))=r;have h2:RB^k*(a+RB*r)+RB^k<=RB^k*(b+RB*r):=by
  rw[<-Nat.mul_succ];exact CP _ (by omega)
 omega
theorem GQ {l:List Nat}{i a:Nat}(hi:l.length=i):AM (l++[a])=AM l+RB^i*a:=by rw[IZ,hi];simp[AM]
theorem Rd.set {l:List Nat}(h:Rd l){i a:Nat}(ha:a<RB):Rd (l.set i a):=λb hb=>by
 rcases List.mem_or_eq_of_mem_set hb with h1|rfl
 ·exact h b h1
 ·exact ha
theorem RK (n:Nat):Rd (List.replicate n 0):=λa ha=>by rw[N8 ha];decide
theorem Mo:∀ {l:List Nat} {k o d:Nat},l[k]?=some o->AM (l.set k d)+RB^k*o=AM l+RB^k*d
 |a::l,0,o,d,h=>by
  simp only[Qd,BG]at h;subst h;simp only[List.set_cons_zero,AM,K8,IV];omega
 |a::l,k+1,o,d,h=>by
  simp only[JA]at h;have ih:=Mo (d:=d) h;simp only[List.set_cons_succ,AM];have h1:RB^(k+1)*o=RB*(RB^k*o):=by rw[B9,BN (RB^k) RB,Bo]
  have h2:RB^(k+1)*d=RB*(RB^k*d):=by rw[B9,BN (RB^k) RB,Bo]
  have h3:RB*AM (l.set k d)+RB*(RB^k*o)=RB*AM l+RB*(RB^k*d):=by rw[<-BH,<-BH,ih]
  omega
theorem KK {n k:Nat}(h:n<RB^k):(AW n).length<=k:=by
 induction k generalizing n with
 |zero=>
  have:n=0:=by simpa using h
  subst this;rw[F3];exact Af _
 |succ k ih=>
  by_cases h0:n=0
  ·subst h0;rw[F3];exact BZ _
  ·rw[H9 h0,Bj]
   exact Nat.succ_le_succ (ih (Eg (by rw[BN,<-B9];exact h)))
theorem H7 (n:Nat):n<RB^(AW n).length:=by
 have:=Fd (EG n)
 rwa [Dl]at this
theorem UZ (a b:Nat):(AW (a+b)).length<=max (AW a).length (AW b).length+1:=by
 refine KK ?_;have h1:=H7 a;have h2:=H7 b;have m1:RB^(AW a).length<=RB^max (AW a).length (AW b).length:=Ew (by decide) (Nat.le_max_left _ _);have m2:RB^(AW b).length<=RB^max (AW a).length (AW b).length:=Ew (by decide) (Nat.le_max_right _ _);rw[B9];generalize RB^max (AW a).length (AW b).length=q at*;unfold RB;omega
theorem Ua (a b:Nat):(AW (a-b)).length<=(AW a).length:=H6 _ _ (Nat.sub_le _ _)
theorem Q7 (a b:Nat):(AW (a*b)).length<=(AW a).length+(AW b).length:=by
 refine KK ?_;rw[FT];exact Nat.mul_lt_mul'' (H7 a) (H7 b)
theorem OX {n:Nat}(h0:n≠0)(h:n<RB):AW n=[n]:=by
 rw[H9 h0,DO h,Gh h,F3]
theorem Sr {l:List Nat}{k a:Nat}(hl:l.length=k+1)(ha:l[k]?=some a):AM l=AM (l.take k)+RB^k*a:=by
 rw[Mt ha,Gj (by omega)];simp[AM]
theorem pU {l:List Nat}{k a b:Nat}(hl:l.length=k+2)(ha:l[k]?=some a)(hb:l[k+1]?=some b):AM l=AM (l.take k)+RB^k*(a+RB*b):=by
 rw[Mt ha]
 have:l.drop (k+1)=[b]:=by
  rw[D9 (by omega),Gj (by omega)]
  congr 1
  exact(List.getElem?_eq_some_iff.1 hb).2
 rw[this];simp[AM]
theorem pV {l:List Nat}{k a b c:Nat}(hl:l.length=k+3)(ha:l[k]?=some a)(hb:l[k+1]?=some b)(hc:l[k+2]?=some c):AM l=AM (l.take k)+RB^k*(a+RB*(b+RB*c)):=by
 rw[Mt ha];have h1:=Sr (l:=l.drop (k+1)) (k:=1) (a:=c) (by rw[Dj];omega) (by rw[Gk,ED];exact hc);have h2:(l.drop (k+1)).take 1=[b]:=by
  rw[D9 (by omega)];simp only[List.take_succ_cons,MR]
  congr 1
  exact(List.getElem?_eq_some_iff.1 hb).2
 rw[h1,h2];simp[AM]
structure Jj (P v:List Nat)(m p0 p1 p2 v2 v1:Nat):Prop where
 lP:P.length=m+3
 lv:v.length=m+2
 wP:Rd P
 wv:Rd v
 h0:P[m]?=some p0
 h1:P[m+1]?=some p1
 h2:P[m+2]?=some p2
 g2:v[m]?=some v2
 g1:v[m+1]?=some v1
 top:0<v1
 less:AM P<AM v*RB
namespace Jj
variable {P v:List Nat} {m p0 p1 p2 v2 v1:Nat} (S:Jj P v m p0 p1 p2 v2 v1)
include S
theorem valP:AM P=AM (P.take m)+RB^m*(p0+RB*(p1+RB*p2)):=pV S.lP S.h0 S.h1 S.h2
theorem valv:AM v=AM (v.take m)+RB^m*(v2+RB*v1):=pU S.lv S.g2 S.g1
theorem lowP:AM (P.take m)<RB^m:=by
 have:=Fd (S.wP.take m)
 rwa [Bg,Ei (by have:=S.lP;omega)]at this
theorem lowv:AM (v.take m)<RB^m:=by
 have:=Fd (S.wv.take m)
 rwa [Bg,Ei (by have:=S.lv;omega)]at this
theorem p0l:p0<RB:=S.wP _ (A8 S.h0)
theorem p1l:p1<RB:=S.wP _ (A8 S.h1)
theorem p2l:p2<RB:=S.wP _ (A8 S.h2)
theorem v1l:v1<RB:=S.wv _ (A8 S.g1)
theorem v2l:v2<RB:=S.wv _ (A8 S.g2)
theorem below3:AM P<(p0+RB*(p1+RB*p2)+1)*RB^m:=by
 rw[S.valP,Bl,IV,BN (RB^m)]
 have:=S.lowP
 omega
theorem below2:AM P<(p1+RB*p2+1)*RB^(m+1):=by
 have h:=S.below3;have h1:=S.p0l;generalize p1+RB*p2=t at*;have h2:(p0+RB*t+1)*RB^m<=(RB*(t+1))*RB^m:=B8 _ (by rw[BH RB t 1];omega);have h3:(t+1)*RB^(m+1)=(RB*(t+1))*RB^m:=by rw[B9,BN (RB^m) RB,<-Bo,BN (t+1) RB]
 omega
theorem abovev:v1*RB^(m+1)<=AM v:=by
 rw[S.valv,B9,BH]
 have:v1*(RB^m*RB)=RB^m*(RB*v1):=by rw[BN v1,Bo]
 omega
theorem abovev2:(v2+RB*v1)*RB^m<=AM v:=by
 rw[S.valv,BN];omega
theorem pos:0<AM v:=CM (Gm S.top (Nat.pow_pos (by decide))) S.abovev
theorem p2v1:p2<=v1:=by
 rcases BL v1 p2 with h|h
 ·exfalso
  have e1:RB^(m+2)*p2<=AM P:=by
   rw[S.valP,BH,BH,BH]
   have:RB^(m+2)*p2=RB^m*(RB*(RB*p2)):=by rw[B9,B9,Bo,Bo]
   omega
  have e2:AM v<RB^(m+1)*(v1+1):=by
   have h1:=S.lowv;have h2:=S.v2l;have e3:RB^(m+1)*(v1+1)=RB^m*(RB*v1+RB):=by rw[B9,Bo,BH,Du]
   have e4:RB^m*(v2+RB*v1+1)<=RB^m*(RB*v1+RB):=CP _ (by omega);rw[BH _ _ 1,Du]at e4;rw[S.valv,e3];omega
  have e5:RB^(m+1)*(v1+1)*RB=RB^(m+2)*(v1+1):=by rw[Nat.mul_right_comm,<-B9]
  have e6:RB^(m+2)*(v1+1)<=RB^(m+2)*p2:=CP _ h;have e7:(AM v)*RB<=RB^(m+1)*(v1+1)*RB:=B8 _ (JC e2)
  have:=S.less
  omega
 ·exact h
end Jj
theorem bD {A P v:List Nat}{q i z x d b c b' c' lo:Nat}(hz:A[i]?=some z)(hx:v[i]?=some x)(hI:AM A+q*AM (v.take i)=AM P+RB^i*(c+b))
  (h1:lo+RB*c'=q*x+c) (h2:d+lo+b=z+RB*b'):AM (A.set i d)+q*AM (v.take (i+1))=AM P+RB^(i+1)*(c'+b'):=by
 have hs:=Mo (d:=d) hz;have hi:i<v.length:=(List.getElem?_eq_some_iff.1 hx).1;rw[El hx,GQ (i:=i) (by rw[Bg];omega),BH,Ho q,B9,Bo];have e:RB^i*(d+q*x+(c+b))=RB^i*(z+RB*(c'+b')):=by congr 1;rw[BH RB];omega
 rw[BH,BH,BH (RB^i) z]at e;omega
theorem bA {A P v:List Nat}{i z x c:Nat}(hz:A[i]?=some z)(hx:v[i]?=some x)(hI:AM A+RB^i*c=AM P+AM (v.take i)):
  AM (A.set i ((z+x+c)%RB))+RB^(i+1)*((z+x+c)/RB)=AM P+AM (v.take (i+1)):=by
 have hs:=Mo (d:=(z+x+c)%RB) hz;have hi:i<v.length:=(List.getElem?_eq_some_iff.1 hx).1;rw[El hx,GQ (i:=i) (by rw[Bg];omega),B9,Bo];have e:RB^i*((z+x+c)%RB+RB*((z+x+c)/RB))=RB^i*(z+x+c):=by rw[ET]
 rw[BH,BH,BH (RB^i) z]at e;omega
theorem b9 {n k:Nat}(h1:RB^k<=n)(h2:n<RB^(k+1)):(AW n).length=k+1:=by
 have h3:=KK h2;have h4:=DH h1 (H7 n);have h5:=(Nat.pow_lt_pow_iff_right (show 1<RB by decide)).1 h4;omega
theorem OY:∀(n:Nat) {k a:Nat},(AW n).length=k+1->(AW n)[k]?=some a->a≠0:=λn=>by
 induction n using Nat.strongRecOn with
 |ind n ih=>
  intro k a h1 h2
  by_cases h0:n=0
  ·subst h0;rw[F3]at h1;cases h1
  ·rw[H9 h0]at h1 h2
   rw[Bj]at h1;have h3:=Nat.succ.inj h1;cases k with
   |zero=>
    have h4:AW (n/RB)=[]:=FA h3;have h5:n/RB=0:=by rw[<-Dl (n/RB),h4];rfl
    have h6:=ET n RB;rw[h5]at h6;simp at h2;intro h7;subst h7;rw[h2]at h6;omega
   |succ k=>
    rw[JA]at h2;exact ih _ (HE (Di h0) (by decide)) h3 h2
theorem RJ {n k:Nat}(h:(AW n).length=k+1):RB^k<=n:=by
 obtain⟨a,ha⟩:=CG (l:=AW n) (i:=k) (by omega);have h1:=OY n h ha;have h2:=Sr h ha;rw[Dl]at h2;have h3:=CP (RB^k) (show 1<=a by omega);omega
theorem Oc {l:List Nat}{j a:Nat}(h:l[j]?=some a):AM (l.drop j)=a+RB*AM (l.drop (j+1)):=by
 have hj:j<l.length:=(List.getElem?_eq_some_iff.1 h).1;rw[D9 hj,(List.getElem?_eq_some_iff.1 h).2];rfl
theorem bQ {a q:List Nat}{j x b rest:Nat}(hb:0<b)(hx:a[j]?=some x)(hj:j<q.length)(hI:AM (q.drop (j+1))*b+rest=AM (a.drop (j+1))):
  AM ((q.set j ((rest*RB+x)/b)).drop j)*b+(rest*RB+x)%b=AM (a.drop j)/\(rest*RB+x)%b<b:=by
 refine⟨?_,Bs _ hb⟩;rw[PF hj,Oc hx,<-hI,AM];have e:=EC (rest*RB+x) b;rw[Bl,BH RB,Bo RB,BN RB rest,BN _ b];omega
structure Kv (X:Nat)(v U q:List Nat)(lu lq k:Nat):Prop where
 lU:U.length=lu
 lQ:q.length=lq
 wU:Rd U
 wq:Rd q
 val:RB^k*AM (q.drop k)*AM v+AM U=X
 less:AM (U.drop k)<AM v
theorem dU {X:Nat}{v U q:List Nat}{lu lq j m:Nat}(I:Kv X v U q lu lq (j+1))(hv:v.length=m+2)(wv:Rd v)(v1 v2:Nat)(h2:v[m]?=some v2)(h1:v[m+1]?=some v1)(ht:0<v1)(hj:j+(m+3)<=lu):
  ∃p0 p1 p2,Jj ((U.drop j).take (m+3)) v m p0 p1 p2 v2 v1/\AM (U.drop (j+(m+3)))=0/\AM ((U.drop j).take (m+3))=AM (U.drop j):=by
 obtain⟨lU,lQ,wU,wq,val,less⟩:=I;obtain⟨x,hx⟩:=CG (l:=U) (i:=j) (by omega);have hxl:=wU x (A8 hx);have e1:=Oc hx;have hlt:AM (U.drop j)<AM v*RB:=by
  have:RB*(AM (U.drop (j+1))+1)<=RB*AM v:=CP _ less
  rw[BH,BN RB (AM v)]at this;omega
 have hPl:((U.drop j).take (m+3)).length=m+3:=by rw[Bg,Dj];omega
 have e2:AM (U.drop j)=AM ((U.drop j).take (m+3))+RB^(m+3)*AM (U.drop (j+(m+3))):=by
  conv=>lhs;rw[<-Ef (m+3) (U.drop j)]
  rw[IZ,hPl,List.drop_drop]
 have hvl:=Fd wv;rw[hv]at hvl;have hz:AM (U.drop (j+(m+3)))=0:=by
  rcases DY (AM (U.drop (j+(m+3))))with h|h
  ·exact h
  ·exfalso
   have e3:RB^(m+3)*1<=RB^(m+3)*AM (U.drop (j+(m+3))):=CP _ h;have e4:AM v*RB<=RB^(m+2)*RB:=B8 _ (JC hvl);have e5:RB^(m+2)*RB=RB^(m+3):=(B9 RB (m+2)).symm;rw[e5]at e4;omega
 rw[hz,EE,DJ]at e2;obtain⟨p0,h0⟩:=CG (l:=(U.drop j).take (m+3)) (i:=m) (by omega);obtain⟨p1,h3⟩:=CG (l:=(U.drop j).take (m+3)) (i:=m+1) (by omega);obtain⟨p2,h4⟩:=CG (l:=(U.drop j).take (m+3)) (i:=m+2) (by omega);exact⟨p0,p1,p2,⟨hPl,hv,λa ha=>wU a (J4 (Hx ha)),wv,h0,h3,h4,h2,h1,ht,by rw[<-e2];exact hlt⟩,hz,e2.symm⟩
theorem dT {X:Nat}{v U q P':List Nat}{lu lq j m:Nat}(I:Kv X v U q lu lq (j+1))(hv:0<AM v)(hj:j+(m+3)<=lu)(hjq:j<lq)(hz:AM (U.drop (j+(m+3)))=0)(hP:AM ((U.drop j).take (m+3))=AM (U.drop j))
  (h1:P'.length=m+3) (h2:Rd P') (h3:AM P'=AM ((U.drop j).take (m+3))%AM v) (hd:AM ((U.drop j).take (m+3))/AM v<RB):
  Kv X v (U.take j++(P'++U.drop (j+(m+3)))) (q.set j (AM ((U.drop j).take (m+3))/AM v)) lu lq j:=by
 obtain⟨lU,lQ,wU,wq,val,less⟩:=I;have hA:(U.take j).length=j:=by rw[Bg];omega
 have e0:AM U=AM (U.take j)+RB^j*AM (U.drop j):=by
  conv=>lhs;rw[<-Ef j U]
  rw[IZ,hA]
 have e1:AM (P'++U.drop (j+(m+3)))=AM P':=by rw[IZ,hz,EE,DJ]
 refine⟨?_,by rw[DZ];exact lQ,?_,wq.set hd,?_,?_⟩
 ·rw[B1,B1,hA,h1,Dj];omega
 ·exact Rd.append (wU.take j) (Rd.append h2 λa ha=>wU a (J4 ha))
 ·rw[PF (by omega),AM,IZ,hA,e1,h3,hP]
  rw[e0]at val;have e2:=EC (AM (U.drop j)) (AM v);have e3:RB^(j+1)*AM (q.drop (j+1))*AM v=RB^j*(RB*AM (q.drop (j+1))*AM v):=by
   rw[B9,Bo,Bo,Bo]
  rw[e3]at val;have e4:RB^j*AM (U.drop j)=RB^j*(AM v*(AM (U.drop j)/AM v))+RB^j*(AM (U.drop j)%AM v):=by
   rw[<-BH,e2]
  rw[Bo,Bl,BH,BN (AM (U.drop j)/AM v)];omega
 ·rw[List.drop_left' hA,e1,h3]
  exact Bs _ hv
set_option maxHeartbeats 2000000
abbrev AX (n:Nat):D:=i64 (n:Int)
def rL (l:List Nat):D:=.sl false 1 (l.map AX)
def rD (n:Nat):D:=rL (AW n)
theorem NH (l:List Nat):Bw (rL l):=.sl λe he d hd=>by
 obtain⟨a,_,rfl⟩:=List.mem_map.1 he;simp only[D.cells,BA,DF,or_false]at hd;subst hd;exact .prim _
instance  (l:List Nat):AA (rL l):=⟨NH l⟩
instance  (n:Nat):AA (rD n):=⟨NH _⟩
theorem DV {l:List Nat}{i a:Nat}(h:l[i]?=some a):(l.map AX)[i]?=some (AX a):=by rw[BK,h];rfl
theorem Lt {l:List Nat}{i a:Nat}:(l.map AX).set i (AX a)=(l.set i a).map AX:=List.map_set.symm
theorem rX (c:Nat):((c:Int)==0)=decide (c=0):=by rw[FU,Dt,decide_eq_true_iff];omega
theorem R5 (m:List Nat):AM (m++[0])=AM m:=by rw[GQ rfl];simp
theorem XG {m:List Nat}{c:Nat}(h:Rd (m++[c]))(hc:c≠0):AW (AM (m++[c]))=m++[c]:=Ub h λa ha=>by
 rw[List.getLast?_append]at ha;simp at ha;rw[<-ha];exact hc
theorem Kh (l:List Nat)(h:Rd l)(hlen:l.length<4000000000):AK C0 228 [rL l] (rD (AM l)):=by
 refine Ai.walk w1 Yz rfl λF=>?_
 unfold rL;refine sR 0 ?_;refine AC.seq ?_;refine AC.block ?_;refine AC.loop (α:=List Nat×Nat) (λp=>⟨[(0,.sl false 1 (p.1.map AX))],[],p.2⟩) (λp=>p.1.length)
  (λp=>AM p.1=AM l/\Rd p.1/\p.1.length<=l.length) (l,_) ⟨rfl,h,Af _⟩ AL ?_
 rintro⟨m,n⟩ F ⟨h1,h2,h3⟩;dsimp only at h1 h2 h3⊢;refine AC.seq ?_;refine AC.seq ?_;rcases Qf m with rfl|⟨m,c,rfl⟩
 ·have e1:decide (((0:Nat):Int)>0)=false:=rfl
  refine Ak w1 100 (by kernel_rfl) ?_;refine AT e1 ?_;refine AD e1 ?_;refine AI ?_;refine By ?_;refine sR 300 ?_;refine Ab ?_;refine AN (d0:=rL []) ?_ AA.out;rw[<-h1];unfold rD;rw[show AM []=0 from rfl,F3]
 ·rw[Qe]at h1 h2 h3⊢
  have el:((((m++[c]).map AX).length:Nat):Int)=((m.length+1:Nat):Int):=by rw[An,B1];rfl
  rw[B1,GL]at h3;have e1:decide (((m.length+1:Nat):Int)>0)=true:=AZ (by omega);have wk:IntKind.i64.wrap (((m.length+1:Nat):Int)-1)=(m.length:Int):=by rw[wI (by omega) (by omega)];omega
  have wraw:IntKind.i64.wrap (((((m++[c]).map AX).length:Nat):Int)-1)=(m.length:Int):=by rw[el,wk]
  have hx:((m++[c]).map AX)[m.length]?=some (AX c):=DV (by simp);have ec:=rX c;refine Ak w1 100 (by kernel_rfl) ?_;refine AT (Ah el e1) ?_;refine AD (CH e1 wraw el wk kN) ?_;refine Bi e1 hx ?_;refine AD (CH e1 wraw el wk ec) ?_
  by_cases hc:c=0
  ·rw[AZ hc]
   subst hc;have e4:List.take (m.length-0) (List.drop 0 ((m++[0]).map AX))=m.map AX:=by simp
   have e5:List.take m.length ((m++[0]).map AX)=m.map AX:=by simp
   rw[R5]at h1;refine AI ?_;refine Aj ?_;refine AC.block ?_;refine Ak w1 200 (by kernel_rfl) ?_;refine AT (CH el wk wraw kN e4) ?_;exact⟨(m,_),⟨h1,λa ha=>h2 a (K9 _ ha),by dsimp only;omega⟩,by dsimp only;rw[B1,GL];omega,AL⟩
  ·rw[Ad hc]
   refine AI ?_;refine By ?_;refine sR 300 ?_;refine Ab ?_;refine AN (d0:=rL (m++[c])) ?_ AA.out;unfold rD;rw[<-h1,XG h2 hc]
theorem SG (l:List Nat)(i:Nat)(hlen:l.length<4000000000)(hi:i<4000000000):AK C0 295 [rL l,AX i] (AX (l.getD i 0)):=by
 refine Ai.walk w1 o8 rfl λF=>?_
 unfold rL;have el:(((l.map AX).length:Nat):Int)=(l.length:Int):=by rw[An]
 refine sR 0 ?_;refine AC.seq ?_;refine AC.seq ?_
 by_cases h:i<l.length
 ·have e1:decide ((i:Int)<(l.length:Int))=true:=AZ (by omega)
  obtain⟨a,ha⟩:=CG h;have hx:=DV ha;have eg:l.getD i 0=a:=by rw[ES,ha];rfl
  rw[eg];refine Ak w1 100 (by kernel_rfl) ?_;refine AT (Ah el e1) ?_;refine AI ?_;refine sZ 200 ?_;refine AD kN ?_;refine Bi kT hx ?_;refine AD kN ?_;refine Ab ?_;exact AN rfl AA.out
 ·have e1:decide ((i:Int)<(l.length:Int))=false:=Ad (by omega)
  have eg:l.getD i 0=0:=by rw[ES,DQ (by omega)];rfl
  rw[eg];refine Ak w1 100 (by kernel_rfl) ?_;refine AT (Ah el e1) ?_;refine AI ?_;refine Aj ?_;refine sR 300 ?_;refine Ab ?_;exact AN rfl AA.out
theorem QA (a b:Nat)(ha:(AW a).length<4000000000)(hb:(AW b).length<4000000000):AK C0 226 [rD a,rD b] (i64 (Dd a b)):=by
 refine Ai.walk w1 nr rfl λF=>?_
 have hwa:=EG a;have hwb:=EG b;have va:=Dl a;have vb:=Dl b;have hlt:=@Tx a b;have hgt:=@Tx b a;unfold rD rL Dd;generalize AW a=la at*;generalize AW b=lb at*;have ea:(((la.map AX).length:Nat):Int)=(la.length:Int):=by rw[An]
 have eb:(((lb.map AX).length:Nat):Int)=(lb.length:Int):=by rw[An]
 refine sR 0 ?_;refine AC.seq ?_;refine sZ 100 ?_;refine AT (Ah ea eb) ?_;refine AI ?_
 (refine Bn (λh10=>?_) (λh10=>?_))<;>(try simp only[Bc,Bk]at h10)<;>(try simp only[h10])
 ·have hne:la.length≠lb.length:=by
   have:(la.length:Int)≠lb.length:=by simpa using h10
   omega
  refine AC.seq ?_;refine sZ 200 ?_;refine AT (Ah ea eb) ?_;refine AI ?_
  (refine Bn (λh15=>?_) (λh15=>?_))<;>(try simp only[Bc,Bk]at h15)<;>(try simp only[h15])
  ·have h1:la.length<lb.length:=by
    have:(la.length:Int)<lb.length:=by simpa using h15
    omega
   rw[AF (by have:=hlt h1;omega)];refine sR 300 ?_;refine Ab ?_;exact AN rfl AA.out
  ·have h1:lb.length<la.length:=by
    have:¬(la.length:Int)<lb.length:=by simpa using h15
    omega
   have h2:=hgt h1;rw[AE (by omega),AF (by omega)];refine Aj ?_;refine sR 400 ?_;refine Ab ?_;exact AN rfl AA.out
 ·have hl:la.length=lb.length:=by
   have:(la.length:Int)=lb.length:=by simpa using h10
   omega
  clear hlt hgt;refine Aj ?_;refine AC.seq ?_;refine sZ 500 ?_;refine AT ea ?_;refine AC.block ?_;have w0:IntKind.i64.wrap ((la.length:Int)-1)=(la.length:Int)-1:=wI (by omega) (by omega);rw[w0];refine AC.loop (α:=Nat×Nat) (λp=>⟨[(0,.sl false 1 (la.map AX)),(1,.sl false 1 (lb.map AX)),(5,i64 ((p.1:Int)-1))],[],p.2⟩) (λp=>p.1)
   (λp=>p.1<=la.length/\la.drop p.1=lb.drop p.1) (la.length,_) ⟨Af _,by rw[JB,hl,JB]⟩ AL ?_
  rintro⟨k,m⟩ F ⟨h1,h2⟩;dsimp only at h1 h2⊢;refine AC.seq ?_;refine sR 600 ?_;refine AI ?_
  (refine Bn (λh20=>?_) (λh20=>?_))<;>(try simp only[Bc,Bk]at h20)<;>(try simp only[h20])
  ·obtain⟨j,rfl⟩:∃j,k=j+1:=⟨k-1,by
    have:(k:Int)-1>=0:=by simpa using h20
    omega⟩
   have wj:((j+1:Nat):Int)-1=(j:Int):=by omega
   obtain⟨x,hx⟩:∃x,la[j]?=some x:=⟨la[j],BD (by omega)⟩
   obtain⟨y,hy⟩:∃y,lb[j]?=some y:=⟨lb[j],BD (by omega)⟩
   have hx':=DV hx;have hy':=DV hy;rw[wj];refine Aj ?_;refine AC.seq ?_;refine AC.block ?_;refine AC.seq ?_;refine AC.seq ?_;refine Bx w1 800 [0,1,2,3,4,5,6,7] [8] (by kernel_rfl) ?_;refine AD kN ?_;refine Bi kT hx' ?_;refine AD kN ?_;refine Bi kT hy' ?_;refine AD kN ?_;refine AD kN ?_;refine AI ?_
   (refine Bn (λh31=>?_) (λh31=>?_))<;>(try simp only[Bc,Bk]at h31)<;>(try simp only[h31])
   ·have hxy:x<y:=by
     have:=Cs h31
     omega
    have:=T7 hwa hx hy h2 hxy
    rw[AF (by omega)];refine sR 900 ?_;refine Ab ?_;exact AN rfl AA.out
   ·have hxy0:¬x<y:=by
     have:=C7 h31
     omega
    refine Aj ?_;refine AC.seq ?_;refine Bx w1 1000 [0,1,2,3,4,5,6,7] [8] (by kernel_rfl) ?_;refine AD kN ?_;refine Bi kT hx' ?_;refine AD kN ?_;refine Bi kT hy' ?_;refine AD kN ?_;refine AD kN ?_;refine AI ?_
    (refine Bn (λh40=>?_) (λh40=>?_))<;>(try simp only[Bc,Bk]at h40)<;>(try simp only[h40])
    ·have hxy:y<x:=by
      have:=Cs h40
      omega
     have:=T7 hwb hy hx h2.symm hxy
     rw[AE (by omega),AF (by omega)];refine sR 1100 ?_;refine Ab ?_;exact AN rfl AA.out
    ·have hxy:x=y:=by
      have:=C7 h40
      omega
     subst hxy;have w5:IntKind.i64.wrap ((j:Int)-1)=(j:Int)-1:=wI (by omega) (by omega);refine Aj ?_;refine Ak w1 700 (by kernel_rfl) ?_;refine AT w5 ?_;have hj:=(List.getElem?_eq_some_iff.1 hx)
     have hj':=(List.getElem?_eq_some_iff.1 hy)
     refine⟨(j,_),⟨by dsimp only;omega,?_⟩,by dsimp only;omega,AL⟩;dsimp only;rw[D9 hj.1,D9 hj'.1,hj.2,hj'.2,h2]
  ·have hk:k=0:=by
    have:¬((k:Int)-1>=0):=by simpa using h20
    omega
   subst hk;have hab:a=b:=by
    rw[<-va,<-vb]
    have:la=lb:=by simpa using h2
    rw[this]
   subst hab;rw[AE (by omega),AE (by omega)];refine By ?_;refine sR 1200 ?_;refine Ab ?_;exact AN rfl AA.out
theorem Q8 (l:List Nat)(i:Nat):AM (l.take (i+1))=AM (l.take i)+RB^i*l.getD i 0:=by
 by_cases h:i<l.length
 ·obtain⟨a,ha⟩:=CG h
  rw[El ha,GQ (i:=i) (by rw[Bg];omega),ES,ha];rfl
 ·rw[B5 (by omega),B5 (by omega),ES,DQ (by omega)]
  simp
theorem RW {l:List Nat}(h:Rd l)(i:Nat):l.getD i 0<RB:=by
 by_cases hi:i<l.length
 ·obtain⟨a,ha⟩:=CG hi
  rw[ES,ha];exact h a (A8 ha)
 ·rw[ES,DQ (by omega)];decide
theorem VC (l:List Nat)(i:Nat):AM (l.take i)<=AM l:=by
 conv=>rhs;rw[<-Ef i l]
 rw[IZ];exact Nat.le_add_right _ _
theorem Uy {a i:Nat}(h:i<(AW a).length):RB^i<=a:=by
 obtain⟨k,hk⟩:∃k,(AW a).length=k+1:=⟨(AW a).length-1,by omega⟩
 exact BP (Ew (by decide) (by omega)) (RJ hk)
structure NI (a b:Nat)(i c:Nat)(out:List Nat):Prop where
 len:out.length=i
 wd:Rd out
 c1:c<=1
 val:AM out+RB^i*c=AM ((AW a).take i)+AM ((AW b).take i)
 can:i=0\/RB^(i-1)<=a+b
theorem gE {a b i c:Nat}{out:List Nat}(I:NI a b i c out)(h:i<(AW a).length\/i<(AW b).length\/0<c):
  NI a b (i+1) (((AW a).getD i 0+(AW b).getD i 0+c)/RB) (out++[((AW a).getD i 0+(AW b).getD i 0+c)%RB])/\(AW a).getD i 0+(AW b).getD i 0+c<2*RB:=by
 obtain⟨len,wd,c1,val,can⟩:=I;have h1:=RW (EG a) i;have h2:=RW (EG b) i;have hs:(AW a).getD i 0+(AW b).getD i 0+c<2*RB:=by omega
 have e1:=Q8 (AW a) i;have e2:=Q8 (AW b) i;have ta:=VC (AW a) i;have tb:=VC (AW b) i;rw[Dl]at ta tb;refine⟨⟨by rw[B1,len];rfl,Rd.append wd λx hx=>?_,?_,?_,.inr ?_⟩,hs⟩
 ·simp only[BA,DF,or_false]at hx
  subst hx;exact Bs _ (by decide)
 ·exact MY (Eg (by rw[BN];exact hs))
 ·rw[GQ len,e1,e2,B9,Bo]
  have e:=ET ((AW a).getD i 0+(AW b).getD i 0+c) RB;generalize(AW a).getD i 0=p at*;generalize(AW b).getD i 0=q at*;have e3:RB^i*((p+q+c)%RB+RB*((p+q+c)/RB))=RB^i*(p+q+c):=by rw[e]
  rw[BH,BH,BH (RB^i) p]at e3;omega
 ·rw[Hn]
  rcases h with h|h|h
  ·have:=Uy h;omega
  ·have:=Uy h;omega
  ·have hc:c=1:=by omega
   subst hc;rw[Du]at val;omega
theorem gD {a b i:Nat}{out:List Nat}(I:NI a b i 0 out)(h1:¬i<(AW a).length)(h2:¬i<(AW b).length):out=AW (a+b):=by
 obtain⟨len,wd,c1,val,can⟩:=I;rw[B5 (by omega),B5 (by omega),Dl,Dl,EE,DJ]at val;rcases Qf out with rfl|⟨m,c,rfl⟩
 ·rw[<-val];unfold AW;rfl
 ·rw[Qe]at*
  rw[B1,GL]at len;have hc:c≠0:=by
   intro hc;subst hc;rcases can with h|h
   ·omega
   ·rw[R5]at val
    have:=Fd (l:=m) λx hx=>wd x (K9 _ hx)
    rw[show i-1=m.length by omega]at h;omega
  rw[<-val,XG wd hc]
theorem rQ (a b:Nat)(ha:(AW a).length<1000000)(hb:(AW b).length<1000000):AK C0 269 [rD a,rD b] (rD (a+b)):=by
 refine Ai.walk w1 nN rfl λF=>?_
 have hT:Fz [] [] (rD a) (rD a):=.refl _;change AC C0 F none F _ ⟨C5 0 [.sl false 1 ((AW a).map AX),.sl false 1 ((AW b).map AX)],[],0⟩ _;have ea:((((AW a).map AX).length:Nat):Int)=((AW a).length:Int):=by rw[An]
 have eb:((((AW b).map AX).length:Nat):Int)=((AW b).length:Int):=by rw[An]
 have I0:NI a b 0 0 []:=⟨rfl,(λx hx=>Ae hx DF),BZ _,by simp[AM],.inl rfl⟩
 refine sR 0 ?_;refine sR 100 ?_;refine sR 200 ?_;refine AC.seq ?_;refine sR 300 ?_;refine AC.block ?_;refine AC.loop (α:=Nat×Nat×List Nat×List D×Nat×Nat) (λp=>⟨[(0,.sl false 1 ((AW a).map AX)),(1,.sl false 1 ((AW b).map AX)),(5,Dc 704 p.2.2.2.2.1 1 p.2.2.2.1),(6,AX p.2.1),(7,AX p.1)],DW 704 p.2.2.2.2.1 3 1 p.2.2.2.1,p.2.2.2.2.2⟩)
  (λp=>(max (AW a).length (AW b).length-p.1)*2+p.2.1) (λp=>NI a b p.1 p.2.1 p.2.2.1/\p.2.2.2.1=p.2.2.1.map AX/\p.1<=max (AW a).length (AW b).length+1) (0,0,[],[],0,_) ⟨I0,rfl,BZ _⟩ AL ?_
 rintro⟨i,c,out,L,g,n⟩ F ⟨I,hL,hi⟩;dsimp only at I hL hi⊢;have c1:=I.c1;have hol:=I.len;refine AC.seq ?_;refine Cj (α:=Nat) (λn=>⟨[(0,.sl false 1 ((AW a).map AX)),(1,.sl false 1 ((AW b).map AX)),(5,Dc 704 g 1 L),(6,AX c),(7,AX i),(22,Aq (decide (i<(AW a).length\/i<(AW b).length\/0<c)))],DW 704 g 3 1 L,n⟩) (λ_=>True) ?_ ?_
 ·generalize Dc 704 g 1 L=od at*
  generalize DW 704 g 3 1 L=oh at*
  by_cases h1:i<(AW a).length
  ·have e1:decide ((i:Int)<((AW a).length:Int))=true:=AZ (by omega)
   have e:decide (i<(AW a).length\/i<(AW b).length\/0<c)=true:=AZ (.inl h1);rw[e];refine Ak w1 400 (by kernel_rfl) ?_;refine AT (Ah ea e1) ?_;refine AD kT ?_;refine AD kT ?_;exact⟨trivial,_,trivial,AL⟩
  ·have e1:decide ((i:Int)<((AW a).length:Int))=false:=Ad (by omega)
   by_cases h2:i<(AW b).length
   ·have e2:decide ((i:Int)<((AW b).length:Int))=true:=AZ (by omega)
    have e:decide (i<(AW a).length\/i<(AW b).length\/0<c)=true:=AZ (.inr (.inl h2));rw[e];refine Ak w1 400 (by kernel_rfl) ?_;refine AT (Ah ea e1) ?_;refine AD kF ?_;simp only[eb,e2];refine AD kT ?_;exact⟨trivial,_,trivial,AL⟩
   ·have e2:decide ((i:Int)<((AW b).length:Int))=false:=Ad (by omega)
    have e:decide ((c:Int)>0)=decide (i<(AW a).length\/i<(AW b).length\/0<c):=by rw[Cn];omega
    rw[<-e];refine Ak w1 400 (by kernel_rfl) ?_;refine AT (Ah ea e1) ?_;refine AD kF ?_;simp only[eb,e2];refine AD kF ?_;exact⟨trivial,_,trivial,AL⟩
 rintro n2 -
 by_cases h:i<(AW a).length\/i<(AW b).length\/0<c
 ·obtain⟨J,hs⟩:=gE I h
  have d1:=SG (AW a) i (by omega) (by omega);have d2:=SG (AW b) i (by omega) (by omega);unfold rL at d1 d2;have hmu:∀c',c'<=1->(max (AW a).length (AW b).length<=i->c'=0)->(max (AW a).length (AW b).length-(i+1))*2+c'<(max (AW a).length (AW b).length-i)*2+c:=λc' h1 h2=>by
   rcases BL i (max (AW a).length (AW b).length)with h3|h3
   ·omega
   ·have:=h2 h3;omega
  have hmu2:max (AW a).length (AW b).length<=i->((AW a).getD i 0+(AW b).getD i 0+c)/RB=0:=λh3=>by
   rw[ES,DQ (by omega),ES,DQ (by omega)];show(0+0+c)/1000000000=0;omega
  have hbnd:i<max (AW a).length (AW b).length+1:=by
   rcases h with h|h|h
   ·omega
   ·omega
   ·rcases BL i (max (AW a).length (AW b).length+1)with h3|h3
    ·exact h3
    ·exfalso
     obtain⟨len,wd,_,val,_⟩:=I;have hc:c=1:=by omega
     subst hc;rw[B5 (by omega),B5 (by omega),Dl,Dl,Du]at val;have l1:=H7 a;have l2:=H7 b;have m1:RB^(AW a).length<=RB^max (AW a).length (AW b).length:=Ew (by decide) (Nat.le_max_left _ _);have m2:RB^(AW b).length<=RB^max (AW a).length (AW b).length:=Ew (by decide) (Nat.le_max_right _ _);have m3:RB^(max (AW a).length (AW b).length+1)<=RB^i:=Ew (by decide) h3;rw[B9]at m3;generalize RB^max (AW a).length (AW b).length=Q at*;change Q*1000000000<=_ at m3;omega
  have hmu3:=hmu _ J.c1 hmu2;rw[AZ h];generalize hp:(AW a).getD i 0=p at*;generalize hq:(AW b).getD i 0=q at*;have k1:IntKind.i64.wrap ((p:Int)+(q:Int))=((p+q:Nat):Int):=by rw[wI (by omega) (by unfold RB at hs;omega)];omega
  have k2:IntKind.i64.wrap (((p+q:Nat):Int)+(c:Int))=((p+q+c:Nat):Int):=by rw[wI (by omega) (by unfold RB at hs;omega)];omega
  have k3:((p+q+c:Nat):Int).tmod 1000000000=(((p+q+c)%RB:Nat):Int):=rfl;have k4:IntKind.i64.wrap (((p+q+c:Nat):Int).tdiv 1000000000)=(((p+q+c)/RB:Nat):Int):=by
   show IntKind.i64.wrap ((((p+q+c)/1000000000:Nat)):Int)=_;exact wN (by unfold RB at hs;omega)
  have wi:IntKind.i64.wrap ((i:Int)+1)=((i+1:Nat):Int):=wI (by omega) (by omega);generalize(p+q+c)%RB=d at*;generalize(p+q+c)/RB=c' at*;have hlo:L.length<=1000001:=by rw[hL,An];omega
  have hmo:L++[AX d]=(out++[d]).map AX:=by rw[hL,DP];rfl
  clear hmu hmu2 ea eb hL I;refine AI ?_;refine Aj ?_;refine AC.seq ?_;refine AC.block ?_;refine sR 600 ?_;refine cI d1 ?_;refine cI d2 ?_;simp only[k1,k2];refine AC.seq ?_;rcases L with _|⟨x,L⟩
  all_goals
   (try simp only[Bj]at hlo)
   dsimp only[IA,IB,Gu,Gv];refine Ak w1 700 (by kernel_rfl) ?_;refine AT k3 ?_;refine Ak w1 800 (by kernel_rfl) ?_;refine AT k4 ?_;refine Ak w1 500 (by kernel_rfl) ?_;refine AT wi ?_
  ·exact⟨(i+1,c',out++[d],[]++[AX d],_,_),⟨J,hmo,hbnd⟩,hmu3,AL⟩
  ·have htk:List.take (L.length+1) (x::L)=x::L:=by simp
   rw[htk];refine⟨(i+1,c',out++[d],x::L++[AX d],_,_),⟨J,hmo,hbnd⟩,hmu3,by(dsimp only;rw[Mk];exact AL)⟩
 ·rw[Ad h]
  have hc:c=0:=by omega
  subst hc;have hout:=gD I (by omega) (by omega);refine AI ?_;refine By ?_;refine sR 900 ?_;refine Ab ?_;refine⟨_,Po _ _ _ _ _,?_,?_⟩
  ·rw[hL];exact NH _
  ·rw[hL,hout];rfl
set_option maxHeartbeats 4000000
theorem qH {env:Ao}{t K g T n:Nat}{l:List D}(he:env.get t=Dc K g 1 l:=by exact rfl):Wk ⟨env,DW K g T 1 l,n⟩ ⟨[(t,.sl false 1 l)],[],n⟩:=by
 refine⟨?_,⟨?_,trivial⟩,Af _⟩
 ·cases l with
  |nil=>exact .nil
  |cons x l=>exact .drop .nil
 ·dsimp only
  rw[he];exact Po _ _ _ _ _
theorem kL {env:Ao}{t K g n N:Nat}{z:List Nat}{T:Nat}(hl:z.length=N)(he:env.get t=.osl K g 1 0 N:=by exact rfl):Wk ⟨env,[⟨K,g,T,1,z.map AX⟩],n⟩ ⟨[(t,.sl false 1 (z.map AX))],[],n⟩:=by
 subst hl;refine⟨.drop .nil,⟨?_,trivial⟩,Af _⟩;dsimp only;rw[he]
 have:=Pp K g T 1 (z.map AX)
 rwa [An]at this
theorem ba {a v c:Nat}(ha:a<RB)(hv:v<RB)(hc:c<=1):∃d c',d<RB/\c'<=1/\d+v+c=a+RB*c'/\((c'=0/\(a:Int)-v-c=d)\/(c'=1/\(a:Int)-v-c<0/\(a:Int)-v-c+1000000000=d)):=by
 unfold RB at ha hv⊢
 by_cases h:a<v+c
 ·exact⟨a+1000000000-v-c,1,by omega,by omega,by omega,.inr ⟨rfl,by omega,by omega⟩⟩
 ·exact⟨a-v-c,0,by omega,by omega,by omega,.inl ⟨rfl,by omega⟩⟩
theorem aG (a b:Nat)(hab:b<=a)(ha:(AW a).length<1000000):AK C0 270 [rD a,rD b] (rD (a-b)):=by
 refine Ai.walk w1 nO rfl λF=>?_
 change AC C0 F none F _ ⟨C5 0 [.sl false 1 ((AW a).map AX),.sl false 1 ((AW b).map AX)],[],0⟩ _;have hlb:=H6 b a hab;have va:=Dl a;have vb:=Dl b;have wx:=EG a;have wy:=EG b;generalize AW a=x at*;generalize AW b=y at*;have ea:(((x.map AX).length:Nat):Int)=(x.length:Int):=by rw[An]
 refine sR 0 ?_;refine sR 100 ?_;refine sR 200 ?_;refine AC.seq ?_;refine sR 300 ?_;refine AC.block ?_;refine AC.loop (α:=Nat×Nat×List Nat×List D×Nat×Nat) (λp=>⟨[(0,.sl false 1 (x.map AX)),(1,.sl false 1 (y.map AX)),(5,Dc 1103 p.2.2.2.2.1 1 p.2.2.2.1),(6,AX p.2.1),(7,AX p.1)],DW 1103 p.2.2.2.2.1 3 1 p.2.2.2.1,p.2.2.2.2.2⟩)
  (λp=>x.length-p.1) (λp=>p.1<=x.length/\p.2.1<=1/\p.2.2.1.length=p.1/\Rd p.2.2.1/\AM p.2.2.1+AM (y.take p.1)=AM (x.take p.1)+RB^p.1*p.2.1/\p.2.2.2.1=p.2.2.1.map AX) (0,0,[],[],0,_) ⟨BZ _,BZ _,rfl,(λx hx=>Ae hx DF),by simp[AM],rfl⟩ AL ?_
 rintro⟨i,c,out,L,g,n⟩ F ⟨hi,hc,hol,how,hI,hL⟩;dsimp only at hi hc hol how hI hL⊢;refine AC.seq ?_;refine AC.seq ?_
 by_cases h:i<x.length
 ·have e1:decide ((i:Int)<(x.length:Int))=true:=AZ (by omega)
  obtain⟨p,hp⟩:=CG h;have hx:=DV hp;have hpl:=wx p (A8 hp);have d2:=SG y i (by omega) (by omega);unfold rL at d2;have hql:=RW wy i;have ty:=Q8 y i;have tx:AM (x.take (i+1))=AM (x.take i)+RB^i*p:=by rw[El hp,GQ (i:=i) (by rw[Bg];omega)]
  generalize y.getD i 0=q at*;obtain⟨d,c',hd,hc',hdig,hcase⟩:=ba hpl hql hc;have k1:IntKind.i64.wrap ((p:Int)-(q:Int))=(p:Int)-q:=wI (by unfold RB at*;omega) (by unfold RB at*;omega);have k2:IntKind.i64.wrap ((p:Int)-q-(c:Int))=(p:Int)-q-c:=wI (by unfold RB at*;omega) (by unfold RB at*;omega);have wi:IntKind.i64.wrap ((i:Int)+1)=((i+1:Nat):Int):=wI (by omega) (by omega);have hlo:L.length<=1000001:=by rw[hL,An];omega
  have hmo:L++[AX d]=(out++[d]).map AX:=by rw[hL,DP];rfl
  have hvn:AM (out++[d])+AM (y.take (i+1))=AM (x.take (i+1))+RB^(i+1)*c':=by
   rw[GQ hol,ty,tx,B9,Bo];have e3:RB^i*(d+q+c)=RB^i*(p+RB*c'):=by rw[hdig]
   rw[BH,BH,BH (RB^i) p]at e3;omega
  have how':Rd (out++[d]):=Rd.append how λx hx=>by
   simp only[BA,DF,or_false]at hx;subst hx;exact hd
  have hol':(out++[d]).length=i+1:=by rw[B1,hol];rfl
  clear hI hL how;refine Ak w1 400 (by kernel_rfl) ?_;refine AT (Ah ea e1) ?_;refine AI ?_;refine Aj ?_;refine AC.seq ?_;refine AC.block ?_;refine AC.seq ?_;refine Bx w1 600 [0,1,2,3,4,5,6,7,8] [9,10] (by kernel_rfl) ?_;refine AD kN ?_;refine Bi kT hx ?_;refine AD kN ?_;refine BQ.same _ d2 AH ?_;refine AD (Ah k1 k2) ?_;refine sR 700 ?_;refine Cj (α:=Nat) (λn=>⟨[(0,.sl false 1 (x.map AX)),(1,.sl false 1 (y.map AX)),(5,Dc 1103 g 1 L),(6,AX c'),(7,AX i),(8,AX d)],DW 1103 g 3 1 L,n⟩) (λ_=>True) ?_ ?_
  ·generalize Dc 1103 g 1 L=od at*
   generalize DW 1103 g 3 1 L=oh at*;refine AC.seq ?_;rcases hcase with⟨rfl,h2⟩|⟨rfl,h2,h3⟩
   ·have e2:decide ((p:Int)-q-c<0)=false:=Ad (by omega)
    rw[h2]at e2;rw[h2];refine Ak w1 800 (by kernel_rfl) ?_;refine AT e2 ?_;refine AI ?_;refine Aj ?_;exact⟨rfl,_,trivial,AL⟩
   ·have e2:decide ((p:Int)-q-c<0)=true:=AZ h2
    have k3:IntKind.i64.wrap ((p:Int)-q-c+1000000000)=(d:Int):=by rw[h3];exact wI (by unfold RB at*;omega) (by unfold RB at*;omega)
    refine Ak w1 800 (by kernel_rfl) ?_;refine AT e2 ?_;refine AI ?_;refine sZ 900 ?_;refine AT k3 ?_;refine rI 1000 ?_;exact⟨rfl,_,trivial,AL⟩
  rintro n3 -;rcases L with _|⟨x0,L⟩
  all_goals
   (try simp only[Bj]at hlo)
   dsimp only[IA,IB,Gu,Gv];refine rI 1100 ?_;refine Ak w1 500 (by kernel_rfl) ?_;refine AT wi ?_
  ·exact⟨(i+1,c',out++[d],[]++[AX d],_,_),⟨h,hc',hol',how',hvn,hmo⟩,by dsimp only;omega,AL⟩
  ·have htk:List.take (L.length+1) (x0::L)=x0::L:=by simp
   rw[htk];refine⟨(i+1,c',out++[d],x0::L++[AX d],_,_),⟨h,hc',hol',how',hvn,hmo⟩,by dsimp only;omega,by(dsimp only;rw[Mk];exact AL)⟩
 ·have e1:decide ((i:Int)<(x.length:Int))=false:=Ad (by omega)
  have hix:i=x.length:=by omega
  subst hix;rw[B5 (by omega),B5 (by omega),va,vb]at hI;have hlt:=Fd how;rw[hol]at hlt;have hxl:=Fd wx;rw[va]at hxl;have hov:AM out=a-b:=by
   rcases DY c with h|h
   ·subst h;rw[EE]at hI;omega
   ·have:c=1:=by omega
    subst this;rw[Du]at hI;omega
  refine Ak w1 400 (by kernel_rfl) ?_;refine AT (Ah ea e1) ?_;refine AI ?_;refine By ?_;refine AC.weak ⟨[(5,.sl false 1 L)],[],_⟩ qH ?_;rw[hL];refine sR 1200 ?_;refine A7.same _ (Kh out how (by omega)) AH ?_;refine BJ ?_;refine Ab ?_;exact AN (by rw[hov]) AA.out
theorem S6 (a b:Nat)(hla:(AW a).length<1000000)(hlb:(AW b).length<1000000):AK C0 178 [rD a,rD b] (rD (a*b)):=by
 refine Ai.walk w1 mK rfl λF=>?_
 change AC C0 F none F _ ⟨C5 0 [.sl false 1 ((AW a).map AX),.sl false 1 ((AW b).map AX)],[],0⟩ _;have va:=Dl a;have vb:=Dl b;have ha:=EG a;have hb:=EG b;generalize AW a=x at*;generalize AW b=y at*;subst va;subst vb;have ea:(((x.map AX).length:Nat):Int)=(x.length:Int):=by rw[An]
 have eb:(((y.map AX).length:Nat):Int)=(y.length:Int):=by rw[An]
 have wl:IntKind.i64.wrap ((x.length:Int)+(y.length:Int))=((x.length+y.length:Nat):Int):=by rw[wI (by omega) (by omega)];omega
 have r3:List.replicate (x.length+y.length) (ofV (.int .i64 0))=(List.replicate (x.length+y.length) 0).map AX:=by rw[I8];rfl
 refine sR 0 ?_;refine sZ 100 ?_;refine AT (Ba ea eb wl kN) ?_;refine AC.seq ?_;refine sR 200 ?_;refine AC.block ?_;refine AC.loop (α:=Nat×List Nat×Nat) (λp=>⟨[(0,.sl false 1 (x.map AX)),(1,.sl false 1 (y.map AX)),(5,.osl 105 6 1 0 (x.length+y.length)),(6,i64 p.1)],[⟨105,6,3,1,p.2.1.map AX⟩],p.2.2⟩) (λp=>x.length-p.1)
  (λp=>p.1<=x.length/\p.2.1.length=x.length+y.length/\Rd p.2.1/\AM p.2.1=AM (x.take p.1)*AM y/\∀k,p.1+y.length<=k->∀d,p.2.1[k]?=some d->d=0) (0,List.replicate (x.length+y.length) 0,_)
  ⟨BZ _,by simp,RK _,by simp[AM,T8],λk _ d hd=>N8 (A8 hd)⟩ (by rw[<-r3];exact AL) ?_
 rintro⟨i,o,m⟩ F ⟨h1,h2,h3,h4,h5⟩;dsimp only at h1 h2 h3 h4 h5⊢;refine AC.seq ?_;refine AC.seq ?_
 by_cases hi:i<x.length
 ·have e1:decide ((i:Int)<(x.length:Int))=true:=AZ (by omega)
  obtain⟨p,hp⟩:=CG hi;have hp':=DV hp;have hpl:p<RB:=ha p (A8 hp);have wi:IntKind.i64.wrap ((i:Int)+1)=((i+1:Nat):Int):=wI (by omega) (by omega);have hax:AM (x.take (i+1))=AM (x.take i)+RB^i*p:=by rw[El hp,GQ (i:=i) (by rw[Bg];omega)]
  refine Ak w1 300 (by kernel_rfl) ?_;refine AT (Ah ea e1) ?_;refine AI ?_;refine Aj ?_;refine AC.seq ?_;refine AC.block ?_;refine sR 500 ?_;refine AC.seq ?_;refine sR 600 ?_;refine AC.block ?_;refine AC.loop (α:=Nat×Nat×List Nat×Nat) (λq=>⟨[(0,.sl false 1 (x.map AX)),(1,.sl false 1 (y.map AX)),(5,.osl 105 6 1 0 (x.length+y.length)),(6,i64 i),(7,AX q.2.1),(8,i64 q.1)],[⟨105,6,3,1,q.2.2.1.map AX⟩],q.2.2.2⟩) (λq=>y.length-q.1)
   (λq=>q.1<=y.length/\q.2.1<RB/\q.2.2.1.length=x.length+y.length/\Rd q.2.2.1/\AM q.2.2.1+RB^(i+q.1)*q.2.1=AM (x.take i)*AM y+RB^i*p*AM (y.take q.1)/\∀k,i+y.length<=k->∀d,q.2.2.1[k]?=some d->d=0) (0,0,o,_)
   ⟨BZ _,(show 0<RB by decide),h2,h3,by simp[AM,h4],h5⟩ AL ?_
  rintro⟨j,c,q,m2⟩ F ⟨g1,g2,g3,g4,g5,g6⟩;dsimp only at g1 g2 g3 g4 g5 g6⊢;clear h2 h3 h4 h5 r3 wl;refine AC.seq ?_;refine AC.seq ?_
  by_cases hj:j<y.length
  ·have e2:decide ((j:Int)<(y.length:Int))=true:=AZ (by omega)
   obtain⟨r,hr⟩:=CG hj;have hr':=DV hr;have hrl:r<RB:=hb r (A8 hr);obtain⟨z,hz⟩:=CG (l:=q) (i:=i+j) (by omega);have hz':=DV hz;have hzl:z<RB:=g4 z (A8 hz);have wj:IntKind.i64.wrap ((j:Int)+1)=((j+1:Nat):Int):=wI (by omega) (by omega);have wij:IntKind.i64.wrap ((i:Int)+(j:Int))=((i+j:Nat):Int):=by rw[wI (by omega) (by omega)];omega
   have hbx:AM (y.take (j+1))=AM (y.take j)+RB^j*r:=by rw[El hr,GQ (i:=j) (by rw[Bg];omega)]
   have hpr:p*r<=999999999*999999999:=Hz (by unfold RB at hpl;omega) (by unfold RB at hrl;omega);have k0:IntKind.i64.wrap ((p:Int)*(r:Int))=((p*r:Nat):Int):=by rw[<-FW,wI (by omega) (by omega)]
   have k1:IntKind.i64.wrap ((z:Int)+((p*r:Nat):Int))=((z+p*r:Nat):Int):=by rw[wI (by omega) (by unfold RB at*;omega)];omega
   have k2:IntKind.i64.wrap (((z+p*r:Nat):Int)+(c:Int))=((z+p*r+c:Nat):Int):=by rw[wI (by omega) (by unfold RB at*;omega)];omega
   have hs:=Mo (d:=(z+p*r+c)%RB) hz;have e:=ET (z+p*r+c) RB;have hq:(z+p*r+c)/RB<RB:=Eg (by unfold RB at*;omega);have hd:(z+p*r+c)%RB<RB:=Bs _ (by decide);have k3:((z+p*r+c:Nat):Int).tmod 1000000000=(((z+p*r+c)%RB:Nat):Int):=rfl;have k4:IntKind.i64.wrap (((z+p*r+c:Nat):Int).tdiv 1000000000)=(((z+p*r+c)/RB:Nat):Int):=by
    show IntKind.i64.wrap ((((z+p*r+c)/1000000000:Nat)):Int)=_;exact wN (by change(z+p*r+c)/RB<=_;unfold RB at hq⊢;omega)
   have hval:AM (q.set (i+j) ((z+p*r+c)%RB))+RB^(i+(j+1))*((z+p*r+c)/RB)=AM (x.take i)*AM y+RB^i*p*AM (y.take (j+1)):=by
    rw[hbx,BH,<-ED (AM (x.take i)*AM y),<-g5];have h6:RB^(i+j)*((z+p*r+c)%RB)+RB^(i+(j+1))*((z+p*r+c)/RB)=RB^i*p*(RB^j*r)+RB^(i+j)*z+RB^(i+j)*c:=by
     have:RB^i*p*(RB^j*r)=RB^(i+j)*(p*r):=by
      rw[FT,Bo,Bo,Ho p]
     rw[this,<-ED i j 1,B9,Bo,<-BH,<-BH,<-BH,e]
     congr 1;omega
    omega
   generalize(z+p*r+c)%RB=d at*;generalize(z+p*r+c)/RB=c' at*;clear hs e g5 hax hbx;refine Ak w1 700 (by kernel_rfl) ?_;refine AT (Ah eb e2) ?_;refine AI ?_;refine Aj ?_;refine AC.seq ?_;refine AC.block ?_;refine AC.seq ?_;refine Bx w1 900 [0,1,2,3,4,5,6,7,8,9,10,11,12,13,14,15,16] [17,18] (by kernel_rfl) ?_;refine AD (Ba wij kN BT hz') ?_;refine Bi kT hp' ?_;refine AD (Ba wij kN BT hz') ?_;refine Bi kT hr' ?_;refine AD (Ar k0 k1 k2) ?_;refine sZ 1000 ?_;refine AD (CH wij kN BT hz' k3) ?_;rw[Lt];refine Ak w1 1100 (by kernel_rfl) ?_;refine AT k4 ?_;refine Ak w1 800 (by kernel_rfl) ?_;refine AT wj ?_;refine⟨(j+1,c',q.set (i+j) d,_),⟨hj,hq,by dsimp only;rw[DZ];exact g3,g4.set hd,hval,λk hk d hd=>?_⟩,by dsimp only;omega,AL⟩;dsimp only at hk hd;rw[Hw (by omega)]at hd;exact g6 k hk d hd
  ·have e2:decide ((j:Int)<(y.length:Int))=false:=Ad (by omega)
   have hj:j=y.length:=by omega
   subst hj;obtain⟨z,hz⟩:=CG (l:=q) (i:=i+y.length) (by omega);have hz0:z=0:=g6 _ (Af _) _ hz;subst hz0;have hz':=DV hz;have wij:IntKind.i64.wrap ((i:Int)+(y.length:Int))=((i+y.length:Nat):Int):=by rw[wI (by omega) (by omega)];omega
   have wij0:IntKind.i64.wrap ((i:Int)+(((y.map AX).length:Nat):Int))=((i+y.length:Nat):Int):=by rw[eb];exact wij
   have k1:IntKind.i64.wrap (((0:Nat):Int)+(c:Int))=(c:Int):=by rw[wI (by omega) (by unfold RB at*;omega)];omega
   have hs:=Mo (d:=c) hz;rw[B5 (Af _)]at g5;have hval:AM (q.set (i+y.length) c)=AM (x.take (i+1))*AM y:=by
    rw[hax,Bl];omega
   clear hs g5 hax;refine Ak w1 700 (by kernel_rfl) ?_;refine AT (Ah eb e2) ?_;refine AI ?_;refine By ?_;refine Ak w1 1200 (by kernel_rfl) ?_;refine AD (EU eb wij kN BT hz' k1) ?_;rw[Lt];refine Ak w1 400 (by kernel_rfl) ?_;refine AT wi ?_;refine⟨(i+1,q.set (i+y.length) c,_),⟨hi,by dsimp only;rw[DZ];exact g3,g4.set g2,hval,λk hk d hd=>?_⟩,by dsimp only;omega,AL⟩;dsimp only at hk hd;rw[Hw (by omega)]at hd;exact g6 k (by omega) d hd
 ·have e1:decide ((i:Int)<(x.length:Int))=false:=Ad (by omega)
  have hi:i=x.length:=by omega
  subst hi;rw[B5 (Af _)]at h4;refine Ak w1 300 (by kernel_rfl) ?_;refine AT (Ah ea e1) ?_;refine AI ?_;refine By ?_;refine AC.weak ⟨[(5,.sl false 1 (o.map AX))],[],_⟩ (kL h2) ?_;refine sR 1300 ?_;refine A7.same _ (Kh o h3 (by omega)) AH ?_;refine BJ ?_;refine Ab ?_;exact AN (by rw[h4]) AA.out
theorem Ng (a b:Nat)(h:a/b<=9223372036854775807):IntKind.i64.wrap ((a:Int).tdiv (b:Int))=((a/b:Nat):Int):=by
 rw[<-Int.ofNat_tdiv];exact wN h
theorem QF (a b:Nat):(a:Int).tmod (b:Int)=((a%b:Nat):Int):=(Int.ofNat_tmod a b).symm
theorem iu {env:Ao}{t K g n N t2:Nat}{z:List Nat}{T:Nat}{d2:D}(hl:z.length=N)(he:env.get t=.osl K g 1 0 N:=by exact rfl)(h2:env.get t2=d2:=by exact rfl):Wk ⟨env,[⟨K,g,T,1,z.map AX⟩],n⟩ ⟨[(t,.sl false 1 (z.map AX)),(t2,d2)],[],n⟩:=by
 subst hl;refine⟨.drop .nil,⟨?_,?_,trivial⟩,Af _⟩
 ·dsimp only
  rw[he]
  have:=Pp K g T 1 (z.map AX)
  rwa [An]at this
 ·dsimp only
  rw[h2];exact .refl _
theorem iF {r p d:Nat}(h:r*RB+p<d*RB)(hd:d<RB):IntKind.i64.wrap ((r:Int)*1000000000)=((r*RB:Nat):Int)/\IntKind.i64.wrap (((r*RB:Nat):Int)+(p:Int))=((r*RB+p:Nat):Int):=by
 unfold RB at*;refine⟨?_,?_⟩
 ·rw[wI (by omega) (by omega)];omega
 ·rw[wI (by omega) (by omega)];omega
theorem UR (a d:Nat)(hd:0<d)(hdl:d<RB)(hl:(AW a).length<1000000):AK C0 227 [rD a,AX d] (.tup [rD (a/d),AX (a%d)]):=by
 refine Ai.walk w1 ns rfl λF=>?_
 change AC C0 F none F _ ⟨C5 0 [.sl false 1 ((AW a).map AX),AX d],[],0⟩ _;have va:=Dl a;have wa:=EG a;generalize AW a=x at*;have ea:(((x.map AX).length:Nat):Int)=(x.length:Int):=by rw[An]
 have wl:IntKind.i64.wrap ((x.length:Int)-1)=(x.length:Int)-1:=wI (by omega) (by omega);have r3:List.replicate x.length (ofV (.int .i64 0))=(List.replicate x.length 0).map AX:=by rw[I8];rfl
 have d0:¬(d:Int)=0:=by omega
 refine sR 0 ?_;refine sZ 100 ?_;refine AT (Ah ea kN) ?_;refine sR 200 ?_;refine AC.seq ?_;refine sZ 300 ?_;refine AT (Ah ea wl) ?_;refine AC.block ?_;refine AC.loop (α:=Nat×Nat×List Nat×Nat) (λp=>⟨[(0,.sl false 1 (x.map AX)),(1,AX d),(6,.osl 102 4 1 0 x.length),(7,AX p.2.1),(8,i64 ((p.1:Int)-1))],[⟨102,4,3,1,p.2.2.1.map AX⟩],p.2.2.2⟩) (λp=>p.1)
  (λp=>p.1<=x.length/\p.2.1<d/\p.2.2.1.length=x.length/\Rd p.2.2.1/\AM (p.2.2.1.drop p.1)*d+p.2.1=AM (x.drop p.1)) (x.length,0,List.replicate x.length 0,_)
  ⟨Af _,hd,by simp,RK _,by simp[AM]⟩ (by rw[<-r3];exact AL) ?_
 rintro⟨k,r,q,m⟩ F ⟨h1,h2,h3,h4,h5⟩;dsimp only at h1 h2 h3 h4 h5⊢;clear ea wl r3;refine AC.seq ?_;refine sR 400 ?_;refine AI ?_
 (refine Bn (λh20=>?_) (λh20=>?_))<;>(try simp only[Bc,Bk]at h20)<;>(try simp only[h20])
 ·obtain⟨j,rfl⟩:∃j,k=j+1:=⟨k-1,by
   have:=Cs h20
   omega⟩
  have wj:((j+1:Nat):Int)-1=(j:Int):=by omega
  obtain⟨p,hp⟩:=CG (l:=x) (i:=j) (by omega);obtain⟨z,hz⟩:=CG (l:=q) (i:=j) (by omega);have hp':=DV hp;have hz':=DV hz;have hpl:=wa p (A8 hp);obtain⟨J1,J2⟩:=bQ hd hp (by omega) h5;have hsb:r*RB+p<d*RB:=by
   have:(r+1)*RB<=d*RB:=B8 _ h2
   rw[Bl]at this;omega
  have hql:(r*RB+p)/d<RB:=Eg hsb;obtain⟨k1,k2⟩:=iF hsb hdl;have k3:=Ng (r*RB+p) d (BP (JC hql) (by decide));have k4:=QF (r*RB+p) d;have wi:IntKind.i64.wrap ((j:Int)-1)=(j:Int)-1:=wI (by omega) (by omega);generalize(r*RB+p)/d=e at*;generalize(r*RB+p)%d=r' at*;rw[wj];refine Aj ?_;refine AC.seq ?_;refine AC.block ?_;refine sZ 600 ?_;refine AD kN ?_;refine Bi kT hp' ?_;refine AD (Ah k1 k2) ?_;refine sZ 700 ?_;refine AD (Ba kN BT hz' k3) ?_;rw[Lt];refine Ak w1 800 (by kernel_rfl) ?_;refine AT k4 ?_;refine Ak w1 500 (by kernel_rfl) ?_;refine AT wi ?_;exact⟨(j,r',q.set j e,_),⟨by dsimp only;omega,J2,by dsimp only;rw[DZ];exact h3,h4.set hql,J1⟩,by dsimp only;omega,AL⟩
 ·have hk:k=0:=by
   have:=C7 h20
   omega
  subst hk;rw[FC,FC,va]at h5;obtain⟨q1,q2⟩:=Ou h5 h2;refine By ?_;refine AC.weak ⟨[(6,.sl false 1 (q.map AX)),(7,AX r)],[],_⟩ (iu h3) ?_;refine sR 900 ?_;refine A7.same _ (Kh q h4 (by omega)) AH ?_;refine BJ ?_;refine Ab ?_;exact AN (by rw[q1,q2]) AA.out
structure In (U V n2 v1 p1 q r:Nat):Prop where
 eq:q*v1+r=n2
 up:U<(q+1)*V
 cap:n2<=v1*RB+p1
 p1l:p1<RB
namespace In
variable {U V n2 v1 p1 q r:Nat} (G:In U V n2 v1 p1 q r)
include G
theorem small (h:RB<=r):q<RB:=by
 rcases BL q RB with h1|h1
 ·exact h1
 ·exfalso
  have h2:=B8 v1 h1;have h3:=G.eq;have h4:=G.cap;have h5:=G.p1l;rw[BN RB v1]at h2;omega
theorem qle (hv:0<v1):q<=2*RB:=by
 rcases BL (2*RB) q with h1|h1
 ·exfalso
  have h2:=B8 v1 h1;have h3:=G.eq;have h4:=G.cap;have h5:=G.p1l;have h6:RB*1<=RB*v1:=CP _ hv;rw[Nat.succ_mul,Bo,BN RB v1]at h2;rw[BN RB v1]at h6;omega
 ·exact h1
end In
section
variable {P v:List Nat} {m p0 p1 p2 v2 v1:Nat} (S:Jj P v m p0 p1 p2 v2 v1)
include S
theorem bX:In (AM P) (AM v) (p1+RB*p2) v1 p1 ((p2*RB+p1)/v1) ((p2*RB+p1)%v1):=by
 have c0:p2*RB+p1=p1+RB*p2:=by rw[BN,J7]
 rw[c0];have e:=EC (p1+RB*p2) v1;have l:=Bs (p1+RB*p2) S.top;have c1:=BN v1 ((p1+RB*p2)/v1);refine⟨by omega,UI S.below2 S.abovev ?_,?_,S.p1l⟩
 ·rw[Bl];omega
 ·have:=CP RB S.p2v1
  rw[BN v1];omega
theorem br {q r:Nat}(G:In (AM P) (AM v) (p1+RB*p2) v1 p1 q r)(h:RB<=q\/r*RB+p0<q*v2):0<q/\In (AM P) (AM v) (p1+RB*p2) v1 p1 (q-1) (r+v1):=by
 obtain⟨e,u,cp,pl⟩:=G;have hq:0<q:=by
  rcases h with h|h
  ·unfold RB at h;omega
  ·rcases DY q with h0|h0
   ·subst h0;omega
   ·exact h0
 obtain⟨k,rfl⟩:∃k,q=k+1:=⟨q-1,by omega⟩
 refine⟨hq,⟨?_,?_,cp,pl⟩⟩
 ·rw[Hn,<-e,Bl];omega
 ·rw[Hn]
  rcases h with h|h
  ·have h1:AM v*RB<=(k+1)*AM v:=by rw[BN];exact B8 _ h
   have:=S.less
   omega
  ·have e2:(k+1)*(v2+RB*v1)=(k+1)*v2+RB*((k+1)*v1):=by rw[BH,Ho]
   refine Ui S.below3 S.abovev2 ?_;rw[e2,<-e,BH RB,BN RB r];omega
theorem UJ {q r:Nat}(G:In (AM P) (AM v) (p1+RB*p2) v1 p1 q r)(h:RB<=r\/(q<RB/\q*v2<=r*RB+p0)):q<RB/\q*AM v<=AM P+AM v:=by
 have hqB:q<RB:=by
  rcases h with h|h
  ·exact G.small h
  ·exact h.1
 obtain⟨e,u,cp,pl⟩:=G;have h5:=S.v2l;have hq:q*v2<=r*RB+p0:=by
  rcases h with h|h
  ·have h2:q*v2<=RB*RB:=Hz (by omega) (by omega)
   have h3:RB*RB<=r*RB:=B8 _ h;omega
  ·exact h.2
 have e2:q*(v2+RB*v1)=q*v2+RB*(q*v1):=by rw[BH,Ho]
 refine⟨hqB,VR (n3:=p0+RB*(p1+RB*p2)) (D:=v2+RB*v1) (P:=RB^m) (B:=RB) (v:=AM (v.take m)) ?_ ?_ S.lowv ?_ (by omega) ?_⟩
 ·rw[S.valP,BN];omega
 ·rw[S.valv,BN];omega
 ·rw[e2,<-e,BH RB,BN RB r]
  omega
 ·have:=S.top
  have h1:=CP RB (show 1<=v1 from this);omega
end
theorem C8.of {H:Hp}{d0 d:D}(h:Fz H [] d0 d):C8 H d0 d:=λ_ _ _ _ m hO hN _ hv=>h.rep m hO (λe he b hb _=>hN e he b hb) hv
theorem uR {C:A0}{f:Nat}{ds ds':List D}{Φ:D->Prop}{H:Hp}{n:Nat}(hc:Ai C f ds' Φ)(hl:ds'.length=ds.length)(hv:∀(i:Nat) (a b:D),ds[i]?=some a->ds'[i]?=some b->C8 H a b)
  (hp:Ac ds') (hflat:∀d,Φ d->Ix d):CQ C f ds H n (λd' H' n'=>Φ d'/\H'=H/\n'=n+1):=by
 refine⟨hc.1,λF ρ w vs m hfr hg hvs hr=>?_⟩;have hH:CT H [] H []:=by
  generalize H=H0
  have:∀H1:Hp,CT H0 [] H1 []:=λH1=>by
   induction H1 with
   |nil=>exact .nil
   |cons e r ih=>exact .drop ih
  exact this H0
 obtain⟨m',hO,hN⟩:=hH.mem m;refine(hc.2 (AJ F.X ρ []) w vs m.g (BP m.gn m.size) (λb hb=>m'.own_lt hb) (by omega) λi x hx=>?_).mono ?_
 ·have hi:i<ds'.length:=(List.getElem?_eq_some_iff.1 hx).1
  have hd0:ds[i]?=some ds[i]:=BD (by omega);exact hp.out x (A8 hx) _ _ _ _ _ (hv i _ x hd0 hx C F ρ w m hO (λe he b hb=>hN e he b hb rfl) _ (hr i _ hd0))
 ·rintro e w' ⟨v,d',rfl,hb,hd',rep⟩
  have x:BO ρ (AJ F.X ρ H) w ρ (AJ F.X ρ H) w':=⟨hb.size,λ_ _ _ h=>h,λb hb' hO=>⟨hO,hb.block b hb'⟩,λb cs T fz hh=>⟨cs,_,by
   rw[hb.block b (Array.getElem?_eq_some_iff.1 hh).1];exact hh,rfl⟩⟩
  exact⟨v,_,H,n+1,ρ,rfl,⟨hd',rfl,rfl⟩,m.same x hb.os hb.tape hb.output hb.block,x,λk g hg'=>hfr k g (by omega),λe he=>Cv (hg e he),hflat _ hd' _ _ _ _ _ _ _ rep⟩
def Vo (P v:List Nat)(d:D):Prop:=∃q,d=AX q/\q<RB/\AM P<(q+1)*AM v/\q*AM v<=AM P+AM v
theorem fX {p2 p1 v1:Nat}(h1:p1<RB)(h2:p2<RB):IntKind.i64.wrap ((p2:Int)*1000000000)=((p2*RB:Nat):Int)/\IntKind.i64.wrap (((p2*RB:Nat):Int)+(p1:Int))=((p2*RB+p1:Nat):Int) /\
  IntKind.i64.wrap (((p2*RB+p1:Nat):Int).tdiv (v1:Int))=(((p2*RB+p1)/v1:Nat):Int):=by
 have h3:=GH (p2*RB+p1) v1;unfold RB at*;refine⟨?_,?_,?_⟩
 ·rw[wI (by omega) (by omega)];omega
 ·rw[wI (by omega) (by omega)];omega
 ·exact Ng _ _ (by omega)
theorem dL {t r v2 p0:Nat}(ht:t<RB)(hr:r<RB)(h2:v2<RB)(h0:p0<RB):IntKind.i64.wrap ((t:Int)*(v2:Int))=((t*v2:Nat):Int)/\IntKind.i64.wrap ((r:Int)*1000000000)=((r*RB:Nat):Int) /\
  IntKind.i64.wrap (((r*RB:Nat):Int)+(p0:Int))=((r*RB+p0:Nat):Int):=by
 have h3:t*v2<=999999999*999999999:=Hz (by unfold RB at ht;omega) (by unfold RB at h2;omega);unfold RB at*;refine⟨?_,?_,?_⟩
 ·rw[<-FW,wI (by omega) (by omega)]
 ·rw[wI (by omega) (by omega)];omega
 ·rw[wI (by omega) (by omega)];omega
theorem jz {t v2 r p0:Nat}(h:t<RB):decide (((t*v2:Nat):Int)>((r*RB+p0:Nat):Int))=decide (RB<=t\/r*RB+p0<t*v2):=
 Cn.2 ⟨λh1=>.inr (Int.ofNat_lt.1 h1),λh1=>Int.ofNat_lt.2 (h1.resolve_left (Nat.not_le.2 h))⟩
theorem kA {t v2 r p0:Nat}(h:¬(RB<=t\/r*RB+p0<t*v2)):t<RB/\t*v2<=r*RB+p0:=⟨Nat.lt_of_not_le λh1=>h (.inl h1),Nat.le_of_not_lt λh1=>h (.inr h1)⟩
theorem kC {P v:List Nat}{m p0 p1 p2 v2 v1:Nat}(S:Jj P v m p0 p1 p2 v2 v1):∃a1 T q0 r0:Nat,IntKind.i64.wrap ((p2:Int)*1000000000)=(a1:Int)/\IntKind.i64.wrap ((a1:Int)+(p1:Int))=(T:Int) /\
  IntKind.i64.wrap ((T:Int).tdiv (v1:Int))=(q0:Int)/\(T:Int).tmod (v1:Int)=(r0:Int)/\In (AM P) (AM v) (p1+RB*p2) v1 p1 q0 r0/\r0<RB:=by
 obtain⟨k1,k2,k3⟩:=fX (v1:=v1) S.p1l S.p2l;exact⟨_,_,_,_,k1,k2,k3,QF _ v1,bX S,FS (Bs _ S.top) S.v1l⟩
theorem ik {t r v2 p0:Nat}(ht:t<RB)(hr:r<RB)(h2:v2<RB)(h0:p0<RB):∃a1 a2 a3:Nat,IntKind.i64.wrap ((t:Int)*(v2:Int))=(a3:Int)/\IntKind.i64.wrap ((r:Int)*1000000000)=(a1:Int) /\
  IntKind.i64.wrap ((a1:Int)+(p0:Int))=(a2:Int)/\decide ((a3:Int)>(a2:Int))=decide (RB<=t\/r*RB+p0<t*v2):=by
 obtain⟨q1,q2,q3⟩:=dL ht hr h2 h0;exact⟨_,_,_,q1,q2,q3,jz ht⟩
theorem jL (U v:List Nat)(j m p0 p1 p2 v2 v1:Nat)(S:Jj ((U.drop j).take (m+3)) v m p0 p1 p2 v2 v1)(hj:j+(m+3)<=U.length)(hU:U.length<4000000):Ai C0 229 [rL U,rL v,AX j] (Vo ((U.drop j).take (m+3)) v):=by
 refine Ai.walk w1 nu rfl λF=>?_
 unfold rL;have hg:∀ {k p:Nat},((U.drop j).take (m+3))[k]?=some p->U[j+k]?=some p:=λ{k p} h=>by
  rw[EQ]at h;split at h
  ·rwa [Gk]at h
  ·cases h
 have u0:=DV (hg S.h0);have u1:=DV (hg S.h1);have u2:=DV (hg S.h2);have y1:=DV S.g1;have y2:=DV S.g2;have l0:=S.p0l;have l1:=S.p1l;have l2:=S.p2l;have lv1:=S.v1l;have lv2:=S.v2l;have ev:(((v.map AX).length:Nat):Int)=((m+2:Nat):Int):=by rw[An,S.lv]
 have eu:(((U.map AX).length:Nat):Int)=(U.length:Int):=by rw[An]
 have w0:IntKind.i64.wrap ((j:Int)+((m+2:Nat):Int))=((j+(m+2):Nat):Int):=by rw[wI (by omega) (by omega)];omega
 have wa:IntKind.i64.wrap (((j+(m+2):Nat):Int)-1)=((j+(m+1):Nat):Int):=by rw[wI (by omega) (by omega)];omega
 have wb:IntKind.i64.wrap (((j+(m+2):Nat):Int)-2)=((j+m:Nat):Int):=by rw[wI (by omega) (by omega)];omega
 have wc:IntKind.i64.wrap (((m+2:Nat):Int)-1)=((m+1:Nat):Int):=by rw[wI (by omega) (by omega)];omega
 have wd:IntKind.i64.wrap (((m+2:Nat):Int)-2)=(m:Int):=by rw[wI (by omega) (by omega)];omega
 have ra:IntKind.i64.wrap (IntKind.i64.wrap ((j:Int)+((m+2:Nat):Int))-1)=((j+(m+1):Nat):Int):=by rw[w0,wa]
 have rb:IntKind.i64.wrap (IntKind.i64.wrap ((j:Int)+((m+2:Nat):Int))-2)=((j+m:Nat):Int):=by rw[w0,wb]
 obtain⟨a1,T,q0,r0,k1,k2,k3,k4,G0,hr0⟩:=kC S;have v0:¬(v1:Int)=0:=by have:=S.top;omega
 have hvl:=S.lv;refine sR 0 ?_;refine sZ 100 ?_;refine AT ev ?_;refine AC.seq ?_;refine Bx w1 200 [0,1,2,3,4,5,6,7,8,9,10,11,12,13] [14,15] (by kernel_rfl) ?_;refine AD (Ba w0 wa ra kN) ?_;refine Bi kT u2 ?_;refine AD (Ba w0 wa ra kN) ?_;refine Bi kT u1 ?_;refine AD (EU w0 wa ra kN k1 k2) ?_;refine AC.seq ?_;refine Bx w1 300 [0,1,2,3,4,5,6,7,8,9,10,11,12,13,14] [15] (by kernel_rfl) ?_;refine AD (Ah wc kN) ?_;refine Bi kT y1 ?_;refine AD (Ah wc kN) ?_;refine Bi kT y1 ?_;refine AD (Ba wc kN k3 k4) ?_;refine Cj (α:=Nat×Nat) (λp=>⟨[(9,AX p.1)],[],p.2⟩) (λp=>p.1<RB/\AM ((U.drop j).take (m+3))<(p.1+1)*AM v/\p.1*AM v<=AM ((U.drop j).take (m+3))+AM v) ?_ ?_
 ·refine AC.block ?_
  refine Ft (α:=Nat×Nat×Nat) (λp=>⟨[(0,.sl false 1 (U.map AX)),(1,.sl false 1 (v.map AX)),(2,AX j),(7,i64 ((m+2:Nat):Int)),(9,AX p.1),(10,AX p.2.1)],[],p.2.2⟩) (λp=>p.1)
   (λp F'=>F'=F/\In (AM ((U.drop j).take (m+3))) (AM v) (p1+RB*p2) v1 p1 p.1 p.2.1/\p.2.1<RB) (q0,r0,_) ⟨rfl,G0,hr0⟩ AL ?_
  rintro⟨t,r,n⟩ F' ⟨rfl,G,hr⟩;dsimp only at G hr⊢;clear G0 hr0 k1 k2 k3 k4 u1 u2 ra wa;have htl:=G.qle S.top;obtain⟨b,hb⟩:∃b,b=decide (RB<=t\/r*RB+p0<t*v2):=⟨_,rfl⟩
  refine AC.seq ?_;refine Cj (α:=Nat) (λn=>⟨[(0,.sl false 1 (U.map AX)),(1,.sl false 1 (v.map AX)),(2,AX j),(7,i64 ((m+2:Nat):Int)),(9,AX t),(10,AX r),(63,Aq b)],[],n⟩) (λ_=>True) ?_ ?_
  ·rcases BL t RB with h|h
   ·have e1:decide ((t:Int)>=1000000000)=false:=Ad (by unfold RB at h;omega)
    obtain⟨a1,a2,a3,q1,q2,q3,q4⟩:=ik h hr lv2 l0;rw[<-hb]at q4;clear hb;rw[<-q4];refine Bx w1 400 [0,1,2,3,4,5,6,7,8,9,10,11,12,13,14,15,16,17,18,19] [20,21] (by kernel_rfl) ?_;refine AD e1 ?_;refine AD (Ar kF wd kN) ?_;refine Bi kF y2 ?_;refine AD (CH kF w0 wb rb kN) ?_;refine Bi kF u0 ?_;refine AD (Ba kF q1 q2 q3) ?_;refine AD kF ?_;exact⟨trivial,_,trivial,AL⟩
   ·have e1:decide ((t:Int)>=1000000000)=true:=AZ (by unfold RB at h;omega)
    have e2:b=true:=hb.trans (AZ (.inl h));subst e2;refine Bx w1 400 [0,1,2,3,4,5,6,7,8,9,10,11,12,13,14,15,16,17,18,19] [20,21] (by kernel_rfl) ?_;refine AD e1 ?_;refine AD kT ?_;refine AD kT ?_;exact⟨trivial,_,trivial,AL⟩
  rintro n2 -;cases b with
  |true=>
   have hc:=Cs hb.symm;obtain⟨t0,G2⟩:=br S G hc;have j1:IntKind.i64.wrap ((t:Int)-1)=((t-1:Nat):Int):=by rw[wI (by omega) (by unfold RB at htl;omega)];omega
   have j2:IntKind.i64.wrap ((r:Int)+(v1:Int))=((r+v1:Nat):Int):=by rw[wI (by omega) (by unfold RB at hr lv1;omega)];omega
   clear hc hb;refine AI ?_;refine Aj ?_;refine AC.block ?_;refine sZ 500 ?_;refine AT j1 ?_;refine sZ 600 ?_;refine AD (Ah wc kN) ?_;refine Bi kT y1 ?_;refine AD j2 ?_;refine AC.seq ?_;rcases BL (r+v1) RB with h|h
   ·have e3:decide (((r+v1:Nat):Int)>=1000000000)=false:=Ad (by unfold RB at h;omega)
    refine Ak w1 700 (by kernel_rfl) ?_;refine AT e3 ?_;refine AI ?_;refine Aj ?_;exact⟨(t-1,r+v1,_),⟨rfl,G2,h⟩,by dsimp only;omega,AL⟩
   ·have e3:decide (((r+v1:Nat):Int)>=1000000000)=true:=AZ (by unfold RB at h;omega)
    obtain⟨g1,g2⟩:=UJ S G2 (.inl h);refine Ak w1 700 (by kernel_rfl) ?_;refine AT e3 ?_;refine AI ?_;refine sR 800 ?_;refine Ab ?_;exact⟨_,.refl _,AA.out,t-1,rfl,g1,G2.up,g2⟩
  |false=>
   have hc:=C7 hb.symm;obtain⟨g1,g2⟩:=UJ S G (.inr (kA hc));clear hc hb;refine AI ?_;refine By ?_;exact⟨rfl,⟨t,_⟩,⟨g1,G.up,g2⟩,AL⟩
 rintro⟨q,n⟩ ⟨g1,g2,g3⟩;dsimp only at g1 g2 g3⊢;refine sR 900 ?_;refine Ab ?_;exact⟨_,.refl _,AA.out,q,rfl,g1,g2,g3⟩
def NS (k g k' n:Nat)(env:Ao):Ao->Prop
 | []=>True
 |(t,d)::r=>(d=env.get t\/∃sz i len,env.get t=.osl k g sz i len/\d=.osl k' n sz i len)/\NS k g k' n env r
theorem NS.get {k g k' n:Nat}{env:Ao}:∀ {env':Ao},NS k g k' n env env'->∀t,env'.get t=.any\/env'.get t=env.get t\/∃sz i len,env.get t=.osl k g sz i len/\env'.get t=.osl k' n sz i len
 | [],_,t=>.inl rfl
 |(t0,d)::r,h,t=>by
  simp only[Ao.get];cases hb:Nat.beq t0 t with
  |true=>
   obtain rfl:=Bu hb;rcases h.1 with h1|h1
   ·exact .inr (.inl h1)
   ·exact .inr (.inr h1)
  |false=>exact NS.get h.2 t
section
variable {C:A0} {B F:AY} {rd:Option Nat} {Q:Exit->AY->St->Prop}
theorem tq {c:Code}{env:Ao}{k g k' T sz n:Nat}{es:List D}(env':Ao)(he:NS k g k' n env env')(h:AC C B rd F c ⟨env',[⟨k',n,T,sz,es⟩],n+1⟩ Q):AC C B rd F c ⟨env,[⟨k,g,T,sz,es⟩],n⟩ Q:=by
 refine⟨λhB hd ρ a w hs=>?_⟩;obtain⟨ρ',hl,hk,hf⟩:∃ρ':Lk,(∀k1 g1 b,ρ k1 g1=some b->ρ' k1 g1=some b)/\ρ' k' n=ρ k g/\II ρ' (n+1):=by
  cases hb:ρ k g with
  |none=>exact⟨ρ,λ_ _ _ h=>h,hs.fresh _ _ (Af _),λk1 g1 h=>hs.fresh _ _ (Nat.le_of_succ_le h)⟩
  |some b=>exact⟨ρ.put k' n b,λk1 g1 b1 h1=>ML (hs.fresh _ _ (Af _)) h1,D1 _ _ _ _,λk1 g1 h1=>by
    unfold Lk.put;split
    ·rename_i hh;omega
    ·exact hs.fresh _ _ (Nat.le_of_succ_le h1)⟩
 have hO:AJ F.X ρ' [⟨k',n,T,sz,es⟩]=AJ F.X ρ [⟨k,g,T,sz,es⟩]:=funext λb=>propext (by simp[AJ,hk])
 have x:BO ρ (AJ F.X ρ [⟨k,g,T,sz,es⟩]) w ρ' (AJ F.X ρ' [⟨k',n,T,sz,es⟩]) w:=⟨Af _,hl,λb _ hb=>⟨by rw[hO];exact hb,rfl⟩,λ_ cs _ _ h=>⟨cs,_,h,rfl⟩⟩
 refine h.out hB hd ρ' a w ⟨⟨⟨λe he'=>?_,by simp,λe he' b hb=>?_⟩,hs.mem.os,hs.mem.tape,hs.mem.output,hs.mem.size,hs.mem.blk,hs.mem.xlt,hs.mem.g0,hs.mem.gn,hs.mem.gw,λk1 g1 b h1=>hl _ _ _ (hs.mem.lnk _ _ _ h1),hs.mem.shp⟩,hf,λe he'=>?_,λt=>?_,hs.nt,hs.dfr⟩
 ·simp only[BA,DF,or_false]at he'
  subst he';rcases hs.mem.hok.ent ⟨k,g,T,sz,es⟩ (by simp)with⟨h1,h2⟩|⟨b,cs,h1,h2,h3⟩
  ·exact .inl ⟨h1,by rw[show ρ' k' n=ρ k g from hk];exact h2⟩
  ·refine .inr ⟨b,cs,hk.trans h1,h2,?_⟩
   have h4:=h3.mono x;exact⟨h4.len,h4.siz,h4.one,h4.rep⟩
 ·simp only[BA,DF,or_false]at he'
  subst he';exact hs.mem.hok.own ⟨k,g,T,sz,es⟩ (by simp) b (hk.symm.trans hb)
 ·simp only[BA,DF,or_false]at he'
  subst he';exact Gi _
 ·have h0:=(hs.env t).mono x
  rcases he.get t with h1|h1|⟨sz',i,len,h1,h2⟩
  ·show AU _ _ _ (env'.get t) _
   rw[h1];exact .any _
  ·show AU _ _ _ (env'.get t) _
   rw[h1];exact h0
  ·show AU _ _ _ (env'.get t) _
   rw[h2];have h5:=hs.env t;change AU _ _ _ (env.get t) _ at h5;rw[h1]at h5;generalize a.tmps.getD t undef=v at*;cases h5 with
   |onil=>exact .onil _ _ _
   |osl hr hb hc hs' hm=>exact .osl (hk.trans hr) hb hc hs' hm
end
theorem se {b m y:Nat}(hl:(AW b).length=m+1)(hy:(AW b)[m]?=some y):∃f,f=1000000000/(y+1)/\0<f/\f<RB/\(AW (b*f)).length=m+1:=by
 have hy0:=OY b hl hy;have hyl:y<RB:=EG b y (A8 hy);have hf0:0<1000000000/(y+1):=Nat.div_pos (by unfold RB at hyl;omega) (by omega);have hf1:1000000000/(y+1)<RB:=HE (by decide) (by omega);have hm:=Nat.div_mul_le_self 1000000000 (y+1);refine⟨_,rfl,hf0,hf1,?_⟩;generalize 1000000000/(y+1)=f at*;refine b9 ?_ ?_
 ·exact BP (RJ hl) (Nat.le_mul_of_pos_right _ hf0)
 ·have h2:=Sr hl hy
  have h3:=Fd ((EG b).take m);rw[Bg,hl,Ei (by omega)]at h3;rw[Dl]at h2;have h4:b<RB^m*(y+1):=by rw[BH,Du];omega
  have h5:b*f<RB^m*(y+1)*f:=Ql h4 hf0;have h6:RB^m*(y+1)*f=RB^m*(f*(y+1)):=by rw[Bo,BN (y+1)]
  have h7:RB^m*(f*(y+1))<=RB^m*RB:=CP _ hm;rw[B9];omega
theorem dX {a b f:Nat}{U v:List Nat}{k lu lq:Nat}(hf:0<f)(hU:AM U=a*f)(hv:AM v=b*f)(wU:Rd U)(lU:U.length=lu){q:List Nat}(hq:q=List.replicate lq 0)(hk:lq<=k)
  (hab:a<RB^k*b):Kv (a*f) v U q lu lq k:=by
 subst hq;refine⟨lU,MU,wU,RK _,?_,?_⟩
 ·rw[Gj (by rw[MU];exact hk)]
  rw[show AM []=0 from rfl,EE,GK,BT,hU]
 ·rcases BL (AM (U.drop k)) (AM v)with h|h
  ·exact h
  ·exfalso
   have e0:AM U=AM (U.take k)+RB^(U.take k).length*AM (U.drop k):=by
    conv=>lhs;rw[<-Ef k U]
    rw[IZ]
   have h3:a*f<RB^k*b*f:=Ql hab hf;rw[Bo,<-hv]at h3;rcases BL U.length k with hl|hl
   ·rw[Gj (by omega)]at h
    rw[show AM []=0 from rfl]at h;rw[Nat.le_zero.1 h,EE]at h3;omega
   ·rw[Bg,Ei hl]at e0
    have:=CP (RB^k) h
    omega
theorem fh {a b f:Nat}{v U q:List Nat}{lu lq:Nat}(hf:0<f)(I:Kv (a*f) v U q lu lq 0)(hv:AM v=b*f):AM q=a/b/\AM U=a%b*f:=by
 obtain⟨lU,lQ,wU,wq,val,less⟩:=I;simp only[K8,IV,FC]at val less;obtain⟨h1,h2⟩:=Ou val less;rw[hv,OF _ _ hf]at h1;rw[hv,OG]at h2;exact⟨h1,h2⟩
theorem ki {P V q N Pn c z W:Nat}(hI:N+q*V=Pn+W*c)(hP:P=Pn+W*z)(hc:c<=z)(hup:P<(q+1)*V):P/V=q/\P%V=N+W*(z-c):=by
 have e:W*z=W*c+W*(z-c):=by rw[<-BH];congr 1;omega
 exact Re (N:=N+W*(z-c)) (by omega) hup
theorem kj {P V q N Pn N2 c c2 z W:Nat}(hI:N+q*V=Pn+W*c)(hP:P=Pn+W*z)(hz:z<c)(hN:N<W)(hdn:q*V<=P+V)(hN2:N2+W*c2=N+V)(hc2:c2<=1)(hN2l:N2<W)(hVW:V<W):
  0<q/\P/V=q-1/\P%V=N2/\(z:Int)-c+c2=0:=by
 obtain⟨e,rfl⟩:∃e,c=z+1+e:=⟨c-z-1,by omega⟩
 have h1:W*(z+1+e)=W*z+W+W*e:=by rw[BH,BH,Du]
 have he:e=0:=by
  rcases DY e with h|h
  ·exact h
  ·have:=CP W h
   omega
 subst he;rw[EE]at h1;obtain⟨a1,a2,a3⟩:=VG (U:=P) (V:=V) (q:=q) (N:=N) (N3:=N2) (T:=W) (c:=c2) (by omega) hN hdn hN2 hc2 hN2l;refine⟨a1,a2,a3,?_⟩
 have:c2=1:=by
  rcases DY c2 with h|h
  ·exfalso
   subst h;rcases DY q with h0|h0
   ·subst h0;omega
   ·obtain⟨k,rfl⟩:∃k,q=k+1:=⟨q-1,by omega⟩
    rw[Bl,IV]at hI hdn;omega
  ·omega
 subst this;omega
def blk (A N:List Nat)(top:Int)(Z:List Nat):List D:=A.map AX++(N.map AX++(i64 top::Z.map AX))
theorem Xu {A N Z:List Nat}{top:Int}{i z:Nat}(h:N[i]?=some z):(blk A N top Z)[A.length+i]?=some (AX z):=by
 have hi:i<N.length:=(List.getElem?_eq_some_iff.1 h).1;unfold blk;rw[Ex (by rw[An];omega),An,J3,Fw (by rw[An];exact hi)];exact DV h
theorem WQ {A N Z:List Nat}{top:Int}{i d:Nat}(h:i<N.length):(blk A N top Z).set (A.length+i) (AX d)=blk A (N.set i d) top Z:=by
 unfold blk;rw[OE _ _ (by rw[An];omega),An,J3,List.set_append_left _ _ (by rw[An];exact h),Lt]
theorem SE {A N Z:List Nat}{top:Int}{n:Nat}(h:N.length=n):(blk A N top Z)[A.length+n]?=some (i64 top):=by
 unfold blk;rw[Ex (by rw[An];omega),An,J3,Ex (by rw[An];omega),An,h,Nat.sub_self];rfl
theorem Vr {A N Z:List Nat}{top t:Int}{n:Nat}(h:N.length=n):(blk A N top Z).set (A.length+n) (i64 t)=blk A N t Z:=by
 unfold blk;rw[OE _ _ (by rw[An];omega),An,J3,OE _ _ (by rw[An];omega),An,h,Nat.sub_self];rfl
theorem SC {A N Z:List Nat}{t:Nat}:blk A N (t:Int) Z=(A++((N++[t])++Z)).map AX:=by
 unfold blk;simp[DP]
theorem iM {t x c z:Nat}(ht:t<RB)(hx:x<RB)(hc:c<=RB)(hz:z<RB):∃p lo hi x' d c':Nat,IntKind.i64.wrap ((t:Int)*(x:Int))=(p:Int)/\IntKind.i64.wrap ((p:Int)+(c:Int))=(x':Int)/\((x':Int)).tmod 1000000000=(lo:Int) /\
  IntKind.i64.wrap (((x':Int)).tdiv 1000000000)=(hi:Int)/\IntKind.i64.wrap ((z:Int)-(lo:Int))=(z:Int)-lo/\d<RB/\c'<=RB/\d+t*x+c=z+RB*c' /\
  ((c'=hi/\(z:Int)-lo=d)\/(c'=hi+1/\(z:Int)-lo<0/\IntKind.i64.wrap ((z:Int)-lo+1000000000)=d/\IntKind.i64.wrap ((hi:Int)+1)=((hi+1:Nat):Int))):=by
 have h3:t*x<=999999999*999999999:=Hz (by unfold RB at ht;omega) (by unfold RB at hx;omega);have e:=ET (t*x+c) 1000000000;have l:=Bs (t*x+c) (show 1000000000>0 by decide);have k0:IntKind.i64.wrap ((t:Int)*(x:Int))=((t*x:Nat):Int):=by rw[<-FW,wI (by omega) (by omega)]
 unfold RB at*;have k1:IntKind.i64.wrap (((t*x:Nat):Int)+(c:Int))=((t*x+c:Nat):Int):=by rw[wI (by omega) (by omega)];omega
 have k2:((t*x+c:Nat):Int).tmod 1000000000=(((t*x+c)%1000000000:Nat):Int):=QF _ 1000000000;have k3:IntKind.i64.wrap (((t*x+c:Nat):Int).tdiv 1000000000)=(((t*x+c)/1000000000:Nat):Int):=Ng _ 1000000000 (by omega);generalize t*x=p at*;generalize(p+c)%1000000000=lo at*;generalize(p+c)/1000000000=hi at*;rcases BL z lo with h|h
 ·exact⟨_,_,_,_,z+1000000000-lo,hi+1,k0,k1,k2,k3,wI (by omega) (by omega),by omega,by omega,by omega,.inr ⟨rfl,by omega,by rw[wI (by omega) (by omega)];omega,by rw[wI (by omega) (by omega)];omega⟩⟩
 ·exact⟨_,_,_,_,z-lo,hi,k0,k1,k2,k3,wI (by omega) (by omega),by omega,by omega,by omega,.inl ⟨rfl,by omega⟩⟩
theorem iE {z x c:Nat}(hz:z<RB)(hx:x<RB)(hc:c<=1):∃p s d c':Nat,IntKind.i64.wrap ((z:Int)+(x:Int))=(p:Int)/\IntKind.i64.wrap ((p:Int)+(c:Int))=(s:Int)/\((s:Int)).tmod 1000000000=(d:Int) /\
  IntKind.i64.wrap (((s:Int)).tdiv 1000000000)=(c':Int)/\d<RB/\c'<=1/\d=(z+x+c)%RB/\c'=(z+x+c)/RB:=by
 have e:=ET (z+x+c) 1000000000;have l:=Bs (z+x+c) (show 1000000000>0 by decide);unfold RB at*;have k0:IntKind.i64.wrap ((z:Int)+(x:Int))=((z+x:Nat):Int):=by rw[wI (by omega) (by omega)];omega
 have k1:IntKind.i64.wrap (((z+x:Nat):Int)+(c:Int))=((z+x+c:Nat):Int):=by rw[wI (by omega) (by omega)];omega
 have k2:((z+x+c:Nat):Int).tmod 1000000000=(((z+x+c)%1000000000:Nat):Int):=QF _ 1000000000;have k3:IntKind.i64.wrap (((z+x+c:Nat):Int).tdiv 1000000000)=(((z+x+c)/1000000000:Nat):Int):=Ng _ 1000000000 (by omega);exact⟨_,_,_,_,k0,k1,k2,k3,l,by omega,rfl,rfl⟩
set_option maxHeartbeats 2000000
theorem kV:rD 0=.sl false 1 []:=by unfold rD;rw[F3];rfl
theorem SM {H:Hp}{K g T:Nat}{l:List Nat}{N:Nat}(hl:l.length=N)(he:Hp.get H K=some ⟨K,g,T,1,l.map AX⟩:=by exact rfl):Fz H [] (.osl K g 1 0 N) (.sl false 1 (l.map AX)):=by
 subst hl;have key:∀(j:Nat) (d d':D),(l.map AX)[0+j]?=some d->(l.map AX)[j]?=some d'->d=d':=λj d d' h1 h2=>by
  rw[BT]at h1;rw[h1]at h2;exact FX h2
 refine .osl (e:=⟨K,g,T,1,l.map AX⟩) he rfl rfl rfl (by simp) (by simp) (λj d d' h1 h2=>by rw[key j d d' h1 h2]) λj d d' q c c' h1 h2 h3 h4=>?_
 rw[key j d d' h1 h2]at h3;rw[h3]at h4;cases h4;exact Fz.refl _
theorem fj (a b:Nat)(hab:a<b)(ha:(AW a).length<1000000)(hb:(AW b).length<1000000):AK C0 176 [rD a,rD b] (.tup [rD (a/b),rD (a%b)]):=by
 rw[Gh hab,DO hab,kV];refine Ai.walk w1 ST rfl λF=>?_
 have cc:=QA a b (by omega) (by omega);have e1:=Wf hab;refine sR 0 ?_;refine AC.seq ?_;refine sR 100 ?_;refine cI cc ?_;rw[e1];refine AI ?_;refine sR 200 ?_;refine Ab ?_;exact⟨_,YY (.nil 1) (.refl _),V7 (.sl λe he=>by cases he) (NH _),rfl⟩
theorem iJ (a b:Nat)(hab:b<=a)(ha:(AW a).length<1000000)(hb:(AW b).length=1)(hb0:b≠0):AK C0 176 [rD a,rD b] (.tup [rD (a/b),rD (a%b)]):=by
 have cc:=QA a b (by omega) (by omega);have e1:=PL hab;have hbl:b<RB:=by
  have:=H7 b
  rw[hb,Nat.pow_one]at this;exact this
 have hlb:(AW b)[0]?=some b:=by rw[OX hb0 hbl];rfl
 have hb':=DV hlb;have cd:=UR a b (Di hb0) hbl ha;have e3:(((((AW b).map AX).length:Nat):Int)==1)=true:=by rw[An,hb];rfl
 have hml:a%b<RB:=FS (Bs _ (Di hb0)) hbl;have hv:AM [a%b]=a%b:=by simp[AM]
 refine Ai.walk w1 ST rfl λF=>?_
 generalize a/b=q at*;generalize a%b=r at*;unfold rD rL at cc cd⊢;change AC C0 F none F _ _ (QB X1.tt _ (· = .tup [rD q,rD r]));generalize AW a=la at*;generalize AW b=lb at*;refine sR 0 ?_;refine AC.seq ?_;refine sR 100 ?_;refine cI cc ?_;rw[e1];refine AI ?_;refine Aj ?_;refine AC.seq ?_;refine sZ 300 ?_;refine AT e3 ?_;refine AI ?_;refine sZ 400 ?_;refine AD kN ?_;refine Bi kT hb' ?_;refine AD kN ?_;refine A7.same _ cd AH ?_;refine BJ ?_;refine sR 500 ?_;have hrl:Rd [r]:=λa ha=>by
  simp only[BA,DF,or_false]at ha;subst ha;exact hml
 refine A7.pure [rL [r]] _ ⟨.nn true 1 _,trivial⟩ (Kh [r] hrl (by simp)) AH ?_;refine BJ ?_;refine Ab ?_;exact AN (by rw[hv];rfl) AA.out
theorem tD {H:Hp}{d1 d2 d3 e1 e2 e3:D}(h1:C8 H d1 e1)(h2:C8 H d2 e2)(h3:C8 H d3 e3):∀(i:Nat) (a b:D),[d1,d2,d3][i]?=some a->[e1,e2,e3][i]?=some b->C8 H a b
 | 0,_,_,ha,hb=>by cases ha;cases hb;exact h1
 | 1,_,_,ha,hb=>by cases ha;cases hb;exact h2
 | 2,_,_,ha,hb=>by cases ha;cases hb;exact h3
 |_+3,_,_,ha,_=>by cases ha
theorem ce {P v:List Nat}(d:D)(h:Vo P v d):Ix d:=by
 obtain⟨q,rfl,_⟩:=h;exact Ix.prim _
theorem km {v N Pn:List Nat}{t i c z x:Nat}(hz:N[i]?=some z)(hx:v[i]?=some x)(ht:t<RB)(hxl:x<RB)(hc:c<=RB)(hzl:z<RB)(hI:AM N+t*AM (v.take i)=AM Pn+RB^i*c):
  ∃(p x' lo hi d c':Nat) (e:Int),IntKind.i64.wrap ((t:Int)*(x:Int))=(p:Int)/\IntKind.i64.wrap ((p:Int)+(c:Int))=(x':Int)/\((x':Int)).tmod 1000000000=(lo:Int) /\
  IntKind.i64.wrap (((x':Int)).tdiv 1000000000)=(hi:Int)/\IntKind.i64.wrap ((z:Int)-(lo:Int))=e/\d<RB/\c'<=RB/\AM (N.set i d)+t*AM (v.take (i+1))=AM Pn+RB^(i+1)*c' /\
  ((decide (e<0)=false/\e=(d:Int)/\hi=c')\/(decide (e<0)=true/\IntKind.i64.wrap (e+1000000000)=(d:Int)/\IntKind.i64.wrap ((hi:Int)+1)=(c':Int))):=by
 obtain⟨p,lo,hi,x',d,c',k1,k2,k3,k4,k5,k6,k7,k8,k9⟩:=iM ht hxl hc hzl;have J:=bD (b:=0) (c':=0) (lo:=t*x+c) (b':=c') (d:=d) (A:=N) (P:=Pn) (v:=v) (q:=t) hz hx hI rfl (by rw[<-k8];exact ED d (t*x) c ▸ rfl);refine⟨p,x',lo,hi,d,c',_,k1,k2,k3,k4,k5,k6,k7,by rw[J,BT],?_⟩;rcases k9 with⟨h1,h2⟩|⟨h1,h2,h3,h4⟩
 ·exact .inl ⟨Ad (by rw[h2];exact Int.not_lt.2 (Int.natCast_nonneg d)),h2,h1.symm⟩
 ·exact .inr ⟨AZ h2,h3,by rw[h1];exact h4⟩
theorem kX {v N Nb:List Nat}{i c z x:Nat}(hz:N[i]?=some z)(hx:v[i]?=some x)(hxl:x<RB)(hc:c<=1)(hzl:z<RB)(hI:AM N+RB^i*c=AM Nb+AM (v.take i)):
  ∃(p s d c':Nat),IntKind.i64.wrap ((z:Int)+(x:Int))=(p:Int)/\IntKind.i64.wrap ((p:Int)+(c:Int))=(s:Int)/\((s:Int)).tmod 1000000000=(d:Int) /\
  IntKind.i64.wrap (((s:Int)).tdiv 1000000000)=(c':Int)/\d<RB/\c'<=1/\AM (N.set i d)+RB^(i+1)*c'=AM Nb+AM (v.take (i+1)):=by
 obtain⟨p,s,d,c',k1,k2,k3,k4,k5,k6,rfl,rfl⟩:=iE hzl hxl hc;exact⟨p,s,_,_,k1,k2,k3,k4,k5,k6,bA hz hx hI⟩
theorem dW {U:List Nat}{k:Nat}(h:AM U<RB^k)(hk:k<=U.length):AM (U.take k)=AM U:=by
 have e:AM U=AM (U.take k)+RB^k*AM (U.drop k):=by
  conv=>lhs;rw[<-Ef k U]
  rw[IZ,Bg,Ei hk]
 rcases DY (AM (U.drop k))with h0|h0
 ·rw[h0,EE,DJ]at e;exact e.symm
 ·exfalso
  have:=CP (RB^k) h0
  omega
theorem dV {P v:List Nat}{m p0 p1 p2 v2 v1:Nat}(S:Jj P v m p0 p1 p2 v2 v1):∃Pn,P=Pn++[p2]/\Pn.length=m+2/\Rd Pn/\AM P=AM Pn+RB^(m+2)*p2:=by
 have hl:=S.lP;have e:P=P.take (m+2)++[p2]:=by
  rw[<-El S.h2,B5 (by omega)]
 have hn:(P.take (m+2)).length=m+2:=by rw[Bg];omega
 refine⟨P.take (m+2),e,hn,S.wP.take _,?_⟩
 conv=>lhs;rw[e]
 rw[GQ hn]
theorem ZN {P N:List Nat}{m z V:Nat}(hl:N.length=m+2)(hN:Rd N)(hz:z<RB)(hv:AM N+RB^(m+2)*z=AM P%V):(N++[z]).length=m+3/\Rd (N++[z])/\AM (N++[z])=AM P%V:=by
 refine⟨by rw[B1,hl];rfl,Rd.append hN λa ha=>?_,by rw[GQ hl,hv]⟩;simp only[BA,DF,or_false]at ha;subst ha;exact hz
set_option maxHeartbeats 4000000
theorem fk (a b m:Nat)(hab:b<=a)(ha:(AW a).length<1000000)(hb:(AW b).length=m+2):AK C0 176 [rD a,rD b] (.tup [rD (a/b),rD (a%b)]):=by
 have hlen:=H6 b a hab;have cc:=QA a b (by omega) (by omega);have e1:=PL hab;obtain⟨y,hy⟩:=CG (l:=AW b) (i:=m+1) (by omega);have yl:y<RB:=EG b y (A8 hy);obtain⟨f,ef,f0,fl,hvl⟩:=se hb hy;have wf:IntKind.i64.wrap ((1000000000:Int).tdiv ((y+1:Nat):Int))=(f:Int):=by
  rw[ef];exact Ng 1000000000 (y+1) (BP (GH _ _) (by decide))
 have wy:IntKind.i64.wrap ((y:Int)+1)=((y+1:Nat):Int):=wI (by omega) (by unfold RB at yl;omega);have lf:AW f=[f]:=OX (Nat.pos_iff_ne_zero.1 f0) fl;have cv:=S6 b f (by omega) (by rw[lf];exact(by decide:1<1000000));have cu:=S6 a f (by omega) (by rw[lf];exact(by decide:1<1000000));have hu1:=Q7 a f;have hu2:=H6 a (a*f) (Nat.le_mul_of_pos_right _ f0);rw[lf]at hu1;change _<=_+1 at hu1;obtain⟨v,hv⟩:∃v,v=AW (b*f):=⟨_,rfl⟩
 have wv:Rd v:=by rw[hv];exact EG _
 have vv:AM v=b*f:=by rw[hv];exact Dl _
 rw[<-hv]at hvl;obtain⟨U0,hU0⟩:∃U0,U0=AW (a*f):=⟨_,rfl⟩
 have wU0:Rd U0:=by rw[hU0];exact EG _
 have vU0:AM U0=a*f:=by rw[hU0];exact Dl _
 rw[<-hU0]at hu1 hu2;obtain⟨v1,h1⟩:=CG (l:=v) (i:=m+1) (by omega);obtain⟨v2,h2⟩:=CG (l:=v) (i:=m) (by omega);have v10:v1≠0:=OY (b*f) (by rw[<-hv];exact hvl) (by rw[<-hv];exact h1);have b0:0<b:=by
  refine Di λh=>?_
  subst h;rw[F3]at hb;cases hb
 have vpos:0<AM v:=by rw[vv];exact Gm b0 f0
 have hup:=H7 a;have hbge:=RJ hb;unfold rD rL at cc cv cu;rw[lf,<-hv]at cv;rw[lf,<-hU0]at cu;refine Ai.walk w1 ST rfl λF=>?_
 change AC C0 F none F _ ⟨C5 0 [.sl false 1 ((AW a).map AX),.sl false 1 ((AW b).map AX)],[],0⟩ _;generalize AW a=la at*;generalize AW b=lb at*;obtain⟨lq,hlq⟩:∃lq,la.length=lq+(m+2):=⟨la.length-(m+2),by omega⟩
 have hy':=DV hy;have e3:((((lb.map AX).length:Nat):Int)==1)=false:=by rw[An,hb];exact Bv.2 (by omega)
 have elb:(((lb.map AX).length:Nat):Int)=((m+2:Nat):Int):=by rw[An,hb]
 have wlb0:IntKind.i64.wrap (((m+2:Nat):Int)-1)=((m+1:Nat):Int):=by rw[wI (by omega) (by omega)];omega
 have wlb:IntKind.i64.wrap ((((lb.map AX).length:Nat):Int)-1)=((m+1:Nat):Int):=by rw[elb];exact wlb0
 have ea:(((la.map AX).length:Nat):Int)=(la.length:Int):=by rw[An]
 have ev:(((v.map AX).length:Nat):Int)=((m+2:Nat):Int):=by rw[An,hvl]
 have eu:(((U0.map AX).length:Nat):Int)=(U0.length:Int):=by rw[An]
 have wa1:IntKind.i64.wrap ((la.length:Int)+1)=((la.length+1:Nat):Int):=wI (by omega) (by omega);have wq0:IntKind.i64.wrap (((la.length+1:Nat):Int)-((m+2:Nat):Int))=((lq+1:Nat):Int):=by rw[wI (by omega) (by omega)];omega
 have wq1:IntKind.i64.wrap (((lq+1:Nat):Int)-1)=((lq+1:Nat):Int)-1:=wI (by omega) (by omega);have wraw:IntKind.i64.wrap (IntKind.i64.wrap (((la.length+1:Nat):Int)-((m+2:Nat):Int))-1)=((lq+1:Nat):Int)-1:=by rw[wq0,wq1]
 have r3:List.replicate (lq+1) (ofV (.int .i64 0))=(List.replicate (lq+1) 0).map AX:=by rw[I8];rfl
 refine sR 0 ?_;refine AC.seq ?_;refine sR 100 ?_;refine cI cc ?_;rw[e1];refine AI ?_;refine Aj ?_;refine AC.seq ?_;refine sZ 300 ?_;refine AT e3 ?_;refine AI ?_;refine Aj ?_;refine sZ 600 ?_;refine AD (Ba wlb elb wlb0 kN) ?_;refine Bi kT hy' ?_;refine AD (Ar wy wf kN) ?_;refine sR 700 ?_;refine A7.pure [rL lb,rL [f]] _ ⟨.refl _,.nn true 1 _,trivial⟩ cv AH ?_;refine BJ ?_;refine sZ 800 ?_;refine AT ev ?_;clear cc e1 e3 elb wlb wlb0 hy' yl hy wy wf hb;refine Cj (α:=Nat×Nat) (λp=>⟨[(0,.sl false 1 (la.map AX)),(8,.sl true 1 [AX f]),(9,.sl false 1 (v.map AX)),(10,i64 ((m+2:Nat):Int)),(11,.osl 904 p.1 1 0 U0.length)],[⟨904,p.1,3,1,U0.map AX⟩],p.2⟩) (λ_=>True) ?_ ?_
 ·refine rI 900 ?_
  refine A7.pure [rL la,rL [f]] _ ⟨.refl _,.nn true 1 _,trivial⟩ cu AH ?_;refine BJ ?_;exact⟨rfl,⟨_,_⟩,trivial,AL⟩
 rintro⟨g,n2⟩ -;dsimp only;refine Cj (α:=Nat×Nat×List Nat×Nat) (λp=>⟨[(0,.sl false 1 (la.map AX)),(8,.sl true 1 [AX f]),(9,.sl false 1 (v.map AX)),(10,i64 ((m+2:Nat):Int)),(11,.osl p.1 p.2.1 1 0 (la.length+1))],[⟨p.1,p.2.1,3,1,p.2.2.1.map AX⟩],p.2.2.2⟩) (λp=>p.2.2.1.length=la.length+1/\Rd p.2.2.1/\AM p.2.2.1=a*f) ?_ ?_
 ·refine AC.block ?_
  rcases Nat.eq_or_lt_of_le hu1 with hl|hl
  ·have eN:decide (((la.length+1:Nat):Int)<((la.length+1:Nat):Int))=false:=Ad (by omega)
   rw[hl];refine Ft (α:=Nat) (λn=>⟨[(0,.sl false 1 (la.map AX)),(8,.sl true 1 [AX f]),(9,.sl false 1 (v.map AX)),(10,i64 ((m+2:Nat):Int)),(11,.osl 904 g 1 0 (la.length+1))],[⟨904,g,3,1,U0.map AX⟩],n⟩) (λ_=>0) (λ_ F'=>F'=F) n2 rfl AL ?_;rintro n3 F' rfl;refine AC.seq ?_;refine sZ 1000 ?_;refine AT (Ar ea wa1 eN) ?_;refine AI ?_;refine By ?_;exact⟨rfl,⟨904,g,U0,_⟩,⟨hl,wU0,vU0⟩,AL⟩
  ·have hl2:U0.length=la.length:=by omega
   have eN:decide (((la.length+1:Nat):Int)<((la.length+1:Nat):Int))=false:=Ad (by omega);have eY:decide ((la.length:Int)<((la.length+1:Nat):Int))=true:=AZ (by omega);have hap:List.take la.length (U0.map AX)++[D.prim (Value.int IntKind.i64 0)]=(U0++[0]).map AX:=by
    rw[B5 (by rw[An];omega),DP];rfl
   rw[hl2];refine Ft (α:=Bool×Nat×Nat) (λp=>match p with
    |(false,_,n)=>⟨[(0,.sl false 1 (la.map AX)),(8,.sl true 1 [AX f]),(9,.sl false 1 (v.map AX)),(10,i64 ((m+2:Nat):Int)),(11,.osl 904 g 1 0 la.length)],[⟨904,g,3,1,U0.map AX⟩],n⟩
    |(true,g1,n)=>⟨[(0,.sl false 1 (la.map AX)),(8,.sl true 1 [AX f]),(9,.sl false 1 (v.map AX)),(10,i64 ((m+2:Nat):Int)),(11,.osl 1102 g1 1 0 (la.length+1))],[⟨1102,g1,3,1,(U0++[0]).map AX⟩],n⟩) (λp=>cond p.1 0 1) (λ_ F'=>F'=F) (false,0,n2) rfl AL ?_
   rintro⟨_|_,g1,n3⟩ F' rfl
   ·dsimp only
    refine AC.seq ?_;refine sZ 1000 ?_;refine AT (Ar ea wa1 eY) ?_;refine AI ?_;refine Aj ?_;refine AC.block ?_;refine rI 1100 ?_;refine⟨(true,n3+8,n3+10),rfl,(by decide:(0:Nat)<1),?_⟩;dsimp only;rw[hap];exact AL
   ·dsimp only
    refine AC.seq ?_;refine sZ 1000 ?_;refine AT (Ar ea wa1 eN) ?_;refine AI ?_;refine By ?_;refine⟨rfl,⟨1102,g1,U0++[0],_⟩,⟨by rw[B1,hl2];rfl,Rd.append wU0 λa ha=>?_,by rw[R5];exact vU0⟩,AL⟩;simp only[BA,DF,or_false]at ha;subst ha;decide
 rintro⟨K,gK,U1,n3⟩ ⟨lU1,wU1,vU1⟩;dsimp only at lU1 wU1 vU1⊢;refine tq [(8,.sl true 1 [AX f]),(9,.sl false 1 (v.map AX)),(10,i64 ((m+2:Nat):Int)),(11,.osl 1102 n3 1 0 (la.length+1))] ⟨.inl rfl,.inl rfl,.inl rfl,.inr ⟨_,_,_,rfl,rfl⟩,trivial⟩ ?_;clear cu hU0 vU0 wU0 hu1 hu2 cv;refine Cj (α:=Nat×Nat) (λp=>⟨[(8,.sl true 1 [AX f]),(9,.sl false 1 (v.map AX)),(10,i64 ((m+2:Nat):Int)),(11,.osl 1102 n3 1 0 (la.length+1)),(12,.osl 1204 p.1 1 0 (lq+1))],[⟨1204,p.1,3,1,(List.replicate (lq+1) 0).map AX⟩,⟨1102,n3,3,1,U1.map AX⟩],p.2⟩) (λ_=>True) ?_ ?_
 ·refine Ak w1 1200 (by kernel_rfl) ?_
  refine AT (Ar wq0 kN r3) ?_;exact⟨trivial,⟨_,_⟩,trivial,by rw[<-r3];exact AL⟩
 rintro⟨g,n2⟩ -;dsimp only;have I0:Kv (a*f) v U1 (List.replicate (lq+1) 0) (la.length+1) (lq+1) (lq+1):=by
  refine dX f0 vU1 vv wU1 lU1 rfl (Af _) ?_
  have:RB^(lq+1)*RB^(m+1)<=RB^(lq+1)*b:=CP _ hbge
  rw[<-FT,show lq+1+(m+1)=la.length by omega]at this;omega
 clear hup hbge;refine AC.seq ?_;refine sZ 1300 ?_;refine AT wraw ?_;refine AC.block ?_;refine AC.loop (α:=Nat×List Nat×List Nat×Nat) (λp=>⟨[(8,.sl true 1 [AX f]),(9,.sl false 1 (v.map AX)),(10,i64 ((m+2:Nat):Int)),(11,.osl 1102 n3 1 0 (la.length+1)),(12,.osl 1204 g 1 0 (lq+1)),(13,i64 ((p.1:Int)-1))],[⟨1204,g,3,1,p.2.2.1.map AX⟩,⟨1102,n3,3,1,p.2.1.map AX⟩],p.2.2.2⟩) (λp=>p.1)
  (λp=>p.1<=lq+1/\Kv (a*f) v p.2.1 p.2.2.1 (la.length+1) (lq+1) p.1) (lq+1,U1,List.replicate (lq+1) 0,_) ⟨Af _,I0⟩ AL ?_
 rintro⟨k,u,q,n4⟩ F ⟨hk,I⟩;dsimp only at hk I⊢;clear I0 wq0 wq1 wraw r3 ea eu wU1 vU1 lU1;refine AC.seq ?_;refine sR 1400 ?_;refine AI ?_
 (refine Bn (λh20=>?_) (λh20=>?_))<;>(try simp only[Bc,Bk]at h20)<;>(try simp only[h20])
 ·obtain⟨j,rfl⟩:∃j,k=j+1:=⟨k-1,by
   have:(k:Int)-1>=0:=by simpa using h20
   omega⟩
  have wj:((j+1:Nat):Int)-1=(j:Int):=by omega
  obtain⟨p0,p1,p2,SI,hz,hP⟩:=dU I hvl wv v1 v2 h2 h1 (Di v10) (by omega);have lu:=I.lU;have cg:=jL u v j m p0 p1 p2 v2 v1 SI (by omega) (by omega);rw[wj];refine Aj ?_;refine AC.seq ?_;refine AC.block ?_;refine sR 1600 ?_;refine A7.own _ (uR cg rfl (tD (C8.of (SM lu)) (C8.of (.refl _)) (C8.of (.refl _))) AH ce) ?_;rintro d H' n5 ⟨⟨t,rfl,ht1,ht2,ht3⟩,rfl,rfl⟩;refine BJ ?_;obtain⟨Pn,eP,lPn,wPn,vPn⟩:=dV SI;have hA:(u.take j).length=j:=by rw[Bg];omega
  have p2l:=SI.p2l;have hdl:AM ((u.drop j).take (m+3))/AM v<RB:=Eg SI.less;have hU:u.map AX=blk (u.take j) Pn (p2:Int) (u.drop (j+(m+3))):=by rw[SC,<-eP,<-aK]
  have J:=λP' h1 h2 h3=>dT (P':=P') I vpos (by omega) (by omega) hz hP h1 h2 h3 hdl
  obtain⟨zq,hzq⟩:=CG (l:=q) (i:=j) (by rw[I.lQ];omega);have hzq':=DV hzq;have wi':IntKind.i64.wrap ((j:Int)-1)=(j:Int)-1:=wI (by omega) (by omega);have wjn:IntKind.i64.wrap ((j:Int)+((m+2:Nat):Int))=((j+(m+2):Nat):Int):=by rw[wI (by omega) (by omega)];omega
  have hVW:=Fd wv;rw[show v.length=m+2 from hvl]at hVW;rw[hU];clear hU cg hP hz SI eP h20 wj I h1 h2 v10;generalize(u.drop j).take (m+3)=P at*;generalize u.take j=A at*;generalize u.drop (j+(m+3))=Z at*;refine sR 1700 ?_;refine AC.seq ?_;refine sR 1800 ?_;refine AC.block ?_;refine AC.loop (α:=Nat×Nat×List Nat×Nat) (λp=>⟨[(8,.sl true 1 [AX f]),(9,.sl false 1 (v.map AX)),(10,i64 ((m+2:Nat):Int)),(11,.osl 1102 n3 1 0 (la.length+1)),(12,.osl 1204 g 1 0 (lq+1)),(13,i64 (j:Int)),(14,AX t),(15,AX p.2.1),(16,i64 p.1)],[⟨1204,g,3,1,q.map AX⟩,⟨1102,n3,3,1,blk A p.2.2.1 (p2:Int) Z⟩],p.2.2.2⟩) (λp=>m+2-p.1)
   (λp=>p.1<=m+2/\p.2.1<=RB/\p.2.2.1.length=m+2/\Rd p.2.2.1/\AM p.2.2.1+t*AM (v.take p.1)=AM Pn+RB^p.1*p.2.1) (0,0,Pn,_) ⟨BZ _,BZ _,lPn,wPn,by simp[AM]⟩ AL ?_
  rintro⟨i,c,N,n6⟩ F ⟨hi,hc,hNl,hNw,hI⟩;dsimp only at hi hc hNl hNw hI⊢;refine AC.seq ?_;refine sR 1900 ?_;refine AI ?_
  (refine Bn (λhlt=>?_) (λhlt=>?_))<;>(try simp only[Bc,Bk]at hlt)<;>(try simp only[hlt])
  ·have hi2:i<m+2:=by
    have:=Cs hlt
    omega
   obtain⟨x,hx⟩:=CG (l:=v) (i:=i) (by omega);have hx':=DV hx;have hxl:x<RB:=wv x (A8 hx);obtain⟨z,hz⟩:=CG (l:=N) (i:=i) (by omega);have hzl:=hNw z (A8 hz);have hz':=Xu (A:=A) (Z:=Z) (top:=(p2:Int)) hz;rw[hA]at hz';obtain⟨p,x',lo,hi',d,c',e,k1,k2,k3,k4,k5,dl,cl,hI',hb⟩:=km hz hx ht1 hxl hc hzl hI;have hset:(blk A N (p2:Int) Z).set (j+i) (AX d)=blk A (N.set i d) (p2:Int) Z:=by
    have:=WQ (A:=A) (Z:=Z) (top:=(p2:Int)) (i:=i) (d:=d) (N:=N) (by omega)
    rwa [hA]at this
   have wij:IntKind.i64.wrap ((i:Int)+(j:Int))=((j+i:Nat):Int):=by rw[wI (by omega) (by omega)];omega
   have wi:IntKind.i64.wrap ((i:Int)+1)=((i+1:Nat):Int):=wI (by omega) (by omega);clear hI J hVW vPn ht2 ht3 hdl;refine Aj ?_;refine AC.seq ?_;refine AC.block ?_;refine sZ 2100 ?_;refine AD kN ?_;refine Bi kT hx' ?_;refine AD (Ar kN k1 k2) ?_;refine sZ 2200 ?_;refine AD (EU wij kN BT hz' k3 k5) ?_;refine sZ 2300 ?_;refine AT k4 ?_;rcases hb with⟨b1,b2,b3⟩|⟨b1,b2,b3⟩
   ·refine AC.seq ?_
    refine sZ 2400 ?_;refine AT b1 ?_;refine AI ?_;refine Aj ?_;subst b2 b3;refine Ak w1 2700 (by kernel_rfl) ?_;refine AD (Ba wij kN BT hz') ?_;rw[hset];refine Ak w1 2000 (by kernel_rfl) ?_;refine AT wi ?_;exact⟨(i+1,hi',N.set i d,_),⟨hi2,cl,by dsimp only;rw[DZ];exact hNl,hNw.set dl,hI'⟩,by dsimp only;omega,AL⟩
   ·refine AC.seq ?_
    refine sZ 2400 ?_;refine AT b1 ?_;refine AI ?_;refine sZ 2500 ?_;refine AT b2 ?_;refine Ak w1 2600 (by kernel_rfl) ?_;refine AT b3 ?_;refine Ak w1 2700 (by kernel_rfl) ?_;refine AD (Ba wij kN BT hz') ?_;rw[hset];refine Ak w1 2000 (by kernel_rfl) ?_;refine AT wi ?_;exact⟨(i+1,c',N.set i d,_),⟨hi2,cl,by dsimp only;rw[DZ];exact hNl,hNw.set dl,hI'⟩,by dsimp only;omega,AL⟩
  ·have hi2:i=m+2:=by
    have:=C7 hlt
    omega
   subst hi2;rw[B5 (by omega)]at hI;have hNlt:=Fd hNw;rw[hNl]at hNlt;have htop:=SE (A:=A) (Z:=Z) (top:=(p2:Int)) hNl;have hstop:=Vr (A:=A) (Z:=Z) (top:=(p2:Int)) (t:=(p2:Int)-(c:Int)) hNl;have htop2:=SE (A:=A) (Z:=Z) (top:=(p2:Int)-(c:Int)) hNl;rw[hA]at htop hstop htop2;have p2l9:p2<1000000000:=p2l;have hc9:c<=1000000000:=hc;have wzc:IntKind.i64.wrap ((p2:Int)-(c:Int))=(p2:Int)-(c:Int):=wI (by omega) (by omega);refine By ?_;refine sZ 2800 ?_;refine AD (CH wjn kN BT htop wzc) ?_;rw[hstop];rcases BL p2 c with h|h
   ·have e29:decide ((p2:Int)-(c:Int)<0)=true:=AZ (by omega)
    have ht9:t<1000000000:=ht1;have wt:IntKind.i64.wrap ((t:Int)-1)=(t:Int)-1:=wI (by omega) (by omega);refine AC.seq ?_;refine sZ 2900 ?_;refine AD (CH wjn kN BT htop2 e29) ?_;refine AI ?_;refine sZ 3000 ?_;refine AT wt ?_;refine sR 3100 ?_;refine AC.seq ?_;refine sR 3200 ?_;refine AC.block ?_;refine AC.loop (α:=Nat×Nat×List Nat×Nat) (λp=>⟨[(8,.sl true 1 [AX f]),(9,.sl false 1 (v.map AX)),(10,i64 ((m+2:Nat):Int)),(11,.osl 1102 n3 1 0 (la.length+1)),(12,.osl 1204 g 1 0 (lq+1)),(13,i64 (j:Int)),(14,i64 ((t:Int)-1)),(19,AX p.2.1),(20,i64 p.1)],[⟨1204,g,3,1,q.map AX⟩,⟨1102,n3,3,1,blk A p.2.2.1 ((p2:Int)-(c:Int)) Z⟩],p.2.2.2⟩) (λp=>m+2-p.1)
     (λp=>p.1<=m+2/\p.2.1<=1/\p.2.2.1.length=m+2/\Rd p.2.2.1/\AM p.2.2.1+RB^p.1*p.2.1=AM N+AM (v.take p.1)) (0,0,N,_) ⟨BZ _,BZ _,hNl,hNw,by simp[AM]⟩ AL ?_
    rintro⟨i,c2,N2,n7⟩ F ⟨hi,hc2,hNl2,hNw2,hI2⟩;dsimp only at hi hc2 hNl2 hNw2 hI2⊢;clear htop hstop;refine AC.seq ?_;refine sR 3300 ?_;refine AI ?_
    (refine Bn (λhlt2=>?_) (λhlt2=>?_))<;>(try simp only[Bc,Bk]at hlt2)<;>(try simp only[hlt2])
    ·have hi2:i<m+2:=by
      have:=Cs hlt2
      omega
     obtain⟨x,hx⟩:=CG (l:=v) (i:=i) (by omega);have hx':=DV hx;have hxl:x<RB:=wv x (A8 hx);obtain⟨z,hz⟩:=CG (l:=N2) (i:=i) (by omega);have hzl:=hNw2 z (A8 hz);have hz':=Xu (A:=A) (Z:=Z) (top:=(p2:Int)-(c:Int)) hz;rw[hA]at hz';obtain⟨p,s,d,c',k1,k2,k3,k4,dl,cl,hI'⟩:=kX hz hx hxl hc2 hzl hI2;have hset:(blk A N2 ((p2:Int)-(c:Int)) Z).set (j+i) (AX d)=blk A (N2.set i d) ((p2:Int)-(c:Int)) Z:=by
      have:=WQ (A:=A) (Z:=Z) (top:=(p2:Int)-(c:Int)) (i:=i) (d:=d) (N:=N2) (by omega)
      rwa [hA]at this
     have wij:IntKind.i64.wrap ((i:Int)+(j:Int))=((j+i:Nat):Int):=by rw[wI (by omega) (by omega)];omega
     have wi:IntKind.i64.wrap ((i:Int)+1)=((i+1:Nat):Int):=wI (by omega) (by omega);clear hI2 hI J hVW vPn ht2 ht3 hdl;refine Aj ?_;refine AC.seq ?_;refine AC.block ?_;refine AC.seq ?_;refine Bx w1 3500 [0,1,2,3,4,5,6,7,8,9,10,11] [12,13] (by kernel_rfl) ?_;refine AD (Ba wij kN BT hz') ?_;refine Bi kT hx' ?_;refine AD (Ar kN k1 k2) ?_;refine sZ 3600 ?_;refine AD (CH wij kN BT hz' k3) ?_;rw[hset];refine Ak w1 3700 (by kernel_rfl) ?_;refine AT k4 ?_;refine Ak w1 3400 (by kernel_rfl) ?_;refine AT wi ?_;exact⟨(i+1,c',N2.set i d,_),⟨hi2,cl,by dsimp only;rw[DZ];exact hNl2,hNw2.set dl,hI'⟩,by dsimp only;omega,AL⟩
    ·have hi2:i=m+2:=by
      have:=C7 hlt2
      omega
     subst hi2;rw[B5 (by omega)]at hI2;have hNlt2:=Fd hNw2;rw[hNl2]at hNlt2;obtain⟨t0,g1,g2,g3⟩:=kj hI vPn h hNlt ht3 hI2 hc2 hNlt2 hVW;have htop3:=SE (A:=A) (Z:=Z) (top:=(p2:Int)-(c:Int)) hNl2;have hstop3:=Vr (A:=A) (Z:=Z) (top:=(p2:Int)-(c:Int)) (t:=((0:Nat):Int)) hNl2;rw[hA]at htop3 hstop3;have wfin:IntKind.i64.wrap ((p2:Int)-(c:Int)+(c2:Int))=((0:Nat):Int):=by rw[g3];rfl
     have et:(t:Int)-1=((t-1:Nat):Int):=by omega
     obtain⟨f1,f2,f3⟩:=ZN (P:=P) (V:=AM v) hNl2 hNw2 (z:=0) (by decide) (by rw[EE,DJ];exact g2.symm);have J1:=J _ f1 f2 f3;rw[g1]at J1;refine By ?_;refine Ak w1 3800 (by kernel_rfl) ?_;refine AD (CH wjn kN BT htop3 wfin) ?_;rw[hstop3,SC,et];refine Ak w1 3900 (by kernel_rfl) ?_;refine AD (Ar kN BT hzq') ?_;rw[Lt];refine Ak w1 1500 (by kernel_rfl) ?_;refine AT wi' ?_;exact⟨(j,A++((N2++[0])++Z),q.set j (t-1),_),⟨by dsimp only;omega,J1⟩,by dsimp only;omega,AL⟩
   ·have e29:decide ((p2:Int)-(c:Int)<0)=false:=Ad (by omega)
    obtain⟨g1,g2⟩:=ki hI vPn h ht2;have ezc:(p2:Int)-(c:Int)=((p2-c:Nat):Int):=by omega
    obtain⟨f1,f2,f3⟩:=ZN hNl hNw (z:=p2-c) (by omega) g2.symm;have J1:=J _ f1 f2 f3;rw[g1]at J1;refine AC.seq ?_;refine sZ 2900 ?_;refine AD (CH wjn kN BT htop2 e29) ?_;refine AI ?_;refine Aj ?_;rw[ezc,SC];refine Ak w1 3900 (by kernel_rfl) ?_;refine AD (Ar kN BT hzq') ?_;rw[Lt];refine Ak w1 1500 (by kernel_rfl) ?_;refine AT wi' ?_;exact⟨(j,A++((N++[p2-c])++Z),q.set j t,_),⟨by dsimp only;omega,J1⟩,by dsimp only;omega,AL⟩
 ·have hk:k=0:=by
   have:¬((k:Int)-1>=0):=by simpa using h20
   omega
  subst hk;obtain⟨q1,q2⟩:=fh f0 I vv;have wu:=I.wU;have wqq:=I.wq;have lu:=I.lU;have lqq:=I.lQ;have hlt:AM u<RB^(m+2):=by
   have:=I.less
   rw[FC]at this;have h:=Fd wv;rw[show v.length=m+2 from hvl]at h;omega
  have hta:=dW hlt (by omega);have hll:=KK hlt;rw[q2]at hll hta;have ed:a%b*f/f=a%b:=Nat.mul_div_cancel _ f0;have cd:=UR (a%b*f) f f0 fl (by omega);rw[ed]at cd;clear I;refine By ?_;refine AC.weak ⟨[(8,.sl true 1 [AX f]),(10,i64 ((m+2:Nat):Int)),(11,.sl false 1 (u.map AX)),(12,.sl false 1 (q.map AX))],[],_⟩ ⟨.drop (.drop .nil),⟨.refl _,.refl _,SM lu,SM lqq,trivial⟩,Af _⟩ ?_;have e5:List.take (m+2) (u.map AX)=(u.take (m+2)).map AX:=by
   rw[List.map_take]
  have eu2:(u.map AX).length=la.length+1:=by rw[An];omega
  have ct:=Kh (u.take (m+2)) (wu.take _) (by rw[Bg];omega);rw[hta]at ct;refine AC.seq ?_;refine Bx w1 4000 [0,1,2,3,4,5,6,7,8,9,10,11] [12] (by kernel_rfl) ?_;refine AD (Ba kN Nat.sub_zero (@FC D) e5) ?_;refine BQ.same _ ct AH ?_;have hf0:([AX f]:List D)[0]?=some (AX f):=rfl;refine AD kN ?_;refine Bi kT hf0 ?_;refine AD kN ?_;refine BQ.same _ cd AH ?_;refine AD kN ?_;refine sR 4100 ?_;refine A7.same _ (Kh q wqq (by omega)) AH ?_;refine BJ ?_;refine Ab ?_;exact AN (by rw[q1]) AA.out
theorem Ta (a b:Nat)(hb:b≠0)(ha:(AW a).length<1000000)(hbl:(AW b).length<1000000):AK C0 176 [rD a,rD b] (.tup [rD (a/b),rD (a%b)]):=by
 rcases BL a b with h|h
 ·exact fj a b h ha hbl
 ·rcases hl:(AW b).length with _|m
  ·have:=H7 b
   rw[hl]at this;simp at this;exact Ae this hb
  ·rcases m with _|m
   ·exact iJ a b h ha hl hb
   ·exact fk a b m h ha hl
abbrev rZ (z:Int):D:=.agg [Aq (decide (z<0)),rD z.natAbs]
def sg (neg:Bool)(n:Nat):Int:=if neg then -(n:Int)else n
theorem ij {n:Nat}:0<(AW n).length↔n≠0:=by
 constructor
 ·rintro h rfl
  rw[F3]at h;cases h
 ·intro h
  rw[H9 h,Bj];exact Nat.succ_pos _
theorem VY (n:Nat):decide (((((AW n).map AX).length:Nat):Int)>0)=decide (n≠0):=by
 have:=@ij n
 rw[An];exact Cn.2 ⟨λh=>this.1 (by omega),λh=>by have:=this.2 h;omega⟩
theorem sM (neg:Bool)(n:Nat):rZ (sg neg n)=.agg [Aq (neg&&decide (n≠0)),rD n]:=by
 unfold rZ sg;cases neg
 ·simp only[HF,if_false,J6,D6]
  rw[Ad (by omega)]
 ·simp only[if_true,Hq,K7,D6]
  congr 3
  exact Cn.2 (by omega)
theorem P6 (z:Int):sg (decide (z<0)) z.natAbs=z:=by
 unfold sg
 by_cases h:z<0
 ·rw[AZ h,AF rfl];omega
 ·rw[Ad h,AE (by decide)];omega
theorem Sp (b:Bool)(n:Nat):Bw (.agg [Aq b,.sl false 1 ((AW n).map AX)]):=.agg λd hd=>by
 simp only[BA,DF,or_false]at hd;rcases hd with rfl|rfl
 ·exact .prim _
 ·exact NH _
def GD (z:Int):Prop:=(AW z.natAbs).length<1000000
instance  (b:Bool)(n:Nat):AA (.agg [Aq b,rD n]):=⟨Sp b n⟩
theorem Vt (a b:Nat)(fa:(AW a).length<1000000)(fb:(AW b).length<1000000):AK C0 175 [rD a,rD b] (rD (Nat.gcd a b)):=by
 refine Ai.walk w1 mJ rfl λF=>?_
 change AC C0 F none F _ ⟨C5 0 [.sl false 1 ((AW a).map AX),.sl false 1 ((AW b).map AX)],[],0⟩ _;refine sR 0 ?_;refine AC.seq ?_;refine AC.block ?_;refine AC.loop (α:=Nat×Nat×Nat) (λp=>⟨[(0,.sl false 1 ((AW p.1).map AX)),(1,.sl false 1 ((AW p.2.1).map AX))],[],p.2.2⟩) (λp=>p.2.1)
  (λp=>Nat.gcd p.1 p.2.1=Nat.gcd a b/\(AW p.1).length<1000000/\(AW p.2.1).length<1000000) (a,b,_) ⟨rfl,fa,fb⟩ AL ?_
 rintro⟨x,y,n⟩ F ⟨h1,h2,h3⟩;dsimp only at h1 h2 h3⊢;have et:=VY y;refine AC.seq ?_;refine sZ 100 ?_;refine AT et ?_
 by_cases hy:y=0
 ·rw[Ad (by simpa using hy)]
  subst hy;refine AI ?_;refine By ?_;refine sR 400 ?_;refine Ab ?_;refine AN (d0:=rD x) ?_ AA.out;rw[<-h1,Nat.gcd_zero_right]
 ·rw[AZ hy]
  have cd:=Ta x y hy h2 h3;refine AI ?_;refine Aj ?_;refine AC.block ?_;refine sR 200 ?_;refine cI cd ?_;refine rI 300 ?_;refine⟨(y,x%y,_),⟨?_,h3,?_⟩,Bs x (by omega),AL⟩
  ·dsimp only
   rw[<-h1,MT x y,Nat.gcd_rec y x,MT]
  ·exact DH (H6 _ _ (Nat.mod_le x y)) h2
theorem WC (neg:Bool)(l:List Nat)(h:Rd l)(hl:l.length<1000000000):AK C0 177 [Aq neg,rL l] (rZ (sg neg (AM l))):=by
 refine Ai.walk w1 Xp rfl λF=>?_
 rw[sM];have ct:=Kh l h (by omega);generalize AM l=n at*;have et:=VY n;unfold rD at ct⊢;unfold rL at ct⊢;refine sR 0 ?_;refine sR 100 ?_;refine cI ct ?_;refine AC.seq ?_;cases neg
 ·refine Ak w1 200 (by kernel_rfl) ?_
  refine AD et ?_;refine Ab ?_;exact AN (by simp) (Sp _ n)
 ·refine Ak w1 200 (by kernel_rfl) ?_
  refine AD et ?_;refine Ab ?_;exact AN (by simp) (Sp _ n)
theorem KU (neg:Bool)(n:Nat)(h:(AW n).length<1000000000):AK C0 177 [Aq neg,rD n] (rZ (sg neg n)):=by
 have:=WC neg (AW n) (EG n) h
 rwa [Dl]at this
theorem Wm (z:Int)(h:GD z):AK C0 174 [rZ z] (rZ (-z)):=by
 have cs:=KU (!decide (z<0)) z.natAbs (FS h (by decide));have e:rZ (sg (!decide (z<0)) z.natAbs)=rZ (-z):=by
  congr 1
  unfold sg
  by_cases hz:z<0
  ·rw[AZ hz];simp;omega
  ·rw[Ad hz];simp;omega
 rw[e]at cs;refine Ai.walk w1 mI rfl λF=>?_
 refine sR 0 ?_;refine sR 100 ?_;refine cI cs ?_;refine Ab ?_;exact AN rfl AA.out
theorem SA (x y:Int)(hx:GD x)(hy:GD y):AK C0 125 [rZ x,rZ y] (rZ (x*y)):=by
 have cm:=S6 x.natAbs y.natAbs hx hy;have hl:(AW (x.natAbs*y.natAbs)).length<1000000000:=DH (Q7 _ _) (by unfold GD at hx hy;omega);have cs:=λb=>KU b (x.natAbs*y.natAbs) hl
 have e:sg (decide (x<0) != decide (y<0)) (x.natAbs*y.natAbs)=x*y:=by
  conv=>rhs;rw[<-P6 x,<-P6 y]
  generalize decide (x<0)=a;generalize decide (y<0)=b;unfold sg;cases a<;>cases b<;>simp[Int.neg_mul,Int.mul_neg]
 rw[<-e];refine Ai.walk w1 me rfl λF=>?_
 refine sR 0 ?_;refine AC.seq ?_;refine Bx w1 100 [0,1,2,3,4,5,6,7,8,9] [10,11] (by kernel_rfl) ?_;refine AD kN ?_;refine BQ.same _ cm AH ?_;refine AD kN ?_;refine A7.same _ (cs _) AH ?_;refine BJ ?_;refine Ab ?_;exact AN rfl AA.out
theorem gM {a b:Nat}(h:b<=a):decide (Dd (a:Int) (b:Int)>=0)=true:=AZ (by unfold Dd;split<;>(try split)<;>omega)
theorem gN {a b:Nat}(h:a<b):decide (Dd (a:Int) (b:Int)>=0)=false:=Ad (by unfold Dd;split<;>(try split)<;>omega)
theorem pH (x y:Int)(hx:GD x)(hy:GD y):AK C0 225 [rZ x,rZ y] (rZ (x+y)):=by
 refine Ai.walk w1 nq rfl λF=>?_
 unfold GD at hx hy;cases hs:(decide (x<0)==decide (y<0))
 ·have hs':decide (x<0)≠decide (y<0):=by simpa using hs
  have hs2:(x<0/\¬y<0)\/(¬x<0/\y<0):=by
   by_cases h1:x<0<;>by_cases h2:y<0<;>simp_all
  have cc:=QA x.natAbs y.natAbs (by omega) (by omega);refine sR 0 ?_;refine AC.seq ?_;refine sZ 100 ?_;refine AT hs ?_;refine AI ?_;refine Aj ?_;refine AC.seq ?_;refine sR 300 ?_;refine cI cc ?_;rcases BL x.natAbs y.natAbs with h|h
  ·have cb:=aG y.natAbs x.natAbs (JC h) hy
   have cs:=KU (decide (y<0)) (y.natAbs-x.natAbs) (DH (Ua _ _) (by omega));have e:sg (decide (y<0)) (y.natAbs-x.natAbs)=x+y:=by
    unfold sg
    by_cases hy0:y<0
    ·rw[AZ hy0,AF rfl];omega
    ·rw[Ad hy0,AE (by decide)];omega
   rw[e]at cs;rw[gN h];refine AI ?_;refine Aj ?_;refine AC.seq ?_;refine Bx w1 500 [0,1,2,3,4,5,6] [7,8] (by kernel_rfl) ?_;refine AD kN ?_;refine BQ.same _ cb AH ?_;refine AD kN ?_;refine A7.same _ cs AH ?_;refine BJ ?_;refine Ab ?_;exact AN rfl AA.out
  ·have cb:=aG x.natAbs y.natAbs h hx
   have cs:=KU (decide (x<0)) (x.natAbs-y.natAbs) (DH (Ua _ _) (by omega));have e:sg (decide (x<0)) (x.natAbs-y.natAbs)=x+y:=by
    unfold sg
    by_cases hx0:x<0
    ·rw[AZ hx0,AF rfl];omega
    ·rw[Ad hx0,AE (by decide)];omega
   rw[e]at cs;rw[gM h];refine AI ?_;refine AC.seq ?_;refine Bx w1 400 [0,1,2,3,4,5,6] [7,8] (by kernel_rfl) ?_;refine AD kN ?_;refine BQ.same _ cb AH ?_;refine AD kN ?_;refine A7.same _ cs AH ?_;refine BJ ?_;refine Ab ?_;exact AN rfl AA.out
 ·have hs':decide (x<0)=decide (y<0):=by simpa using hs
  have ca:=rQ x.natAbs y.natAbs hx hy;have cs:=KU (decide (x<0)) (x.natAbs+y.natAbs) (DH (UZ _ _) (by omega));have e:sg (decide (x<0)) (x.natAbs+y.natAbs)=x+y:=by
   unfold sg
   by_cases hx0:x<0
   ·have hy0:y<0:=Cs (hs'.symm.trans (AZ hx0))
    rw[AZ hx0,AF rfl];omega
   ·have hy0:¬y<0:=C7 (hs'.symm.trans (Ad hx0))
    rw[Ad hx0,AE (by decide)];omega
  rw[e]at cs;refine sR 0 ?_;refine AC.seq ?_;refine sZ 100 ?_;refine AT hs ?_;refine AI ?_;refine AC.seq ?_;refine Bx w1 200 [0,1,2,3,4,5,6] [7,8] (by kernel_rfl) ?_;refine AD kN ?_;refine BQ.same _ ca AH ?_;refine AD kN ?_;refine A7.same _ cs AH ?_;refine BJ ?_;refine Ab ?_;exact AN rfl AA.out
theorem bn (k m:Nat):EY (k+1) m []=EY k (m/10) []++[UInt8.ofNat (48+m%10)]:=by
 rw[<-UD (k+1) m [] (.inr (Nat.succ_pos k))];unfold EY K4
 by_cases h:m/10=0
 ·rw[AF h,AF h];simp
 ·rw[AE h,AE h]
  rw[DN,B1,GL,Nat.add_sub_add_right,D2]
theorem SF:∀(k hi d:Nat),hi≠0->d<10^k->Lib.decDigits (hi*10^k+d)=Lib.decDigits hi++EY k d []
 | 0,hi,d,_,hd=>by
  have h0:d=0:=by simpa using hd
  subst h0;rw[K8,Du,DJ];simp[EY,K4]
 |k+1,hi,d,hh,hd=>by
  have e1:hi*10^(k+1)=10*(hi*10^k):=by rw[B9,<-Bo,BN]
  have h1:1<=10^k:=Nat.pow_pos (by decide);have h2:1<=hi*10^k:=Gm (Di hh) h1;have h3:¬hi*10^(k+1)+d<10:=by omega
  have h4:d/10<10^k:=by rw[B9]at hd;omega
  rw[bn,<-D2,<-SF k hi (d/10) hh h4];rw[Lib.decDigits,dif_neg h3,e1]
  congr 2
  ·omega
  ·congr 1;omega
theorem lK (hi d:Nat)(h:hi≠0)(hd:d<RB):Lib.decDigits (d+RB*hi)=Lib.decDigits hi++EY 9 d []:=by
 have:=SF 9 hi d h (CM hd (by decide))
 rw[<-this]
 congr 1
 rw[BN,J7]
theorem M7 {l:List Nat}(h:Rd l):(Lib.decDigits (AM l)).length<=9*l.length+1:=by
 have h1:=Fd h;have e:RB^l.length=10^(9*l.length):=by rw[Nat.pow_mul]
 rw[e]at h1;refine LG _ _ (FS h1 ?_);exact Nat.pow_lt_pow_right (by decide) (Gi _)
theorem Wz (neg:Bool)(n:Nat)(h:neg=true->n≠0):Lib.itoa (sg neg n)=if neg then 45::Lib.decDigits n else Lib.decDigits n:=by
 unfold Lib.itoa sg;cases neg
 ·simp only[HF,if_false]
  rw[AE (by omega)];rfl
 ·have:=h rfl
  simp only[if_true];rw[AF (by omega),K7];rfl
theorem qW (neg:Bool)(n:Nat)(h:neg=true->n≠0)(hl:(AW n).length<1000000):AK C0 126 [.agg [Aq neg,rD n]] (str (sb (Lib.itoa (sg neg n)))):=by
 refine Ai.walk w1 mg rfl λF=>?_
 rw[Wz neg n h];change AC C0 F none F _ ⟨C5 0 [.agg [Aq neg,.sl false 1 ((AW n).map AX)]],[],0⟩ _;have vn:=Dl n;have wn:=EG n;have tp:=λk a=>OY n (k:=k) (a:=a)
 generalize AW n=l at*;subst vn;rcases hc:l.length with _|m
 ·have e0:l=[]:=FA hc
  subst e0;have hn:neg=false:=by cases neg;rfl;exact Ae rfl (h rfl)
  subst hn;have e1:Lib.decDigits (AM [])=[48]:=by unfold Lib.decDigits AM;rw[dif_pos (by decide)];rfl
  rw[AE (by decide),e1];refine sR 0 ?_;refine AC.seq ?_;refine sR 100 ?_;refine AI ?_;refine sR 200 ?_;refine Ab ?_;exact AN rfl AA.out
 ·obtain⟨y,hy⟩:=CG (l:=l) (i:=m) (by omega)
  have yl:=wn y (A8 hy);have y0:=tp m y hc hy;have hy':=DV hy;have el:(((l.map AX).length:Nat):Int)=((m+1:Nat):Int):=by rw[An,hc]
  have et:(((m+1:Nat):Int)==0)=false:=Bv.2 (by omega);have w0:IntKind.i64.wrap (((m+1:Nat):Int)-1)=(m:Int):=by rw[wI (by omega) (by omega)];omega
  have w2:IntKind.i64.wrap (((m+1:Nat):Int)-2)=(m:Int)-1:=by rw[wI (by omega) (by omega)];omega
  have cd:=Ol y 1 (by unfold RB at yl;omega);rw[Wh]at cd;have wr0:IntKind.i64.wrap ((((l.map AX).length:Nat):Int)-1)=(m:Int):=by rw[el,w0]
  have ed:l.drop m=[y]:=by
   rw[D9 (by omega),Gj (by omega)];rw[BD (by omega)]at hy;rw[FX hy]
  refine sR 0 ?_;refine AC.seq ?_;refine sZ 100 ?_;refine AT (Ah el et) ?_;refine AI ?_;refine Aj ?_;refine sZ 300 ?_;refine AD (Ba el w0 wr0 kN) ?_;refine Bi kT hy' ?_;refine AD kN ?_;refine A7.same _ cd AH ?_;refine BJ ?_;have ev:AM (l.drop m)=y:=by rw[ed];simp[AM]
  refine AC.seq ?_;refine sZ 400 ?_;refine AT (Ah el w2) ?_;refine AC.block ?_;refine AC.loop (α:=Nat×Nat) (λp=>⟨[(1,.optr 0 0 2 0 0),(3,str (sb (Lib.decDigits (AM (l.drop p.1))))),(4,i64 ((p.1:Int)-1))],[⟨0,0,165,2,[.agg [Aq neg,.sl false 1 (l.map AX)]]⟩],p.2⟩) (λp=>p.1)
   (λp=>p.1<=m/\AM (l.drop p.1)≠0) (m,_) ⟨Af _,by dsimp only;rw[ev];exact y0⟩ (by dsimp only;rw[ev];exact AL) ?_
  rintro⟨k,n1⟩ F ⟨h1,h2⟩;dsimp only at h1 h2⊢;clear cd;refine AC.seq ?_;refine sR 500 ?_;refine AI ?_
  (refine Bn (λh20=>?_) (λh20=>?_))<;>(try simp only[Bc,Bk]at h20)<;>(try simp only[h20])
  ·obtain⟨j,rfl⟩:∃j,k=j+1:=⟨k-1,by
    have:(k:Int)-1>=0:=by simpa using h20
    omega⟩
   have wj:((j+1:Nat):Int)-1=(j:Int):=by omega
   obtain⟨d,hd⟩:=CG (l:=l) (i:=j) (by omega);have hd':=DV hd;have dl:=wn d (A8 hd);have c9:=Ol d 9 (by unfold RB at dl;omega);have eD:Lib.decDigits (AM (l.drop (j+1)))++EY 9 d []=Lib.decDigits (AM (l.drop j)):=by rw[Oc hd,lK _ _ h2 dl]
   have hlen:=M7 (l:=l.drop j) λa ha=>wn a (J4 ha)
   rw[<-eD,B1,Dj]at hlen;have h3:AM (l.drop j)≠0:=by
    rw[Oc hd]
    have:0<RB*AM (l.drop (j+1)):=Gm (by decide) (Di h2)
    omega
   have z1:=CS (Lib.decDigits (AM (l.drop (j+1))));have z2:=NE (EY 9 d []);have wi:IntKind.i64.wrap ((j:Int)-1)=(j:Int)-1:=wI (by omega) (by omega);rw[wj];refine Aj ?_;refine AC.seq ?_;refine AC.block ?_;refine Ak w1 700 (by kernel_rfl) ?_;refine AD kN ?_;refine Bi kT hd' ?_;refine AD kN ?_;refine A7.same _ c9 AH ?_;refine BJ ?_;rw[IG,eD];refine Ak w1 600 (by kernel_rfl) ?_;refine AT wi ?_;exact⟨(j,_),⟨by dsimp only;omega,h3⟩,by dsimp only;omega,AL⟩
  ·have hk:k=0:=by
    have:¬((k:Int)-1>=0):=by simpa using h20
    omega
   subst hk;rw[FC]at h2⊢;have hlen:=M7 wn;have z1:=CS (Lib.decDigits (AM l));have z2:(⟨#[45]⟩:ByteArray).size=1:=rfl;refine By ?_;refine AC.seq ?_;refine AC.seq ?_;cases neg
   ·refine rI 800 ?_
    refine AI ?_;refine Aj ?_;rw[AE (by decide)];refine sR 1000 ?_;refine Ab ?_;exact AN rfl AA.out
   ·refine rI 800 ?_
    refine AI ?_;rw[AF rfl];refine sR 900 ?_;refine Ab ?_;refine AN ?_ AA.out;show str ((⟨([45]:List UInt8).toArray⟩:ByteArray)++⟨(Lib.decDigits (AM l)).toArray⟩)=_;rw[IG];rfl
theorem ZX (z:Int)(h:GD z):AK C0 126 [rZ z] (str (sb (Lib.itoa z))):=by
 have:=qW (decide (z<0)) z.natAbs (λh=>by have:=Cs h;omega) h
 rwa [P6]at this
theorem N0 {C:A0}{f:Nat}{ds ds':List D}{Φ:D->Prop}{H:Hp}{n:Nat}(Hf:Hp)(hc:Ai C f ds' Φ)(hH:CT H Hf H Hf)(hv:EF H Hf ds ds')
  (hp:Ac ds'):CQ C f ds H n (λd' H' n'=>Φ d'/\H'=Hf/\n'=n+1):=by
 refine⟨hc.1,λF ρ w vs m hfr hg hvs hr=>?_⟩;obtain⟨m',hO,hN⟩:=hH.mem m;obtain⟨l1,l2⟩:=hv.spec;refine(hc.2 (AJ F.X ρ Hf) w vs m.g (BP m.gn m.size) (λb hb=>m'.own_lt hb) (by omega) λi x hx=>?_).mono ?_
 ·have hi:i<ds'.length:=(List.getElem?_eq_some_iff.1 hx).1
  have hd0:ds[i]?=some ds[i]:=BD (by omega);exact hp.out x (A8 hx) _ _ _ _ _ ((l2 i _ x hd0 hx).rep m hO hN (hr i _ hd0))
 ·rintro e w' ⟨v,d',rfl,hb,hd',rep⟩
  have hb2:∀(b:Nat) (cs:Array Value) (T:Nat) (fz:Nat×Nat),w.heap[b]?=some (.cells cs T fz)->∃(cs':Array Value) (fz':Nat×Nat),w'.heap[b]?=some (.cells cs' T fz')/\cs'.size=cs.size:=λb cs T fz hh=>⟨cs,_,by
   rw[hb.block b (Array.getElem?_eq_some_iff.1 hh).1];exact hh,rfl⟩
  have x:BO ρ (AJ F.X ρ H) w ρ (AJ F.X ρ Hf) w':=⟨hb.size,λ_ _ _ h=>h,λb hb' hO2=>⟨λh=>hO2 (hO b h),hb.block b hb'⟩,hb2⟩
  have x':BO ρ (AJ F.X ρ Hf) w ρ (AJ F.X ρ Hf) w':=⟨hb.size,λ_ _ _ h=>h,λb hb' hO2=>⟨hO2,hb.block b hb'⟩,hb2⟩
  refine⟨v,_,Hf,n+1,ρ,rfl,⟨hd',rfl,rfl⟩,m'.same x' hb.os hb.tape hb.output hb.block,x,λk g hg'=>hfr k g (by omega),λe he=>?_,rep.mono ⟨Af _,λ_ _ _ h=>(by cases h),λb _ hO2=>⟨hO2,rfl⟩,λb cs T fz h=>⟨cs,_,h,rfl⟩⟩⟩;obtain⟨e',h1,h2,h3,_⟩:=hH.names e he
  have:=hg e' h1
  omega
theorem d5 {l:List UInt8}{i:Nat}{c:UInt8}(hc:l[i]?=some c)(hi:i<=BF l):(((c.toNat:Nat):Int)==47)=decide (i=BF l):=by
 have e1:(((c.toNat:Nat):Int)==47)=(c==47):=by
  rw[FU,Dt,Dt,<-UInt8.toNat_inj];exact⟨λh=>(show c.toNat=47 by omega),λh=>by rw[h];rfl⟩
 rw[e1];unfold BF at hi⊢;clear e1
 induction l generalizing i with
 |nil=>cases hc
 |cons a l ih=>
  rw[N5]at hi⊢;cases i with
  |zero=>
   cases hc
   by_cases h:c=47
   ·subst h;rfl
   ·have h1:(c != 47)=true:=by simpa using h
    have h2:(c==47)=false:=by simpa using h
    rw[AF h1,h2,Bj,Ad (by omega)]
  |succ i=>
   by_cases h:a=47
   ·subst h
    exact Ae hi (by simp)
   ·have h1:(a != 47)=true:=by simpa using h
    rw[AF h1,Bj]at hi⊢;rw[ih hc (by omega)];exact Cn.2 (by omega)
theorem PT (l:List UInt8)(h:l.all BX=true)(hl:l.length<=18):AK C0 170 [str (sb l)] (i64 (dv l:Int)):=by
 refine Ai.walk w1 mD rfl λF=>?_
 have hsz:=CS l;refine sR 0 ?_;refine sR 100 ?_;refine AC.seq ?_;refine sR 200 ?_;refine AC.block ?_;refine AC.loop (α:=Nat×Nat) (λp=>⟨[(0,str (sb l)),(3,i64 (dv (l.take p.1):Int)),(4,i64 (p.1:Int))],[],p.2⟩) (λp=>l.length-p.1) (λp=>p.1<=l.length) (0,_) (BZ _) AL ?_;rintro⟨i,n⟩ F hi;dsimp only at hi⊢;refine AC.seq ?_;refine sZ 300 ?_;refine AT hsz ?_;refine AI ?_
 (refine Bn (λhlt=>?_) (λhlt=>?_))<;>(try simp only[Bc,Bk]at hlt)<;>(try simp only[hlt])
 ·have hi2:i<l.length:=by
   have:=Cs hlt
   omega
  obtain⟨c,hc⟩:∃c,l[i]?=some c:=⟨l[i],BD hi2⟩
  have hcd:BX c=true:=CI.1 h c (A8 hc);obtain⟨c1,c2⟩:=KO hcd;have hg:(sb l).data.toList.getD i 0=c:=by
   show(l.toArray.toList).getD i 0=c;simp[hc]
  have hdl:dv (l.take i)<10^17:=by
   have:=Fi (l.take i) (CI.2 λa ha=>CI.1 h a (Hx ha))
   rw[Bg,Ei hi]at this;exact CM this (Ew (by decide) (by omega))
  have hnx:dv (l.take (i+1))=dv (l.take i)*10+(c.toNat-48):=by
   rw[D7,hc];show dv (l.take i++[c])=_;rw[Ms];simp[dv,GM]
  have k1:IntKind.i64.wrap (10*(dv (l.take i):Int))=((10*dv (l.take i):Nat):Int):=by rw[wI (by omega) (by omega)];omega
  have k2:IntKind.i64.wrap ((c.toNat:Nat):Int)=((c.toNat:Nat):Int):=wI (by omega) (by omega);have k3:IntKind.i64.wrap (((10*dv (l.take i):Nat):Int)+((c.toNat:Nat):Int))=((10*dv (l.take i)+c.toNat:Nat):Int):=by rw[wI (by omega) (by omega)];omega
  have k4:IntKind.i64.wrap (((10*dv (l.take i)+c.toNat:Nat):Int)-48)=((dv (l.take (i+1)):Nat):Int):=by rw[hnx,wI (by omega) (by omega)];omega
  have wi:IntKind.i64.wrap ((i:Int)+1)=((i+1:Nat):Int):=wI (by omega) (by omega);refine Aj ?_;refine AC.seq ?_;refine AC.block ?_;refine Ak w1 500 (by kernel_rfl) ?_;refine AT (EU kN hg k1 k2 k3 k4) ?_;refine Ak w1 400 (by kernel_rfl) ?_;refine AT wi ?_;exact⟨(i+1,_),hi2,by dsimp only;omega,AL⟩
 ·have hi2:i=l.length:=by
   have:=C7 hlt
   omega
  subst hi2;rw[B5 (Af _)];refine By ?_;refine sR 600 ?_;refine Ab ?_;exact AN rfl AA.out
theorem R7 (l:List UInt8)(hl:l.length<=1000000000):AK C0 169 [str (sb l)] (i64 (BF l:Int)):=by
 refine Ai.walk w1 mC rfl λF=>?_
 have hsz:=CS l;refine sR 0 ?_;refine AC.seq ?_;refine sR 100 ?_;refine AC.block ?_;refine AC.loop (α:=Nat×Nat) (λp=>⟨[(0,str (sb l)),(3,i64 (p.1:Int))],[],p.2⟩) (λp=>l.length-p.1) (λp=>p.1<=BF l) (0,_) (BZ _) AL ?_;rintro⟨i,n⟩ F hi;dsimp only at hi⊢;have hsl:=KR l;refine AC.seq ?_;refine sZ 200 ?_;refine AT hsz ?_;refine AI ?_
 (refine Bn (λhlt=>?_) (λhlt=>?_))<;>(try simp only[Bc,Bk]at hlt)<;>(try simp only[hlt])
 ·have hi2:i<l.length:=by
   have:=Cs hlt
   omega
  obtain⟨c,hc⟩:∃c,l[i]?=some c:=⟨l[i],BD hi2⟩
  have hg:(sb l).data.toList.getD i 0=c:=by
   show(l.toArray.toList).getD i 0=c;simp[hc]
  have wi:IntKind.i64.wrap ((i:Int)+1)=((i+1:Nat):Int):=wI (by omega) (by omega);have ht:(((c.toNat:Nat):Int)==47)=decide (i=BF l):=d5 hc hi;refine Aj ?_;refine AC.seq ?_;refine AC.block ?_;refine sZ 400 ?_;refine AT (Ar kN hg ht) ?_
  by_cases he:i=BF l
  ·rw[AZ he]
   refine AI ?_;refine sR 500 ?_;refine Ab ?_;exact AN (by rw[he]) AA.out
  ·rw[Ad he]
   refine AI ?_;refine Aj ?_;refine Ak w1 300 (by kernel_rfl) ?_;refine AT wi ?_;exact⟨(i+1,_),by dsimp only;omega,by dsimp only;omega,AL⟩
 ·have hi2:i=l.length:=by
   have:=C7 hlt
   omega
  refine By ?_;refine sZ 600 ?_;refine AT hsz ?_;refine Ab ?_;exact AN (by congr 3;omega) AA.out
theorem Vf {H Hf:Hp}{K g T:Nat}{l:List Nat}{N:Nat}(hl:l.length=N)(he:Hp.get H K=some ⟨K,g,T,1,l.map AX⟩:=by exact rfl)(hn:Hp.get Hf K=none:=by exact rfl):Fz H Hf (.osl K g 1 0 N) (.sl false 1 (l.map AX)):=by
 subst hl;have key:∀(j:Nat) (d d':D),(l.map AX)[0+j]?=some d->(l.map AX)[j]?=some d'->d=d':=λj d d' h1 h2=>by
  rw[BT]at h1;rw[h1]at h2;exact FX h2
 refine .osl (e:=⟨K,g,T,1,l.map AX⟩) he hn rfl rfl (by simp) (by simp) (λj d d' h1 h2=>by rw[key j d d' h1 h2]) λj d d' q c c' h1 h2 h3 h4=>?_
 rw[key j d d' h1 h2]at h3;rw[h3]at h4;cases h4;exact Fz.refl _
theorem PD (c:UInt8)(l:List UInt8):(((c.toNat:Nat):Int)==45)=C4 (c::l):=by
 show _=(c==45);rw[FU,Dt,Dt,<-UInt8.toNat_inj];exact⟨λh=>(show c.toNat=45 by omega),λh=>by rw[h];rfl⟩
abbrev Lz:At:=⟨0,0,165,2,[.agg [Aq false,CK]]⟩
theorem lO {x:List UInt8}(h:9<x.length):dv x=dv (x.take (x.length-9))*RB+dv (x.drop (x.length-9)):=by
 conv=>lhs;rw[<-Ef (x.length-9) x,Ms,Dj,show x.length-(x.length-9)=9 by omega]
theorem pJ (A B t n v:Nat):(A*B+t)*B^n+v=A*B^(n+1)+(v+B^n*t):=by
 rw[Bl,Bo,B9,BN B,BN t];omega
theorem Uw {x x0:List UInt8}{w:List Nat}(h9:9<x.length)(g1:x.all BX=true)(g2:x.length+w.length*9=x0.length)(g3:Rd w)(g4:dv x0=dv x*RB^w.length+AM w):
  (x.take (x.length-9)).all BX=true/\(x.take (x.length-9)).length+(w++[dv (x.drop (x.length-9))]).length*9=x0.length/\Rd (w++[dv (x.drop (x.length-9))]) /\
  dv x0=dv (x.take (x.length-9))*RB^(w++[dv (x.drop (x.length-9))]).length+AM (w++[dv (x.drop (x.length-9))]):=by
 refine⟨CI.2 λa ha=>CI.1 g1 a (Hx ha),?_,Rd.append g3 λa ha=>?_,?_⟩
 ·rw[Bg,B1,GL];omega
 ·simp only[BA,DF,or_false]at ha
  subst ha
  have:=Fi (x.drop (x.length-9)) (CI.2 λa ha=>CI.1 g1 a (J4 ha))
  rwa [Dj,show x.length-(x.length-9)=9 by omega]at this
 ·rw[g4,lO h9,GQ rfl,B1,GL]
  exact pJ _ _ _ _ _
theorem eU {x x0:List UInt8}{w:List Nat}(h9:x.length<=9)(g1:x.all BX=true)(g3:Rd w)(g4:dv x0=dv x*RB^w.length+AM w):Rd (w++[dv x])/\AM (w++[dv x])=dv x0:=by
 refine⟨Rd.append g3 λa ha=>?_,?_⟩
 ·simp only[BA,DF,or_false]at ha
  subst ha;exact CM (Fi x g1) (Ew (by decide) h9)
 ·rw[g4,GQ rfl,BN,J7]
theorem WM {w:List Nat}{a:Nat}:List.take w.length (w.map AX)++[i64 (a:Int)]=(w++[a]).map AX:=by
 rw[B5 (by rw[An];exact Af _),DP];rfl
theorem Wq (l:List UInt8)(hd:(Bf l).all BX=true)(hl:l.length<=1000000):AK C0 173 [str (sb l)] (rZ (rv l)):=by
 have er:rv l=sg (C4 l) (dv (Bf l)):=rfl;rw[er];refine Ai.walk w1 mH rfl λF=>?_
 have hsz:=CS l;have hdl:(Bf l).length<=l.length:=by
  unfold Bf;split
  ·rw[Dj];omega
  ·exact Af _
 refine sR 0 ?_;refine Cj (α:=Nat) (λn=>⟨[(0,str (sb l)),(2,.optr 0 0 2 0 0),(3,Aq (C4 l))],[Lz],n⟩) (λ_=>True) ?_ ?_
 ·cases l with
  |nil=>
   have e0:(sb []).size=0:=rfl;have e1:decide (((0:Nat):Int)>0)=false:=rfl;refine Ak w1 100 (by kernel_rfl) ?_;refine AD (Ah e0 e1) ?_;refine AD (Ah kF e1) ?_;exact⟨trivial,_,trivial,AL⟩
  |cons c l=>
   have hpos:(sb (c::l)).size=l.length+1:=hsz;have e0:decide (((sb (c::l)).size:Int)>0)=true:=AZ (by omega);have e1:((((c::l).getD (Int.toNat 0) 0).toNat:Int)==45)=C4 (c::l):=PD c l;refine Ak w1 100 (by kernel_rfl) ?_;refine AD e0 ?_;refine AD (Ar kT e0 e1) ?_;exact⟨trivial,_,trivial,AL⟩
 rintro n0 -;refine Cj (α:=Nat) (λn=>⟨[(0,str (sb (Bf l))),(2,.optr 0 0 2 0 0),(3,Aq (C4 l))],[Lz],n⟩) (λ_=>True) ?_ ?_
 ·refine sR 200 ?_
  cases hb:C4 l
  ·have ed:Bf l=l:=by unfold Bf;rw[hb];rfl
   rw[ed];refine AI ?_;refine Aj ?_;exact⟨rfl,_,trivial,AL⟩
  ·have ed:Bf l=l.drop 1:=by unfold Bf;rw[hb];rfl
   have hl0:1<=l.length:=by
    cases l with
    |nil=>cases hb
    |cons c l=>rw[Bj];omega
   have ee:(sb l).extract (Int.toNat 1) l.length=sb (Bf l):=by
    rw[EZ,B5 (Af _),ed];rfl
   refine AI ?_;refine Ak w1 300 (by kernel_rfl) ?_;refine AD (Ah hsz kN) ?_;rw[ee];exact⟨trivial,_,trivial,AL⟩
 rintro n1 -;generalize C4 l=neg at*;generalize Bf l=x0 at*;clear er hsz;have hx0:x0.length<=1000000:=BP hdl hl;clear hdl hl l;refine sR 400 ?_;refine AC.seq ?_;refine AC.block ?_;refine AC.loop (α:=Bool×List UInt8×List Nat×Nat×Nat) (λp=>match p with
  |(false,x,_,_,n)=>⟨[(0,str (sb x)),(2,.optr 0 0 2 0 0),(3,Aq neg),(4,CK)],[Lz],n⟩
  |(true,x,w,g,n)=>⟨[(0,str (sb x)),(2,.optr 0 0 2 0 0),(3,Aq neg),(4,.osl 608 g 1 0 w.length)],[⟨608,g,3,1,w.map AX⟩,Lz],n⟩) (λp=>p.2.1.length)
  (λp=>p.2.1.all BX=true/\p.2.1.length+p.2.2.1.length*9=x0.length/\Rd p.2.2.1/\dv x0=dv p.2.1*RB^p.2.2.1.length+AM p.2.2.1/\(p.1=false->p.2.2.1=[]))
  (false,x0,[],0,_) ⟨hd,rfl,(λa ha=>by cases ha),by simp[AM],λ_=>rfl⟩ AL ?_
 rintro⟨t,x,w,g,n2⟩ F ⟨g1,g2,g3,g4,g5⟩;dsimp only at g1 g2 g3 g4 g5;have hsz:=CS x
 by_cases h9:9<x.length
 ·have ht:decide ((x.length:Int)>9)=true:=AZ (by omega)
  have cv:=PT (x.drop (x.length-9)) (CI.2 λa ha=>CI.1 g1 a (J4 ha)) (by rw[Dj];omega);have wk:IntKind.i64.wrap ((x.length:Int)-9)=((x.length-9:Nat):Int):=by rw[wI (by omega) (by omega)];omega
  have wr:IntKind.i64.wrap (((sb x).size:Int)-9)=((x.length-9:Nat):Int):=by rw[hsz,wk]
  have e1:(sb x).extract (x.length-9) x.length=sb (x.drop (x.length-9)):=by rw[EZ,B5 (Af _)]
  have e2:(sb x).extract 0 (x.length-9)=sb (x.take (x.length-9)):=by rw[EZ,FC]
  cases t
  ·dsimp only
   obtain rfl:=g5 rfl;refine AC.seq ?_;refine sZ 500 ?_;refine AT (Ah hsz ht) ?_;refine AI ?_;refine Aj ?_;refine AC.block ?_;refine sZ 600 ?_;refine AD (CH hsz wk wr kN e1) ?_;refine A7.same _ cv AH ?_;refine BJ ?_;have J:=Uw h9 g1 g2 g3 g4;rw[GG]at J;refine Ak w1 700 (by kernel_rfl) ?_;refine AD (Ba hsz wk wr kN) ?_;refine AD e2 ?_;exact⟨(true,x.take (x.length-9),[dv (x.drop (x.length-9))],n2+11,_),⟨J.1,J.2.1,J.2.2.1,J.2.2.2,λh=>by cases h⟩,by dsimp only;rw[Bg];omega,AL⟩
  ·dsimp only
   clear g5;have J:=Uw h9 g1 g2 g3 g4;have ew:(w.map AX).length=w.length:=An _;have el:w.length+1=(w++[dv (x.drop (x.length-9))]).length:=by rw[B1];rfl
   refine AC.seq ?_;refine sZ 500 ?_;refine AT (Ah hsz ht) ?_;refine AI ?_;refine Aj ?_;refine AC.block ?_;refine sZ 600 ?_;refine AD (CH hsz wk wr kN e1) ?_;refine A7.same _ cv AH ?_;refine BJ ?_;rw[WM,el];refine Ak w1 700 (by kernel_rfl) ?_;refine AD (Ba hsz wk wr kN) ?_;refine AD e2 ?_;exact⟨(true,x.take (x.length-9),w++[dv (x.drop (x.length-9))],n2+11,_),⟨J.1,J.2.1,J.2.2.1,J.2.2.2,λh=>by cases h⟩,by dsimp only;rw[Bg];omega,AL⟩
 ·have ht:decide ((x.length:Int)>9)=false:=Ad (by omega)
  have cv:=PT x g1 (by omega);obtain⟨r1,r2⟩:=eU (by omega) g1 g3 g4;have cs:=WC neg (w++[dv x]) r1 (by rw[B1,GL];omega);rw[r2]at cs;cases t
  ·dsimp only
   obtain rfl:=g5 rfl;refine AC.seq ?_;refine sZ 500 ?_;refine AT (Ah hsz ht) ?_;refine AI ?_;refine By ?_;refine sR 800 ?_;refine A7.same _ cv AH ?_;refine BJ ?_;refine A7.own _ (N0 [Lz] cs (.drop (.keep .nil)) ⟨.refl _,Vf rfl,trivial⟩ AH) ?_;rintro d H' n' ⟨rfl,rfl,rfl⟩;refine BJ ?_;refine Ab ?_;exact AN rfl AA.out
  ·dsimp only
   clear g5;have ew:(w.map AX).length=w.length:=An _;have el:w.length+1=(w++[dv x]).length:=by rw[B1];rfl
   refine AC.seq ?_;refine sZ 500 ?_;refine AT (Ah hsz ht) ?_;refine AI ?_;refine By ?_;refine sR 800 ?_;refine A7.same _ cv AH ?_;refine BJ ?_;rw[WM,el];refine A7.own _ (N0 [Lz] cs (.drop (.keep .nil)) ⟨.refl _,Vf rfl,trivial⟩ AH) ?_;rintro d H' n' ⟨rfl,rfl,rfl⟩;refine BJ ?_;refine Ab ?_;exact AN rfl AA.out
def Tn (o:Option D):Bool:=match o with
 |some (.agg [.prim (.bool false),.sl false 1 [.prim (.int .i64 1)]])=>true
 |_=>false
theorem ib {o:Option D}(h:Tn o=true):o=some (rZ 1):=by
 have h1:AW 1=[1]:=OX (by decide) (by decide);unfold Tn at h;split at h
 ·show _=some (D.agg [Aq (decide ((1:Int)<0)),rL (AW 1)])
  rw[h1];rfl
 ·cases h
theorem de:Tn ((Fx X1 1000 60).1 127 [i64 1])=true:=by kernel_rfl
theorem gc:AK C0 127 [i64 1] (rZ 1):=B6 DE 1000 60 (ib de)
def Nq (l:List UInt8):Int:=rv (Bq l)
def Ni (l:List UInt8):Int:=if Cd l then rv (BR l)else 1
instance  (x y:Int):AA (.tup [rZ x,rZ y]):=⟨.tup λd hd=>by
 simp only[BA,DF,or_false]at hd;rcases hd with rfl|rfl
 ·exact AA.out
 ·exact AA.out⟩
theorem R4 (l:List UInt8)(hn:(Bf (Bq l)).all BX=true)(hd:(Bf (BR l)).all BX=true)(hl:l.length<=1000000):AK C0 123 [str (sb l)] (.tup [rZ (Nq l),rZ (Ni l)]):=by
 refine Ai.walk w1 mb rfl λF=>?_
 have hsz:=CS l;have cs:=R7 l (by omega);have hsl:=KR l;have c1:=Wq (Bq l) hn (by unfold Bq;rw[Bg];omega);have c2:=Wq (BR l) hd (by unfold BR;rw[Dj];omega);have cw:=gc;unfold Nq Ni;refine sR 0 ?_;refine sR 100 ?_;refine sR 200 ?_;refine cI cs ?_;cases hh:Cd l
 ·have he:BF l=l.length:=by
   unfold Cd at hh
   have:=C7 hh
   omega
  have e0:(((BF l:Nat):Int)==(l.length:Int))=true:=Dt.2 (by omega);have en:Bq l=l:=by unfold Bq;rw[he,B5 (Af _)]
  rw[en]at c1⊢;refine AC.seq ?_;refine sZ 300 ?_;refine AT (Ah hsz e0) ?_;refine AI ?_;refine sR 400 ?_;refine cI c1 ?_;refine A7.same _ cw AH ?_;refine BJ ?_;refine Ab ?_;exact AN rfl AA.out
 ·have he:BF l<l.length:=Cs hh
  have e0:(((BF l:Nat):Int)==(l.length:Int))=false:=Bv.2 (by omega);have x1:(sb l).extract 0 (BF l)=sb (Bq l):=by rw[EZ,FC];rfl
  have x2:(sb l).extract (BF l+1) l.length=sb (BR l):=by rw[EZ,B5 (Af _)];rfl
  have wk:IntKind.i64.wrap (((BF l:Nat):Int)+1)=((BF l+1:Nat):Int):=wI (by omega) (by omega);refine AC.seq ?_;refine sZ 300 ?_;refine AT (Ah hsz e0) ?_;refine AI ?_;refine Aj ?_;refine AC.seq ?_;refine Bx w1 500 [0,1,2,3,4,5,6,7] [8,9,10] (by kernel_rfl) ?_;refine AD (CH hsz wk kN x1 x2) ?_;refine BQ.same _ c1 AH ?_;refine AD (CH hsz wk kN x1 x2) ?_;refine A7.same _ c2 AH ?_;refine BJ ?_;refine Ab ?_;exact AN rfl AA.out
def BI (r:Rat):List UInt8:=if r.den=1 then Lib.itoa r.num else Lib.itoa r.num++47::Lib.decDigits r.den
def qZ (x y:Int):Rat:=mkRat (if y<0 then -x else x) y.natAbs
theorem Rs {x:Int}{d:Nat}(hd:d≠0):(mkRat x d).num=sg (decide (x<0)) (x.natAbs/Nat.gcd x.natAbs d)/\(mkRat x d).den=d/Nat.gcd x.natAbs d:=by
 rw[mkRat,dif_neg hd,Rat.normalize_eq];refine⟨?_,rfl⟩;dsimp only;have hg:0<Nat.gcd x.natAbs d:=N9 _ (Di hd);obtain⟨p,hp⟩:=Nat.gcd_dvd_left x.natAbs d;have e1:x.natAbs/Nat.gcd x.natAbs d=p:=by
  refine Nat.div_eq_of_eq_mul_right hg hp
 have e2:x=(Nat.gcd x.natAbs d:Int)*sg (decide (x<0)) p:=by
  have h0:(x.natAbs:Int)=(Nat.gcd x.natAbs d:Int)*(p:Int):=by rw[<-FW,<-hp]
  unfold sg
  by_cases hx:x<0
  ·rw[AZ hx,AF rfl,Int.mul_neg,<-h0];omega
  ·rw[Ad hx,AE (by decide),<-h0];omega
 rw[e1]
 conv=>lhs;arg 1;rw[e2]
 rw[Int.mul_ediv_cancel_left _ (by omega)]
theorem Vn (q:Nat):((((((AW q).map AX).length:Nat):Int)==1)=true/\∃a,(AW q)[0]?=some a/\(((a:Nat):Int)==1)=decide (q=1))\/((((((AW q).map AX).length:Nat):Int)==1)=false/\q≠1):=by
 rw[An]
 by_cases h:(AW q).length=1
 ·refine .inl ⟨Dt.2 (by omega),?_⟩
  obtain⟨a,ha⟩:=CG (l:=AW q) (i:=0) (by omega);refine⟨a,ha,?_⟩;have e:AW q=[a]:=by
   obtain⟨b,hb⟩:=List.length_eq_one_iff.1 h;rw[hb]at ha⊢;cases ha;rfl
  have e2:q=a:=by rw[<-Dl q,e];simp[AM]
  rw[e2];rw[FU,Dt,decide_eq_true_iff];omega
 ·refine .inr ⟨Bv.2 (by omega),λhq=>h ?_⟩
  rw[hq,OX (by decide) (by decide)];rfl
theorem cZ (x y:Int)(hy0:y≠0)(hx:GD x)(hy:GD y):AK C0 124 [rZ x,rZ y] (str (sb (BI (qZ x y)))):=by
 refine Ai.walk w1 mc rfl λF=>?_
 unfold qZ;refine sR 0 ?_;refine Cj (α:=Nat) (λn=>⟨[(2,.optr 0 0 2 0 0),(3,.optr 1 1 2 0 0)],[⟨1,1,165,2,[.agg [Aq false,rD y.natAbs]]⟩,⟨0,0,165,2,[rZ (if y<0 then -x else x)]⟩],n⟩) (λ_=>True) ?_ ?_
 ·by_cases h:y<0
  ·have cx:=Wm x hx
   have cy:=Wm y hy;have e1:rZ (-y)=.agg [Aq false,rD y.natAbs]:=by
    show D.agg [Aq (decide (-y<0)),rD (-y).natAbs]=_;rw[Ad (by omega),K7]
   rw[e1]at cy;rw[AF h];refine sZ 100 ?_;refine AT (AZ h) ?_;refine AI ?_;refine Bx w1 200 [0,1,2] [3,4,5] (by kernel_rfl) ?_;refine AD kN ?_;refine BQ.same _ cx AH ?_;refine AD kN ?_;refine A7.same _ cy AH ?_;refine BJ ?_;exact⟨trivial,_,trivial,AL⟩
  ·have e1:rZ y=.agg [Aq false,rD y.natAbs]:=by
    show D.agg [Aq (decide (y<0)),rD y.natAbs]=_;rw[Ad h]
   rw[AE h];refine sZ 100 ?_;refine AT (Ad h) ?_;refine AI ?_;refine Aj ?_;refine⟨rfl,5,trivial,?_⟩;rw[<-e1];exact AL
 rintro n0 -;obtain⟨z,hz⟩:∃z,z=(if y<0 then -x else x):=⟨_,rfl⟩
 have hza:z.natAbs=x.natAbs:=by rw[hz];split<;>omega
 obtain⟨d,hd⟩:∃d,d=y.natAbs:=⟨_,rfl⟩
 have hd0:d≠0:=by omega
 unfold GD at hx hy;rw[<-hza]at hx;rw[<-hd]at hy;rw[<-hz,<-hd];clear hz hza hd hy0;clear x y;have cg:=Vt z.natAbs d hx hy;obtain⟨qn,qd⟩:=Rs (x:=z) hd0;have hg:0<Nat.gcd z.natAbs d:=N9 _ (Di hd0);have hgl:(AW (Nat.gcd z.natAbs d)).length<1000000:=DH (H6 _ _ (Nat.gcd_le_right _ (Di hd0))) hy;have c4:=Ta z.natAbs (Nat.gcd z.natAbs d) (by omega) hx hgl;have c5:AK C0 176 [rD d,rD (Nat.gcd z.natAbs d)] (.tup [.sl false 1 ((AW (d/Nat.gcd z.natAbs d)).map AX),rD (d%Nat.gcd z.natAbs d)]):=Ta d (Nat.gcd z.natAbs d) (by omega) hy hgl;have hpl:(AW (z.natAbs/Nat.gcd z.natAbs d)).length<1000000:=DH (H6 _ _ (GH _ _)) hx;have hql:(AW (d/Nat.gcd z.natAbs d)).length<1000000:=DH (H6 _ _ (GH _ _)) hy;have etx:BI (mkRat z d)=if d/Nat.gcd z.natAbs d=1 then Lib.itoa (sg (decide (z<0)) (z.natAbs/Nat.gcd z.natAbs d))else Lib.itoa (sg (decide (z<0)) (z.natAbs/Nat.gcd z.natAbs d))++47::Lib.decDigits (d/Nat.gcd z.natAbs d):=by
  unfold BI;rw[qn,qd]
 rw[etx];clear etx qn qd hg hgl;generalize z.natAbs/Nat.gcd z.natAbs d=p at*;generalize d/Nat.gcd z.natAbs d=q at*;generalize z.natAbs%Nat.gcd z.natAbs d=r1 at*;generalize d%Nat.gcd z.natAbs d=r2 at*;generalize Nat.gcd z.natAbs d=gg at*;have c6:=KU (decide (z<0)) p (by omega);have hab:(sg (decide (z<0)) p).natAbs=p:=by unfold sg;split<;>omega
 have c7:=ZX (sg (decide (z<0)) p) (by unfold GD;rw[hab];exact hpl);have c8:=KU false q (by omega);have c9:=ZX (sg false q) (by unfold GD;show(AW q).length<1000000;exact hql);have e9:Lib.itoa (sg false q)=Lib.decDigits q:=by rw[Wz false q (by simp)];rfl
 rw[e9]at c9;have l1:=M7 (EG p);rw[Dl]at l1;have l2:=M7 (EG q);rw[Dl]at l2;have l3:(Lib.itoa (sg (decide (z<0)) p)).length<=(Lib.decDigits p).length+1:=by
  unfold Lib.itoa;split
  ·rw[hab,Bj];exact Af _
  ·rw[show(sg (decide (z<0)) p).toNat=p by omega];omega
 generalize sg (decide (z<0)) p=pz at*;have s1:=CS (Lib.itoa pz);have s2:=CS (Lib.decDigits q);have s3:(⟨#[47]⟩:ByteArray).size=1:=rfl;have s4:(sb (Lib.itoa pz)++(⟨#[47]⟩:ByteArray)).size=(sb (Lib.itoa pz)).size+(⟨#[47]⟩:ByteArray).size:=ByteArray.size_append;generalize Lib.itoa pz=t1 at*;generalize Lib.decDigits q=t2 at*;refine sR 300 ?_;refine cI cg ?_;refine sR 400 ?_;refine cI c4 ?_;refine sR 500 ?_;refine cI c5 ?_;refine sR 600 ?_;refine cI c6 ?_;refine cI c7 ?_;have ht:=Vn q;rcases ht with⟨h1,a,ha,h2⟩|⟨h1,h2⟩
 ·have ha':=DV ha
  refine AC.seq ?_;refine sZ 700 ?_;refine AD h1 ?_;refine Bi kT ha' ?_;refine AD (Ah h1 h2) ?_
  by_cases hq:q=1
  ·rw[AZ hq,AF hq]
   refine AI ?_;refine sR 800 ?_;refine Ab ?_;exact AN rfl AA.out
  ·rw[Ad hq,AE hq]
   refine AI ?_;refine Aj ?_;refine sR 900 ?_;refine A7.same _ c8 AH ?_;refine BJ ?_;refine A7.same _ c9 AH ?_;refine BJ ?_;refine Ab ?_;refine AN ?_ AA.out;show str ((⟨t1.toArray⟩++⟨([47]:List UInt8).toArray⟩:ByteArray)++⟨t2.toArray⟩)=_;rw[IG,IG,D2];rfl
 ·rw[AE h2]
  refine AC.seq ?_;refine sZ 700 ?_;refine AT h1 ?_;refine AD kF ?_;refine AI ?_;refine Aj ?_;refine sR 900 ?_;refine A7.same _ c8 AH ?_;refine BJ ?_;refine A7.same _ c9 AH ?_;refine BJ ?_;refine Ab ?_;refine AN ?_ AA.out;show str ((⟨t1.toArray⟩++⟨([47]:List UInt8).toArray⟩:ByteArray)++⟨t2.toArray⟩)=_;rw[IG,IG,D2];rfl
set_option maxHeartbeats 2000000
theorem O7 (k:Nat)(h:k<10):(UInt8.ofNat (48+k)).toNat=48+k:=by
 rw[UInt8.toNat_ofNat'];omega
theorem EA:∀n:Nat,(Lib.decDigits n).all BX=true/\dv (Lib.decDigits n)=n/\(Lib.decDigits n)≠[]:=λn=>by
 induction n using Nat.strongRecOn with
 |_ n ih=>
  have one:∀k,k<10->BX (UInt8.ofNat (48+k))=true:=λk hk=>by
   unfold BX;rw[O7 k hk,BV];exact⟨Nat.ble_eq_true_of_le (by omega),Nat.ble_eq_true_of_le (by omega)⟩
  have vone:∀k,k<10->dv [UInt8.ofNat (48+k)]=k:=λk hk=>by
   show 0*10+((UInt8.ofNat (48+k)).toNat-48)=k;rw[O7 k hk];omega
  rw[Lib.decDigits];split
  ·rename_i h
   exact⟨by rw[FQ,one n h];rfl,vone n h,by simp⟩
  ·rename_i h
   obtain⟨h1,h2,h3⟩:=ih (n/10) (by omega);refine⟨by rw[J8,h1,FQ,one _ (Bs _ (by decide))];rfl,?_,by simp⟩;rw[Ms,h2,vone _ (Bs _ (by decide)),GL];omega
theorem gQ {n:Nat}(h:n≠0):∃c l,Lib.decDigits n=c::l/\c≠48:=by
 induction n using Nat.strongRecOn with
 |_ n ih=>
  rw[Lib.decDigits];split
  ·rename_i h1
   refine⟨_,_,rfl,λhh=>?_⟩
   have:=congrArg UInt8.toNat hh
   rw[O7 n h1]at this
   have:48+n=48:=this
   omega
  ·rename_i h1
   obtain⟨c,l,e,hc⟩:=ih (n/10) (by omega) (by omega);rw[e];exact⟨c,l++_,rfl,hc⟩
theorem lM {c:UInt8}(h:BX c=true):c≠47/\c≠45:=by
 obtain⟨h1,h2⟩:=KO h;exact⟨λhh=>by subst hh;simp at h1,λhh=>by subst hh;simp at h1⟩
theorem LQ (z:Int):C4 (Lib.itoa z)=decide (z<0)/\Bf (Lib.itoa z)=Lib.decDigits z.natAbs:=by
 unfold Lib.itoa
 by_cases h:z<0
 ·rw[AF h,AZ h]
  exact⟨rfl,rfl⟩
 ·rw[AE h,Ad h,show z.toNat=z.natAbs by omega]
  have h1:=RF (EA z.natAbs).1;exact⟨h1,JM (EA z.natAbs).1⟩
theorem XH (z:Int):rv (Lib.itoa z)=z:=by
 unfold rv;rw[(LQ z).1,(LQ z).2,(EA z.natAbs).2.1]
 by_cases h:z<0
 ·rw[AZ h,AF rfl];omega
 ·rw[Ad h,AE (by decide)];omega
theorem T1 (z:Int):∀c∈Lib.itoa z,(c != 47)=true:=λc hc=>by
 have hd:∀n,∀c∈Lib.decDigits n,(c != 47)=true:=λn c h=>by
  have:=(lM (CI.1 (EA n).1 c h)).1
  simpa using this
 unfold Lib.itoa at hc;split at hc
 ·rcases BA.1 hc with rfl|h
  ·rfl
  ·exact hd _ c h
 ·exact hd _ c hc
theorem Qy {p:UInt8->Bool}:∀ {l:List UInt8} (m:List UInt8),(∀c∈l,p c=true)->(l++m).takeWhile p=l++m.takeWhile p
 | [],_,_=>rfl
 |a::l,m,h=>by
  rw[EP,N5,AF (h a Cc),Qy m λc hc=>h c (Ck _ hc)];rfl
theorem Mx (r:Rat):BF (BI r)=(Lib.itoa r.num).length:=by
 unfold BF BI;split
 ·have:=Qy (p:=(· != 47)) [] (T1 r.num)
  rw[DN]at this;rw[this];simp
 ·rw[Qy (p:=(· != 47)) _ (T1 r.num)]
  simp
theorem NF (r:Rat):Bq (BI r)=Lib.itoa r.num:=by
 unfold Bq;rw[Mx];unfold BI;split
 ·exact B5 (Af _)
 ·exact List.take_left' rfl
theorem Lc (r:Rat):BR (BI r)=if r.den=1 then[]else Lib.decDigits r.den:=by
 unfold BR;rw[Mx];unfold BI;split
 ·exact Gj (Nat.le_succ _)
 ·rw[List.drop_append]
  rw[Gj (Nat.le_succ _),J3];rfl
theorem Pf (r:Rat):Cd (BI r) = !decide (r.den=1):=by
 unfold Cd;rw[Mx];unfold BI
 by_cases h:r.den=1
 ·rw[AF h,AZ h,Ad (by omega)];rfl
 ·rw[AE h,Ad h,B1,Bj,AZ (by omega)];rfl
theorem WJ (r:Rat):Nq (BI r)=r.num:=by unfold Nq;rw[NF,XH]
theorem iS (r:Rat):Ni (BI r)=r.den:=by
 unfold Ni;rw[Pf,Lc]
 by_cases h:r.den=1
 ·rw[AZ h,h];rfl
 ·rw[Ad h,AE h,AF (show(!false)=true from rfl),Lv (EA _).1,(EA _).2.1]
theorem WI (r:Rat):(Bf (Bq (BI r))).all BX=true:=by rw[NF,(LQ _).2];exact(EA _).1
theorem WH (r:Rat):(Bf (BR (BI r))).all BX=true:=by
 rw[Lc];split
 ·rfl
 ·rw[JM (EA _).1];exact(EA _).1
theorem Wy (z:Int):Lib.itoa z≠[]:=by
 unfold Lib.itoa;split
 ·simp
 ·exact(EA _).2.2
theorem Y4 (r:Rat):BI r≠[]:=by
 unfold BI;split
 ·exact Wy _
 ·simp
theorem SN (r:Rat):C4 (BI r)=decide (r.num<0):=by
 rw[<-(LQ r.num).1];unfold BI;split
 ·rfl
 ·have:=Wy r.num
  cases h:Lib.itoa r.num with
  |nil=>exact Ae h this
  |cons c l=>rfl
theorem WK (r:Rat):decide (BI r=[48])=decide (r.num=0):=by
 refine Cn.2 ⟨λh=>?_,λh=>?_⟩
 ·have h1:=WJ r
  rw[h]at h1;rw[<-h1];decide
 ·have:r.den=1:=by
   have:=r.reduced
   rw[h]at this;simpa using this
  unfold BI;rw[AF this,h];show Lib.decDigits 0=[48];rw[Lib.decDigits,dif_pos (by decide)];rfl
abbrev rR (r:Rat):D:=str (sb (BI r))
def K3 (r:Rat):Prop:=(BI r).length<=1000000
theorem ZP (r:Rat)(hl:K3 r):AK C0 166 [rR r] (i64 (GE r)):=by
 refine Ai.walk w1 lz rfl λF=>?_
 have hsz:=CS (BI r);unfold K3 at hl;have ez:=Eb (BI r) [48];rw[WK]at ez;have en:=SN r;refine sR 0 ?_;refine AC.seq ?_;refine AC.seq ?_;have ez2:BM (sb (BI r)) ⟨#[48]⟩=decide (r.num=0):=ez;have hne:=Y4 r;refine Ak w1 100 (by kernel_rfl) ?_;refine AT ez2 ?_
 by_cases h0:r.num=0
 ·rw[AZ h0]
  refine AI ?_;refine sR 200 ?_;refine Ab ?_;exact AN (by unfold GE;rw[h0];rfl) AA.out
 ·rw[Ad h0]
  have hpos:0<(BI r).length:=List.length_pos_iff.2 hne;have e0:decide (((sb (BI r)).size:Int)>0)=true:=AZ (by omega);have e1:((((BI r).getD (Int.toNat 0) 0).toNat:Int)==45)=decide (r.num<0):=by
   rw[<-en];cases ht:BI r with
   |nil=>exact Ae ht hne
   |cons c l=>exact PD c l
  refine AI ?_;refine Aj ?_;refine AC.seq ?_;refine sZ 300 ?_;refine AD e0 ?_;refine AD (Ar kT e0 e1) ?_
  by_cases hn:r.num<0
  ·rw[AZ hn]
   refine AI ?_;refine sR 400 ?_;refine Ab ?_;exact AN (by unfold GE;congr 3;omega) AA.out
  ·rw[Ad hn]
   refine AI ?_;refine Aj ?_;refine sR 500 ?_;refine Ab ?_;exact AN (by unfold GE;congr 3;omega) AA.out
theorem XD {r:Rat}(h:r.num<0):(BI r).drop 1=BI (-r)/\(BI (-r)).length+1=(BI r).length:=by
 have e:Lib.itoa r.num=45::Lib.itoa (-r.num):=by
  unfold Lib.itoa;rw[AF h,AE (by omega),show(-r.num).toNat=r.num.natAbs by omega]
 have e2:BI r=45::BI (-r):=by
  unfold BI;rw[Rat.neg_den,Rat.neg_num,e];split<;>rfl
 rw[e2];exact⟨rfl,rfl⟩
def Cu (r:Rat):Rat:=if r.num<0 then -r else r
theorem O3 (r:Rat):(Cu r).num=r.num.natAbs/\(Cu r).den=r.den:=by
 unfold Cu;split
 ·rw[Rat.neg_num,Rat.neg_den];exact⟨by omega,rfl⟩
 ·exact⟨by omega,rfl⟩
def qk (r:Rat):Bool:=!decide (20<(BI r).length) && !(decide (9<BF (BI (Cu r)))||decide (10<(BI (Cu r)).length-BF (BI (Cu r))))
theorem gl (r:Rat):(BI (Cu r)).length<=(BI r).length:=by
 unfold Cu;split
 ·rename_i h
  have:=(XD h).2
  omega
 ·exact Af _
theorem RT (r:Rat):Lib.itoa (Cu r).num=Lib.decDigits r.num.natAbs:=by
 rw[(O3 r).1];unfold Lib.itoa;rw[AE (by omega)];rfl
theorem Rt {r:Rat}(h:qk r=true):r.num.natAbs<10^9/\r.den<10^9:=by
 unfold qk at h;simp only[BV,Bc,IR,Hu]at h;obtain⟨h1,h2,h3⟩:=h;have hs:=Mx (Cu r);rw[RT]at hs;have hd:=Lc (Cu r);rw[(O3 r).2]at hd;have hdl:(BR (BI (Cu r))).length=(BI (Cu r)).length-(BF (BI (Cu r))+1):=by unfold BR;rw[Dj]
 have d1:=Fi _ (EA r.num.natAbs).1;have d2:=Fi _ (EA r.den).1;rw[(EA _).2.1]at d1 d2;refine⟨CM d1 (Ew (by decide) (by omega)),?_⟩
 by_cases h1:r.den=1
 ·rw[h1];decide
 ·rw[AE h1]at hd
  rw[hd]at hdl;exact CM d2 (Ew (by decide) (by omega))
theorem XF (r:Rat)(hl:K3 r):AK C0 121 [rR r] (.tup [i64 (if qk r then r.num else 0),i64 (if qk r then(r.den:Int)else 0),Aq (qk r)]):=by
 refine Ai.walk w1 m9 rfl λF=>?_
 have hsz:=CS (BI r);unfold K3 at hl;have hne:=Y4 r;have hpos:0<(BI r).length:=List.length_pos_iff.2 hne;refine sR 0 ?_;refine sR 100 ?_;refine AC.seq ?_;refine AC.seq ?_
 by_cases h20:20<(BI r).length
 ·have e2:decide (((BI r).length:Int)>20)=true:=AZ (by omega)
  have eq:qk r=false:=by unfold qk;rw[AZ h20];rfl
  rw[eq];refine Ak w1 200 (by kernel_rfl) ?_;refine AT (Ah hsz e2) ?_;refine AI ?_;refine sR 300 ?_;refine Ab ?_;exact AN rfl AA.out
 ·have e2:decide (((BI r).length:Int)>20)=false:=Ad (by omega)
  have eq:qk r = !(decide (9<BF (BI (Cu r)))||decide (10<(BI (Cu r)).length-BF (BI (Cu r)))):=by unfold qk;rw[Ad h20];rfl
  have en:=SN r;refine Ak w1 200 (by kernel_rfl) ?_;refine AT (Ah hsz e2) ?_;refine AI ?_;refine Aj ?_;refine Cj (α:=Nat) (λn=>⟨[(5,rR r),(6,Aq (decide (r.num<0)))],[],n⟩) (λ_=>True) ?_ ?_
  ·have e0:decide (((sb (BI r)).size:Int)>0)=true:=AZ (by omega)
   have e1:((((BI r).getD (Int.toNat 0) 0).toNat:Int)==45)=decide (r.num<0):=by
    rw[<-en];cases ht:BI r with
    |nil=>exact Ae ht hne
    |cons c l=>exact PD c l
   refine Ak w1 400 (by kernel_rfl) ?_;refine AD e0 ?_;refine AD (Ar kT e0 e1) ?_;exact⟨trivial,_,trivial,AL⟩
  rintro n0 -;refine Cj (α:=Nat) (λn=>⟨[(5,rR (Cu r)),(6,Aq (decide (r.num<0)))],[],n⟩) (λ_=>True) ?_ ?_
  ·refine sR 500 ?_
   by_cases h:r.num<0
   ·obtain⟨t1,t2⟩:=XD h
    have ea:Cu r = -r:=by unfold Cu;rw[AF h]
    have ee:(sb (BI r)).extract (Int.toNat 1) (BI r).length=sb (BI (Cu r)):=by
     rw[ea,EZ,B5 (Af _),<-t1];rfl
    rw[AZ h];refine AI ?_;refine Ak w1 600 (by kernel_rfl) ?_;refine AD (Ah hsz kN) ?_;rw[ee];exact⟨trivial,_,trivial,AL⟩
   ·have ea:Cu r=r:=by unfold Cu;rw[AE h]
    rw[Ad h,ea];refine AI ?_;refine Aj ?_;exact⟨rfl,_,trivial,AL⟩
  rintro n1 -;have hal:=gl r;have hsa:=Mx (Cu r);rw[RT]at hsa;have hn:=NF (Cu r);rw[RT]at hn;have hd:=Lc (Cu r);rw[(O3 r).2]at hd;have hh:=Pf (Cu r);rw[(O3 r).2]at hh;unfold Cd at hh;have hle:=KR (BI (Cu r));have cs:=R7 (BI (Cu r)) (by omega);have hszA:=CS (BI (Cu r));clear hsz hne hpos e2 en;generalize hT:BI (Cu r)=T at*;have eR:rR (Cu r)=str (sb T):=by rw[<-hT]
  rw[eR];clear hT eR;refine sR 700 ?_;refine cI cs ?_;have w8:IntKind.i64.wrap ((T.length:Int)-(BF T:Int))=((T.length-BF T:Nat):Int):=by rw[wI (by omega) (by omega)];omega
  have eb:decide (((T.length-BF T:Nat):Int)>10)=decide (10<T.length-BF T):=Cn.2 (by omega)
  by_cases h9:9<BF T
  ·have e8:decide ((BF T:Int)>9)=true:=AZ (by omega)
   rw[AZ h9]at eq;have eq2:qk r=false:=eq;rw[eq2];refine AC.seq ?_;refine sZ 800 ?_;refine AT e8 ?_;refine AD kT ?_;refine AI ?_;refine sR 900 ?_;refine Ab ?_;exact AN rfl AA.out
  have e8:decide ((BF T:Int)>9)=false:=Ad (by omega);rw[Ad h9]at eq
  by_cases h10:10<T.length-BF T
  ·rw[AZ h10]at eq eb
   have eq2:qk r=false:=eq;rw[eq2];refine AC.seq ?_;refine sZ 800 ?_;refine AT e8 ?_;refine AD (Ba kF hszA w8 eb) ?_;refine AI ?_;refine sR 900 ?_;refine Ab ?_;exact AN rfl AA.out
  rw[Ad h10]at eq eb;have eq2:qk r=true:=eq;rw[eq2];refine AC.seq ?_;refine sZ 800 ?_;refine AT e8 ?_;refine AD (Ba kF hszA w8 eb) ?_;refine AI ?_;refine Aj ?_;have hd1:=EA r.num.natAbs;have hd2:=EA r.den;have c1:=PT (Lib.decDigits r.num.natAbs) hd1.1 (by omega);rw[hd1.2.1]at c1;have e10:(sb T).extract 0 (BF T)=sb (Lib.decDigits r.num.natAbs):=by
   rw[EZ,FC,<-hn];rfl
  refine sZ 1000 ?_;refine AD (Ah hszA kN) ?_;refine AD e10 ?_;refine A7.same _ c1 AH ?_;refine BJ ?_;refine Cj (α:=Nat) (λn=>⟨[(6,Aq (decide (r.num<0))),(8,i64 (r.num.natAbs:Int)),(9,i64 (r.den:Int))],[],n⟩) (λ_=>True) ?_ ?_
  ·by_cases hden:r.den=1
   ·rw[AZ hden]at hh
    have e11:decide ((BF T:Int)<(T.length:Int))=false:=Ad (by have:=C7 (p:=BF T<T.length) hh;omega);rw[hden];refine sZ 1100 ?_;refine AT (Ah hszA e11) ?_;refine AI ?_;refine Aj ?_;exact⟨rfl,_,trivial,AL⟩
   ·rw[Ad hden]at hh
    rw[AE hden]at hd;have hlt:=Cs (p:=BF T<T.length) hh;have e11:decide ((BF T:Int)<(T.length:Int))=true:=AZ (by omega);have wk:IntKind.i64.wrap (((BF T:Nat):Int)+1)=((BF T+1:Nat):Int):=wI (by omega) (by omega);have e12:(sb T).extract (BF T+1) T.length=sb (Lib.decDigits r.den):=by
     rw[EZ,B5 (Af _),<-hd];rfl
    have hdl:(Lib.decDigits r.den).length<=18:=by
     rw[<-hd];unfold BR;rw[Dj];omega
    have c2:=PT (Lib.decDigits r.den) hd2.1 hdl;rw[hd2.2.1]at c2;refine sZ 1100 ?_;refine AT (Ah hszA e11) ?_;refine AI ?_;refine Ak w1 1200 (by kernel_rfl) ?_;refine AD (Ar hszA wk kN) ?_;refine AD e12 ?_;refine A7.same _ c2 AH ?_;refine BJ ?_;exact⟨trivial,_,trivial,AL⟩
  rintro n2 -;obtain⟨b1,b2⟩:=Rt eq2;refine Cj (α:=Nat) (λn=>⟨[(8,i64 r.num),(9,i64 (r.den:Int))],[],n⟩) (λ_=>True) ?_ ?_
  ·refine sR 1300 ?_
   by_cases h:r.num<0
   ·have wn:IntKind.i64.wrap (0-(r.num.natAbs:Int))=r.num:=by rw[wI (by omega) (by omega)];omega
    rw[AZ h];refine AI ?_;refine Ak w1 1400 (by kernel_rfl) ?_;refine AT wn ?_;exact⟨trivial,_,trivial,AL⟩
   ·have en:(r.num.natAbs:Int)=r.num:=by omega
    rw[Ad h,en];refine AI ?_;refine Aj ?_;exact⟨rfl,_,trivial,AL⟩
  rintro n3 -;refine sR 1500 ?_;refine Ab ?_;exact AN rfl AA.out
theorem gC (b:Bool)(n:Nat):(sg b n).natAbs=n:=by unfold sg;split<;>omega
theorem sO (z:Int)(d:Nat)(hz:z.natAbs<=4000000000000000000)(hd0:0<d)(hd:d<=4000000000000000000):AK C0 122 [i64 z,i64 (d:Int)] (rR (mkRat z d)):=by
 refine Ai.walk w1 ma rfl λF=>?_
 have hg:0<Nat.gcd z.natAbs d:=N9 _ hd0;have hgl:Nat.gcd z.natAbs d<=d:=Nat.gcd_le_right _ hd0;obtain⟨qn,qd⟩:=Rs (x:=z) (d:=d) (by omega);have etx:BI (mkRat z d)=if d/Nat.gcd z.natAbs d=1 then Lib.itoa (mkRat z d).num else Lib.itoa (mkRat z d).num++47::Lib.decDigits (d/Nat.gcd z.natAbs d):=by
  unfold BI;rw[qd]
 have q1:z.tdiv (Nat.gcd z.natAbs d:Nat)=(mkRat z d).num:=by
  rw[qn];obtain⟨p,hp⟩:=Nat.gcd_dvd_left z.natAbs d;have e1:z.natAbs/Nat.gcd z.natAbs d=p:=Nat.div_eq_of_eq_mul_right hg hp;have e2:z=(Nat.gcd z.natAbs d:Int)*sg (decide (z<0)) p:=by
   have h0:(z.natAbs:Int)=(Nat.gcd z.natAbs d:Int)*(p:Int):=by rw[<-FW,<-hp]
   unfold sg
   by_cases hx:z<0
   ·rw[AZ hx,AF rfl,Int.mul_neg,<-h0];omega
   ·rw[Ad hx,AE (by decide),<-h0];omega
  rw[e1]
  conv=>lhs;arg 1;rw[e2]
  rw[Int.mul_tdiv_cancel_left _ (by omega)]
 have q2:(d:Int).tdiv (Nat.gcd z.natAbs d:Nat)=((d/Nat.gcd z.natAbs d:Nat):Int):=rfl;have q5:(mkRat z d).num.natAbs<=4000000000000000000:=by
  rw[qn];rw[gC];exact BP (GH _ _) hz
 have q4:d/Nat.gcd z.natAbs d<=4000000000000000000:=BP (GH _ _) hd;have hx:0<d/Nat.gcd z.natAbs d:=Nat.div_pos hgl hg;have ert:rR (mkRat z d)=str (sb (if d/Nat.gcd z.natAbs d=1 then Lib.itoa (mkRat z d).num else Lib.itoa (mkRat z d).num++47::Lib.decDigits (d/Nat.gcd z.natAbs d))):=by rw[<-etx]
 rw[ert];clear etx ert qn qd;generalize(mkRat z d).num=pz at*;refine fR 0 ?_;refine EB ⟨[(0,i64 z),(1,i64 d),(4,str ⟨#[]⟩)],[],50⟩ ?_ ?_
 ·refine AC.seq ?_
  have l1:(decide (z < -4000000000000000000))=false:=by apply Ad;omega
  have l2:(decide (z>4000000000000000000))=false:=by apply Ad;omega
  have l3:(decide ((d:Int) < -4000000000000000000))=false:=by apply Ad;omega
  have l4:(decide ((d:Int)>4000000000000000000))=false:=by apply Ad;omega
  refine Ak w1 100 (by kernel_rfl) ?_
  repeat'(first|(refine And.intro (by exact B0) ?_;(refine Ap ?_);(try simp only[Ly,P9,l1,l2,l3,l4]))|((refine Bn (λhb=>?_) (λhb=>?_))<;>(try simp only[Bc,Bk]at hb)<;>(try simp only[hb])<;>(refine Ap ?_)))
  refine AI ?_;refine Aj ?_;exact And.intro (by trivial) (AL)
 refine EB ⟨[(0,i64 z),(1,i64 d),(4,str ⟨#[]⟩)],[],100⟩ ?_ ?_
 ·refine fR 300 ?_
  refine AI ?_;have e27:(decide ((d:Int)<0))=false:=by simp
  rw[e27];refine Aj ?_;exact And.intro (by trivial) (AL)
 refine AC.seq ?_;have m1:max z (IntKind.i64.wrap (0-z))=(z.natAbs:Int):=by rw[wI (by omega) (by omega)];omega
 refine Ak w1 500 (by kernel_rfl) ?_;refine JH m1 ?_;refine dI (kg z.natAbs d (by omega) (by omega)) ?_;refine AC.seq ?_;refine Bx w1 600 [0,1,2,3,4,5,6] [7] (by kernel_rfl) ?_;refine Bz ?_;have w1p:IntKind.i64.wrap pz=pz:=wI (by omega) (by omega);rw[q1,q2,w1p,wN (BP q4 (by decide))];clear q1 q2 hg hgl;generalize d/Nat.gcd z.natAbs d=y at*;refine fR 700 ?_;have c1:=Ol pz.natAbs 1 (by omega);have c2:=Ol y 1 (by omega);rw[Wh]at c1 c2;have s1:=LG 18 pz.natAbs (DH q5 (by decide));have s2:=LG 18 y (DH q4 (by decide));have z1:=NE (Lib.decDigits pz.natAbs);have z2:=NE (Lib.decDigits y);have m1:max pz (IntKind.i64.wrap (0-pz))=(pz.natAbs:Int):=by rw[wI (by omega) (by omega)];omega
 refine Cj (α:=Nat) (λn=>⟨[(0,i64 pz),(1,i64 (y:Int)),(4,str ⟨#[]⟩),(6,str (sb (if pz<0 then[45]else[])))],[],n⟩) (λ_=>True) ?_ ?_
 ·refine fR 800 ?_
  by_cases h:pz<0
  ·rw[AZ h,AF h]
   refine AI ?_;refine fI 900 ?_;exact⟨rfl,_,trivial,AL⟩
  ·rw[Ad h,AE h]
   refine AI ?_;refine Aj ?_;exact⟨rfl,_,trivial,AL⟩
 rintro n0 -;have ei:(if pz<0 then[45]else[])++Lib.decDigits pz.natAbs=Lib.itoa pz:=by
  unfold Lib.itoa;split
  ·rfl
  ·rw[show pz.toNat=pz.natAbs by omega];rfl
 have z3:=CS (if pz<0 then[45]else[]);have z4:(if pz<0 then[45]else[]:List UInt8).length<=1:=by split<;>simp
 have z5:(Lib.itoa pz).length<=20:=by rw[<-ei,B1];omega
 refine sZ 1000 ?_;refine JH m1 ?_;refine dI c1 ?_;rw[IG,ei];have z6:=NE (Lib.itoa pz);generalize Lib.itoa pz=t1 at*;clear ei z3 z4;refine Cj (α:=Nat) (λn=>⟨[(6,str (sb (if y=1 then t1 else t1++47::Lib.decDigits y)))],[],n⟩) (λ_=>True) ?_ ?_
 ·refine fR 1100 ?_
  by_cases hy:y=1
  ·rw[AF hy]
   have e54:(decide ((y:Int)>1))=false:=by apply Ad;omega
   rw[e54];refine AI ?_;refine Aj ?_;exact⟨rfl,_,trivial,AL⟩
  ·rw[AE hy]
   have e54:(decide ((y:Int)>1))=true:=by apply AZ;omega
   have s3:(⟨#[47]⟩:ByteArray).size=1:=rfl;have sc:((⟨t1.toArray⟩:ByteArray)++(⟨#[47]⟩:ByteArray)).size=(⟨t1.toArray⟩:ByteArray).size+(⟨#[47]⟩:ByteArray).size:=ByteArray.size_append;rw[e54];refine AI ?_;refine fI 1200 ?_;refine dI c2 ?_;have e47:(⟨#[47]⟩:ByteArray)=⟨([47]:List UInt8).toArray⟩:=rfl;rw[e47,IG,IG,D2,EP,GG];exact⟨rfl,_,trivial,AL⟩
 rintro n1 -;refine fR 1300 ?_;refine Ab ?_;exact AN rfl AA.out
theorem Rz {n k:Nat}(h:(Aa n).length<=k):(AW n).length<=3*k:=by
 refine KK (CM (Ib n) ?_);rw[Nat.pow_mul];exact BP (Ew (by decide) h) (MX (by decide) k)
theorem Lj {n k:Nat}(h:(Aa n).length<=k):(Lib.decDigits n).length<=27*k+1:=by
 have h1:=M7 (EG n);rw[Dl]at h1
 have:=Rz h
 omega
theorem jQ {z:Int}{k:Nat}(h:(Aa z.natAbs).length<=k):(Lib.itoa z).length<=27*k+2:=by
 have:=Lj h
 unfold Lib.itoa;split
 ·rw[Bj];omega
 ·rw[show z.toNat=z.natAbs by omega];omega
theorem R9 {r:Rat}{k:Nat}(h:rk r k)(hk:k<=10000):K3 r:=by
 have h1:=jQ h.1;have h2:=Lj h.2;unfold K3 BI;split
 ·omega
 ·rw[B1,Bj];omega
def LZ (x:Int)(p:Nat):Prop:=(AW x.natAbs).length<=p
theorem LZ.mul {x y:Int}{p q:Nat}(hx:LZ x p)(hy:LZ y q):LZ (x*y) (p+q):=by
 unfold LZ at*;rw[MP]
 have:=Q7 x.natAbs y.natAbs
 omega
theorem LZ.add {x y:Int}{p q:Nat}(hx:LZ x p)(hy:LZ y q):LZ (x+y) (p+q+1):=by
 unfold LZ at*;have h1:=H6 (x+y).natAbs (x.natAbs+y.natAbs) (Int.natAbs_add_le x y);have h2:=UZ x.natAbs y.natAbs;omega
theorem LZ.few {x:Int}{p:Nat}(h:LZ x p)(hp:p<1000000):GD x:=DH h hp
theorem LZ.num {r:Rat}{k:Nat}(h:rk r k):LZ r.num (3*k):=Rz h.1
theorem LZ.den {r:Rat}{k:Nat}(h:rk r k):LZ (r.den:Int) (3*k):=Rz h.2
theorem pP (a b:Rat):qZ (a.num*b.den+b.num*a.den) ((a.den:Int)*b.den)=a+b:=by
 unfold qZ;have h:¬((a.den:Int)*b.den<0):=by
  rw[<-FW];omega
 rw[AE h,<-FW,D6,Rat.add_def',]
theorem Rb {x y:Int}(hx:x.natAbs<10^9)(hy:y.natAbs<10^9):(x*y).natAbs<10^18:=by
 rw[MP];exact CM (Nat.mul_lt_mul'' hx hy) (by decide)
theorem aQ (a b:Rat)(i j:Nat)(ha:rk a i)(hb:rk b j)(hij:i+j<=10000):AK C0 167 [rR a,rR b] (rR (a+b)):=by
 refine Ai.walk w1 mA rfl λF=>?_
 have ta:=R9 ha (by omega);have tb:=R9 hb (by omega);have qa:=XF a ta;have qb:=XF b tb
 by_cases hq:qk a=true/\qk b=true
 ·obtain⟨h1,h2⟩:=hq
  obtain⟨n1,d1⟩:=Rt h1;obtain⟨n2,d2⟩:=Rt h2;rw[h1,AF rfl,AF rfl]at qa;rw[h2,AF rfl,AF rfl]at qb;have p1:=Rb n1 (y:=(b.den:Int)) (by omega);have p2:=Rb n2 (y:=(a.den:Int)) (by omega);have p3:=Rb (x:=(a.den:Int)) (y:=(b.den:Int)) (by omega) (by omega);have m1:IntKind.i64.wrap (a.num*(b.den:Int))=a.num*b.den:=wI (by omega) (by omega);have m2:IntKind.i64.wrap (b.num*(a.den:Int))=b.num*a.den:=wI (by omega) (by omega);have m3:IntKind.i64.wrap (a.num*(b.den:Int)+b.num*(a.den:Int))=a.num*b.den+b.num*a.den:=wI (by omega) (by omega);have m4:IntKind.i64.wrap ((a.den:Int)*(b.den:Int))=((a.den*b.den:Nat):Int):=by rw[wI (by omega) (by omega),FW]
  have p4:a.den*b.den<10^18:=by rw[<-FW,D6]at p3;exact p3
  have cf:=sO (a.num*b.den+b.num*a.den) (a.den*b.den) (by omega) (Gm a.den_pos b.den_pos) (by omega);rw[<-Rat.add_def']at cf;refine sR 0 ?_;refine sR 100 ?_;refine cI qa ?_;refine sR 200 ?_;refine cI qb ?_;refine AC.seq ?_;refine sZ 300 ?_;refine AD kT ?_;refine AI ?_;refine sZ 400 ?_;refine AT (Ba m1 m2 m3 m4) ?_;refine cI cf ?_;refine Ab ?_;exact AN rfl AA.out
 ·refine sR 0 ?_
  refine sR 100 ?_;refine cI qa ?_;refine sR 200 ?_;refine cI qb ?_;refine Cj (α:=Nat) (λn=>⟨[(0,rR a),(1,rR b)],[],n⟩) (λ_=>True) ?_ ?_
  ·cases h1:qk a
   ·refine sZ 300 ?_
    refine AD h1 ?_;refine AD kF ?_;refine AI ?_;refine Aj ?_;exact⟨rfl,_,trivial,AL⟩
   ·have h2:qk b=false:=by
     cases h2:qk b
     ·rfl
     ·exact Ae ⟨h1,h2⟩ hq
    rw[h2];refine sZ 300 ?_;refine AD h1 ?_;refine AD kT ?_;refine AI ?_;refine Aj ?_;exact⟨rfl,_,trivial,AL⟩
  rintro n0 -;clear qa qb hq;have pa:=R4 (BI a) (WI a) (WH a) ta;have pb:=R4 (BI b) (WI b) (WH b) tb;rw[WJ,iS]at pa pb;have lan:=LZ.num ha;have lad:=LZ.den ha;have lbn:=LZ.num hb;have lbd:=LZ.den hb;have da:=a.den_pos;have db:=b.den_pos;have c1:=SA a.num b.den (lan.few (by omega)) (lbd.few (by omega));have c2:=SA b.num a.den (lbn.few (by omega)) (lad.few (by omega));have c3:=pH (a.num*b.den) (b.num*a.den) ((lan.mul lbd).few (by omega)) ((lbn.mul lad).few (by omega));have c4:=SA (a.den:Int) b.den (lad.few (by omega)) (lbd.few (by omega));have c5:=cZ (a.num*b.den+b.num*a.den) ((a.den:Int)*b.den) (by rw[<-FW];have:=Gm da db;omega) (((lan.mul lbd).add (lbn.mul lad)).few (by omega)) ((lad.mul lbd).few (by omega));rw[pP]at c5;refine sR 500 ?_;refine cI pa ?_;refine sR 600 ?_;refine cI pb ?_;refine AC.seq ?_;refine Bx w1 700 [0,1,2,3,4,5,6,7,8] [9,10,11] (by kernel_rfl) ?_;refine AD kN ?_
  first|refine BQ.same _ c1 AH ?_|refine A7.same _ c1 AH ?_
  refine AD kN ?_
  first|refine BQ.same _ c2 AH ?_|refine A7.same _ c2 AH ?_
  refine AD kN ?_
  first|refine BQ.same _ c3 AH ?_|refine A7.same _ c3 AH ?_
  refine AD kN ?_
  first|refine BQ.same _ c4 AH ?_|refine A7.same _ c4 AH ?_
  refine AD kN ?_
  first|refine BQ.same _ c5 AH ?_|refine A7.same _ c5 AH ?_
  refine AD kN ?_;refine Ab ?_;exact AN rfl AA.out
theorem i8 (c:UInt8):BX c=(!decide ((c.toNat:Int)<48) && !decide ((c.toNat:Int)>57)):=by
 unfold BX;rw[FU,BV,BV];simp only[Bc,Hu,Nat.ble_eq];omega
theorem bK {l:List UInt8}{i:Nat}{c:UInt8}(hc:l[i]?=some c)(h:(l.take i).all BX=true):(l.take (i+1)).all BX=BX c:=by
 rw[D7,hc,J8,h];simp
theorem l6 {l:List UInt8}{i:Nat}{c:UInt8}(hc:l[i]?=some c)(h:BX c=false):l.all BX=false:=by
 cases ha:l.all BX
 ·rfl
 ·have:=CI.1 ha c (A8 hc)
  rw[h]at this;cases this
theorem gV (l:List UInt8)(hl:l.length<=1000000000):AK C0 268 [str (sb l)] (Aq (l.all BX)):=by
 refine Ai.walk w1 nM rfl λF=>?_
 have hsz:=CS l;refine sR 0 ?_;refine AC.seq ?_;refine sR 100 ?_;refine AC.block ?_;refine AC.loop (α:=Nat×Nat) (λp=>⟨[(0,str (sb l)),(3,i64 (p.1:Int))],[],p.2⟩) (λp=>l.length-p.1) (λp=>p.1<=l.length/\(l.take p.1).all BX=true) (0,_) ⟨BZ _,rfl⟩ AL ?_;rintro⟨i,n⟩ F ⟨hi,ha⟩;dsimp only at hi ha⊢;refine AC.seq ?_;refine sZ 200 ?_;refine AT hsz ?_;refine AI ?_
 (refine Bn (λhlt=>?_) (λhlt=>?_))<;>(try simp only[Bc,Bk]at hlt)<;>(try simp only[hlt])
 ·have hi2:i<l.length:=by
   have:=Cs hlt
   omega
  obtain⟨c,hc⟩:∃c,l[i]?=some c:=⟨l[i],BD hi2⟩
  have hg:l.getD i 0=c:=by simp[hc]
  have wi:IntKind.i64.wrap ((i:Int)+1)=((i+1:Nat):Int):=wI (by omega) (by omega);have hid:=i8 c;have hat:=bK hc ha;have hno:=l6 hc;refine Aj ?_;refine AC.seq ?_;refine AC.block ?_;refine sZ 400 ?_;refine AT (Ah kN hg) ?_
  by_cases c1:(c.toNat:Int)<48
  ·rw[AZ c1]at hid
   have e4:=AZ c1;simp only[e4];refine AD kT ?_;refine AI ?_;refine sR 500 ?_;refine Ab ?_;exact AN (by rw[hno hid]) AA.out
  ·rw[Ad c1]at hid
   have e4:=Ad c1;simp only[e4];refine AD (Ar kF kN hg) ?_
   by_cases c2:(c.toNat:Int)>57
   ·rw[AZ c2]at hid⊢
    refine AI ?_;refine sR 500 ?_;refine Ab ?_;exact AN (by rw[hno hid]) AA.out
   ·rw[Ad c2]at hid⊢
    refine AI ?_;refine Aj ?_;refine Ak w1 300 (by kernel_rfl) ?_;refine AT wi ?_;exact⟨(i+1,_),⟨hi2,hat.trans hid⟩,by dsimp only;omega,AL⟩
 ·have hi2:i=l.length:=by
   have:=C7 hlt
   omega
  subst hi2;rw[B5 (Af _)]at ha;refine By ?_;refine sR 600 ?_;refine Ab ?_;exact AN (by rw[ha]) AA.out
theorem fB (c:UInt8):(((c.toNat:Nat):Int)==48)=decide (c=48):=by
 rw[FU,Dt,decide_eq_true_iff,<-UInt8.toNat_inj];exact⟨λh=>(show c.toNat=48 by omega),λh=>by rw[h];rfl⟩
theorem YT (l:List UInt8)(hl:l.length<=1000000000):AK C0 224 [str (sb l)] (Aq (Cp l)):=by
 refine Ai.walk w1 no rfl λF=>?_
 have hsz:=CS l;have cd:=gV l hl;refine sR 0 ?_;refine AC.seq ?_;refine AC.seq ?_
 match l,hl,hsz,cd with
 | [],_,hsz,_=>
  have e1:((((sb []).size:Nat):Int)==0)=true:=rfl;refine Ak w1 100 (by kernel_rfl) ?_;refine AT e1 ?_;refine AD kT ?_;refine AI ?_;refine sR 200 ?_;refine Ab ?_;exact AN rfl AA.out
 | [c],hl,hsz,cd=>
  have e1:((((sb [c]).size:Nat):Int)==0)=false:=rfl;have e2:decide ((((sb [c]).size:Nat):Int)>1)=false:=rfl;have ep:Cp [c]=[c].all BX:=by
   unfold Cp Jq
   by_cases h:c=48
   ·subst h;rfl
   ·simp[h]
  rw[ep];refine Ak w1 100 (by kernel_rfl) ?_;refine AT e1 ?_;refine AD kF ?_;simp only[e2];refine AD kF ?_;refine AI ?_;refine Aj ?_;refine sR 300 ?_;refine cI cd ?_;refine Ab ?_;exact AN rfl AA.out
 |c::d::l,hl,hsz,cd=>
  have hs2:(sb (c::d::l)).size=l.length+2:=hsz;have e1:((((sb (c::d::l)).size:Nat):Int)==0)=false:=Bv.2 (by omega);have e2:decide ((((sb (c::d::l)).size:Nat):Int)>1)=true:=AZ (by omega);have e3:((((c::d::l).getD (Int.toNat 0) 0).toNat:Int)==48)=decide (c=48):=fB c;have ep:Cp (c::d::l)=if c=48 then false else(c::d::l).all BX:=by
   unfold Cp Jq
   by_cases h:c=48
   ·subst h;simp
   ·simp[h]
  rw[ep];refine Ak w1 100 (by kernel_rfl) ?_;refine AT e1 ?_;refine AD (Ah kF e2) ?_;refine AD (Ba kT e2 e3 kF) ?_
  by_cases h:c=48
  ·rw[AZ h,AF h]
   refine AI ?_;refine sR 200 ?_;refine Ab ?_;exact AN rfl AA.out
  ·rw[Ad h,AE h]
   refine AI ?_;refine Aj ?_;refine sR 300 ?_;refine cI cd ?_;refine Ab ?_;exact AN rfl AA.out
def DX (r:Rat):Bool:=decide (600<(Lib.decDigits r.num.natAbs).length)||decide (600<(Lib.decDigits r.den).length)
theorem fN (l:List UInt8):BF l=(Bq l).length:=by
 have:=KR l
 unfold Bq;rw[Bg];omega
theorem RG (l:List UInt8):Bq (Bf l)=Br l/\BR (Bf l)=BR l/\Cd (Bf l)=Cd l/\decide (Bq l=[45,48])=(C4 l&&decide (Br l=[48])):=by
 cases hb:C4 l
 ·have ed:Bf l=l:=by unfold Bf;rw[hb];rfl
  have en:C4 (Bq l)=false:=by
   unfold Bq;cases l with
   |nil=>rfl
   |cons c l=>
    cases hk:BF (c::l)with
    |zero=>rfl
    |succ k=>exact hb
  have es:Br l=Bq l:=by unfold Br Bf;rw[en];rfl
  rw[ed,es];refine⟨rfl,rfl,rfl,?_⟩;rw[J6];refine Ad λh=>?_
  rw[h]at en;cases en
 ·cases l with
  |nil=>cases hb
  |cons c m=>
   have hc:c=45:=by simpa[C4]using hb
   subst hc;have ed:Bf (45::m)=m:=rfl;have e1:BF (45::m)=BF m+1:=by
    unfold BF;rw[N5,AF (by decide),Bj]
   have e2:Bq (45::m)=45::Bq m:=by unfold Bq;rw[e1,List.take_succ_cons]
   have e3:BR (45::m)=BR m:=by unfold BR;rw[e1,Qj]
   have e4:Cd (45::m)=Cd m:=by unfold Cd;rw[e1,Bj];exact Cn.2 (by omega)
   have e5:Br (45::m)=Bq m:=by unfold Br;rw[e2];rfl
   rw[ed,e2,e3,e4,e5];refine⟨rfl,rfl,rfl,?_⟩;rw[Hq];exact Cn.2 (by simp)
theorem Oi (l:List UInt8):Ih l=((!Cp (Br l)||(C4 l&&decide (Br l=[48])))||(Cd l&&(!Cp (BR l)||decide (BR l=[48])||decide (BR l=[49])))):=by
 unfold Ih;rw[(RG l).2.2.2]
theorem iC {l:List UInt8}(h:Cp l=true):l≠[]:=(JT h).1
theorem ZB {l:List UInt8}(h:0<l.length):(((l.getD (Int.toNat 0) 0).toNat:Int)==45)=C4 l:=by
 cases l with
 |nil=>cases h
 |cons c l=>exact PD c l
theorem pY (l:List UInt8)(hl:l.length<=100000):AK C0 165 [str (sb l)] (i64 (CN l)):=by
 refine Ai.walk w1 ly rfl λF=>?_
 have hsz:=CS l;obtain⟨p1,p2,p3,-⟩:=RG l;have hdl:(Bf l).length<=l.length:=by
  unfold Bf;split
  ·rw[Dj];omega
  ·exact Af _
 have hbf:=Oi l;have hchk1:(!Cp (Br l)||(C4 l&&decide (Br l=[48])))=true->CN l=1:=λh=>by
  unfold CN;rw[hbf,h,Bool.true_or,AF rfl]
 have hchk2:(Cd l&&(!Cp (BR l)||decide (BR l=[48])||decide (BR l=[49])))=true->CN l=1:=λh=>by
  unfold CN;rw[hbf,h,Bool.or_true,AF rfl]
 have hne:Cp (Br l)=true->0<l.length:=λh=>by
  cases l with
  |nil=>exact Ae rfl (iC h)
  |cons c l=>rw[Bj];omega
 refine sR 0 ?_;refine sR 100 ?_;refine Cj (α:=Nat) (λn=>⟨[(0,str (sb l)),(3,str (sb (Bf l)))],[],n⟩) (λ_=>True) ?_ ?_
 ·rcases DY l.length with h0|h0
  ·have e0:l=[]:=FA h0
   have e1:decide (((sb []).size:Int)>0)=false:=rfl;have ed:Bf l=l:=by rw[e0];rfl
   rw[ed,e0];refine sZ 200 ?_;refine AT e1 ?_;refine AD kF ?_;refine AI ?_;refine Aj ?_;exact⟨rfl,_,trivial,AL⟩
  ·have e0:decide (((sb l).size:Int)>0)=true:=AZ (by omega)
   have e1:=ZB h0;refine sZ 200 ?_;refine AD e0 ?_;refine AD (Ar kT e0 e1) ?_;cases hb:C4 l
   ·have ed:Bf l=l:=by unfold Bf;rw[hb];rfl
    rw[ed];refine AI ?_;refine Aj ?_;exact⟨rfl,_,trivial,AL⟩
   ·have ed:Bf l=l.drop 1:=by unfold Bf;rw[hb];rfl
    have ee:(sb l).extract (Int.toNat 1) l.length=sb (Bf l):=by
     rw[EZ,B5 (Af _),ed];rfl
    refine AI ?_;refine Ak w1 300 (by kernel_rfl) ?_;refine AD (Ah hsz kN) ?_;rw[ee];exact⟨trivial,_,trivial,AL⟩
 rintro n0 -;have cs:=R7 (Bf l) (by omega);have hle:=KR (Bf l);have hszS:=CS (Bf l);have hhs:Cd l=decide (BF (Bf l)<(Bf l).length):=p3.symm;have e10:(sb (Bf l)).extract 0 (BF (Bf l))=sb (Br l):=by rw[<-p1,EZ,FC];rfl
 have e11:(sb (Bf l)).extract (BF (Bf l)+1) (Bf l).length=sb (BR l):=by rw[<-p2,EZ,B5 (Af _)];rfl
 have hNl:BF (Bf l)=(Br l).length:=by rw[<-p1];exact fN _
 have hDl:(BR l).length=(Bf l).length-(BF (Bf l)+1):=by rw[<-p2];unfold BR;rw[Dj]
 have pp:=λh1 h2=>R4 (Bf l) h1 h2 (by omega)
 unfold Nq Ni at pp;rw[p1,p2,p3]at pp;have edef:CN l=if Ih l then 1 else if 600<(Br l).length\/600<(BR l).length then 4 else if Cd l=true/\Nat.gcd (dv (Br l)) (dv (BR l))≠1 then 1 else 0:=rfl
 rw[hbf]at edef;generalize hN:Br l=Nn at*;generalize hD:BR l=Dn at*;generalize hH:Cd l=hv at*;generalize hK:CN l=KnV at*;generalize Bf l=Sn at*;generalize BF Sn=k at*;clear p1 p2 p3 hbf hN hD hH hK;have cf:=YT Nn (by omega);have cf2:=YT Dn (by omega);have q0:=Eb Nn [48];have q1:=Eb Dn [48];have q2:=Eb Dn [49];refine sR 400 ?_;refine cI cs ?_;refine Cj (α:=Nat) (λn=>⟨[(0,str (sb l)),(3,str (sb Sn)),(4,i64 (k:Int))],[],n⟩) (λ_=>(!Cp Nn||(C4 l&&decide (Nn=[48])))=false) ?_ ?_
 ·refine sZ 500 ?_
  refine AD (Ah hszS kN) ?_;refine AD e10 ?_;cases hp:Cp Nn
  ·rw[hp]at cf
   refine A7.same _ cf AH ?_;refine BJ ?_;simp only[Qm];refine AD kT ?_;refine AI ?_;refine sR 600 ?_;refine Ab ?_;exact AN (by rw[hchk1 (by rw[hp];rfl)];rfl) AA.out
  ·rw[hp]at cf
   have hl0:=hne hp;have e1:=ZB hl0;refine A7.same _ cf AH ?_;refine BJ ?_;simp only[OC];refine AD (Ar kF hsz e1) ?_;have q0':BM (sb Nn) ⟨#[48]⟩=decide (Nn=[48]):=q0;cases hb:C4 l
   ·refine AD kF ?_
    refine AI ?_;refine Aj ?_;exact⟨rfl,_,rfl,AL⟩
   ·refine AD (Ba kT kF hszS kN) ?_
    refine AD (Ba kT kF e10 q0') ?_
    by_cases h0:Nn=[48]
    ·rw[AZ h0]
     refine AI ?_;refine sR 600 ?_;refine Ab ?_;exact AN (by rw[hchk1 (by simp[hp,hb,h0])];rfl) AA.out
    ·rw[Ad h0]
     refine AI ?_;refine Aj ?_;exact⟨rfl,_,by simp,AL⟩
 rintro n1 hb1;clear hchk1 hne cf q0;refine Cj (α:=Nat) (λn=>⟨[(0,str (sb l)),(3,str (sb Sn)),(4,i64 (k:Int))],[],n⟩) (λ_=>(hv&&(!Cp Dn||decide (Dn=[48])||decide (Dn=[49])))=false) ?_ ?_
 ·cases hv
  ·have e40:decide ((k:Int)<(Sn.length:Int))=false:=Ad (by have:=C7 hhs.symm;omega)
   refine sZ 700 ?_;refine AT (Ah hszS e40) ?_;refine AD kF ?_;refine AI ?_;refine Aj ?_;exact⟨rfl,_,rfl,AL⟩
  ·have hkl:=Cs hhs.symm
   have e40:decide ((k:Int)<(Sn.length:Int))=true:=AZ (by omega);have wk:IntKind.i64.wrap ((k:Int)+1)=((k+1:Nat):Int):=wI (by omega) (by omega);have q1':BM (sb Dn) ⟨#[48]⟩=decide (Dn=[48]):=q1;have q2':BM (sb Dn) ⟨#[49]⟩=decide (Dn=[49]):=q2;refine sZ 700 ?_;refine AT (Ah hszS e40) ?_;refine AD (Ba kT wk hszS kN) ?_;simp only[e11];refine Me kT ?_;cases hp:Cp Dn
   ·rw[hp]at cf2
    refine A7.same _ cf2 AH ?_;refine AD kB ?_;refine AD kT ?_;refine AI ?_;refine sR 800 ?_;refine Ab ?_;exact AN (by rw[hchk2 (by simp[hp])];rfl) AA.out
   ·rw[hp]at cf2
    have e12:(sb Sn).extract (IntKind.i64.wrap ((k:Int)+1)).toNat (sb Sn).size=sb Dn:=by rw[wk,hszS,Int.toNat_natCast];exact e11
    refine A7.same _ cf2 AH ?_;refine AD kB ?_;simp only[e12,q1']
    by_cases h48:Dn=[48]
    ·rw[AZ h48]
     refine AD kT ?_;refine AI ?_;refine sR 800 ?_;refine Ab ?_;exact AN (by rw[hchk2 (by simp[h48])];rfl) AA.out
    ·rw[Ad h48]
     refine AD kB ?_;simp only[e12,q2']
     by_cases h49:Dn=[49]
     ·rw[AZ h49]
      refine AI ?_;refine sR 800 ?_;refine Ab ?_;exact AN (by rw[hchk2 (by simp[h49])];rfl) AA.out
     ·rw[Ad h49]
      refine AI ?_;refine Aj ?_;exact⟨rfl,_,by simp,AL⟩
 rintro n2 hb2;clear hchk2 cf2 q1 q2 e10 e11 hsz;have hpN:Cp Nn=true:=by
  cases h:Cp Nn
  ·rw[h]at hb1;simp at hb1
  ·rfl
 have hpD:hv=true->Cp Dn=true:=λh0=>by
  cases h:Cp Dn
  ·rw[h,h0]at hb2;simp at hb2
  ·rfl
 rw[hb1,hb2]at edef;rw[AE (by decide)]at edef;have wl1:IntKind.i64.wrap ((Sn.length:Int)-(k:Int))=(Sn.length:Int)-(k:Int):=wI (by omega) (by omega);have wl2:IntKind.i64.wrap ((Sn.length:Int)-(k:Int)-1)=(Sn.length:Int)-(k:Int)-1:=wI (by omega) (by omega);have e91:decide ((Sn.length:Int)-(k:Int)-1>600)=decide (600<Dn.length):=Cn.2 (by omega);refine Cj (α:=Nat) (λn=>⟨[(3,str (sb Sn)),(4,i64 (k:Int))],[],n⟩) (λ_=>Nn.length<=600/\Dn.length<=600) ?_ ?_
 ·by_cases g1:600<k
  ·have e9:decide ((k:Int)>600)=true:=AZ (by omega)
   rw[AF (.inl (by omega))]at edef;refine sZ 900 ?_;refine AT e9 ?_;refine AD kT ?_;refine AI ?_;refine sR 1000 ?_;refine Ab ?_;exact AN (by rw[edef];rfl) AA.out
  ·have e9:decide ((k:Int)>600)=false:=Ad (by omega)
   refine sZ 900 ?_;refine AT e9 ?_;refine AD (CH kF hszS wl1 wl2 e91) ?_
   by_cases g2:600<Dn.length
   ·rw[AF (.inr g2)]at edef
    rw[AZ g2];refine AI ?_;refine sR 1000 ?_;refine Ab ?_;exact AN (by rw[edef];rfl) AA.out
   ·rw[Ad g2]
    refine AI ?_;refine Aj ?_;exact⟨rfl,_,⟨by omega,by omega⟩,AL⟩
 rintro n3 ⟨g1,g2⟩;rw[AE (by omega)]at edef;clear e91 wl1 wl2 hb1 hb2;obtain⟨-,dN⟩:=JT hpN;refine Cj (α:=Nat) (λn=>⟨[],[],n⟩) (λ_=>KnV=0) ?_ ?_
 ·cases hv
  ·have e40:decide ((k:Int)<(Sn.length:Int))=false:=Ad (by have:=C7 hhs.symm;omega)
   rw[AE (by simp)]at edef;refine sZ 1100 ?_;refine AT (Ah hszS e40) ?_;refine AI ?_;refine Aj ?_;exact⟨rfl,_,edef,AL⟩
  ·have hkl:=Cs hhs.symm
   have e40:decide ((k:Int)<(Sn.length:Int))=true:=AZ (by omega);obtain⟨-,dD⟩:=JT (hpD rfl);have pa:=pp (by rw[JM dN];exact dN) (by rw[JM dD];exact dD);rw[AF rfl,Lv dN,Lv dD]at pa;have lN:(AW (dv Nn)).length<1000000:=DH (KK (CM (Fi Nn dN) (MX (by decide) Nn.length))) (by omega);have lD:(AW (dv Dn)).length<1000000:=DH (KK (CM (Fi Dn dD) (MX (by decide) Dn.length))) (by omega);have cg:AK C0 175 [rD ((dv Nn:Int)).natAbs,rD ((dv Dn:Int)).natAbs] (.sl false 1 ((AW (Nat.gcd (dv Nn) (dv Dn))).map AX)):=Vt (dv Nn) (dv Dn) lN lD;have ht:=Vn (Nat.gcd (dv Nn) (dv Dn));have ed1:Nat.gcd (dv Nn) (dv Dn)≠1->KnV=1:=λh=>by rw[AF ⟨rfl,h⟩]at edef;exact edef
   have ed0:Nat.gcd (dv Nn) (dv Dn)=1->KnV=0:=λh=>by rw[AE (λhh=>hh.2 h)]at edef;exact edef
   clear edef;generalize Nat.gcd (dv Nn) (dv Dn)=gg at*;refine sZ 1100 ?_;refine AT (Ah hszS e40) ?_;refine AI ?_;refine sR 1200 ?_;refine cI pa ?_;refine sR 1300 ?_;refine cI cg ?_;rcases ht with⟨t1,a,ha,t2⟩|⟨t1,t2⟩
   ·have ha':=DV ha
    have t1n:((((AW gg).map AX).length:Int) != 1)=false:=by unfold bne;rw[t1];rfl
    have t2n:((a:Int) != 1) = !decide (gg=1):=by unfold bne;rw[t2]
    refine sZ 1400 ?_;refine AT t1n ?_;refine AD kF ?_;refine Bi kF ha' ?_;refine AD (Ah kF t2n) ?_
    by_cases hg1:gg=1
    ·rw[AZ hg1]
     refine AI ?_;refine Aj ?_;exact⟨rfl,_,ed0 hg1,AL⟩
    ·rw[Ad hg1]
     refine AI ?_;refine sR 1500 ?_;refine Ab ?_;exact AN (by rw[ed1 hg1];rfl) AA.out
   ·have edf:=ed1 t2
    have t1n:((((AW gg).map AX).length:Int) != 1)=true:=by unfold bne;rw[t1];rfl
    refine sZ 1400 ?_;refine AT t1n ?_;refine AD kT ?_;refine AI ?_;refine sR 1500 ?_;refine Ab ?_;exact AN (by rw[edf];rfl) AA.out
 rintro n4 h0;refine sR 1600 ?_;refine Ab ?_;exact AN (by rw[h0];rfl) AA.out
theorem gT {n k:Nat}(hn:n≠0)(hk:k<10):Lib.decDigits (n*10+k)=Lib.decDigits n++[UInt8.ofNat (48+k)]:=by
 rw[Lib.decDigits,dif_neg (by omega)]
 congr 2
 ·omega
 ·congr 2;omega
theorem Vv {c:UInt8}(h:BX c=true):UInt8.ofNat (48+(c.toNat-48))=c:=by
 obtain⟨h1,h2⟩:=KO h;rw[<-UInt8.toNat_inj,O7 _ (by omega)];omega
theorem jh (l:List UInt8)(c:UInt8):dv (l++[c])=dv l*10+(c.toNat-48):=by
 rw[Ms];simp[dv,GM]
theorem lL:∀(n:Nat) (l:List UInt8),l.length=n->l≠[]->l.all BX=true->l.head? ≠ some 48->dv l≠0/\Lib.decDigits (dv l)=l:=λn=>by
 induction n with
 |zero=>intro l h0 h1;exact Ae (FA h0) h1
 |succ n ih=>
  intro l h0 h1 h2 h3;rcases Qf l with rfl|⟨m,c,rfl⟩
  ·exact Ae rfl h1
  ·rw[Qe]at h0 h1 h2 h3⊢
   rw[J8,BV]at h2;have hc:BX c=true:=by simpa using h2.2
   obtain⟨c1,c2⟩:=KO hc;rw[jh]
   by_cases hm:m=[]
   ·subst hm
    have hc48:c≠48:=λh=>h3 (by rw[h];rfl)
    have hcn:c.toNat≠48:=λh=>hc48 (UInt8.toNat_inj.1 h)
    have e0:dv []*10+(c.toNat-48)=c.toNat-48:=by simp[dv,GM]
    rw[e0];refine⟨by omega,?_⟩;rw[Lib.decDigits,dif_pos (by omega),Vv hc];rfl
   ·have hh:m.head? ≠ some 48:=by
     cases m with
     |nil=>exact Ae rfl hm
     |cons a m=>exact h3
    obtain⟨i1,i2⟩:=ih m (by rw[B1,GL]at h0;omega) hm h2.1 hh;refine⟨by omega,?_⟩;rw[gT i1 (by omega),i2,Vv hc]
theorem RV {l:List UInt8}(h:Cp l=true):Lib.decDigits (dv l)=l/\(l≠[48]->dv l≠0):=by
 obtain⟨h1,h2⟩:=JT h
 by_cases h0:l=[48]
 ·subst h0
  refine⟨?_,λhh=>Ae rfl hh⟩;show Lib.decDigits 0=[48];rw[Lib.decDigits,dif_pos (by decide)];rfl
 ·have h3:l.head? ≠ some 48:=by
   unfold Cp at h;rw[BV,Ad h0,Bool.false_or]at h
   have:=h.2
   simpa using this
  obtain⟨a,b⟩:=lL _ l rfl h1 h2 h3;exact⟨b,λ_=>a⟩
theorem WD:∀ {l:List UInt8},BF l<l.length->l.drop (BF l)=47::l.drop (BF l+1)
 | [],h=>by cases h
 |c::l,h=>by
  by_cases hc:c=47
  ·subst hc;rfl
  ·have e1:BF (c::l)=BF l+1:=by
    unfold BF;rw[N5,AF (by simpa using hc),Bj]
   rw[e1,Bj]at h;rw[e1,Qj,Qj];exact WD (by omega)
def GC (l:List UInt8):Nat:=if Cd l then dv (BR l)else 1
def CE (l:List UInt8):Rat:=mkRat (rv (Bq l)) (GC l)
theorem eL {n:Int}{d:Nat}(hd:d≠0)(h:Nat.gcd n.natAbs d=1):(mkRat n d).num=n/\(mkRat n d).den=d:=by
 obtain⟨q1,q2⟩:=Rs (x:=n) hd;rw[h,Nat.div_one]at q1 q2;rw[P6]at q1;exact⟨q1,q2⟩
theorem O6 {l:List UInt8}(h:CN l=0):Ih l=false/\(Br l).length<=600/\(BR l).length<=600/\(Cd l=true->Nat.gcd (dv (Br l)) (dv (BR l))=1):=by
 unfold CN at h;cases hb:Ih l
 ·rw[hb,AE (by decide)]at h
  split at h
  ·cases h
  ·rename_i h1
   split at h
   ·cases h
   ·rename_i h2
    refine⟨rfl,by omega,by omega,λh3=>?_⟩;rcases Nat.decEq (Nat.gcd (dv (Br l)) (dv (BR l))) 1 with h4|h4
    ·exact Ae ⟨h3,h4⟩ h2
    ·exact h4
 ·rw[hb,AF rfl]at h;cases h
theorem Mr {l:List UInt8}(h:CN l=0):(CE l).num=rv (Bq l)/\(CE l).den=GC l/\BI (CE l)=l/\(rv (Bq l)).natAbs=dv (Br l):=by
 obtain⟨h1,h2,h3,h4⟩:=O6 h;rw[Oi]at h1;simp only[IR]at h1;obtain⟨⟨b1,b2⟩,b3⟩:=h1;have p1:Cp (Br l)=true:=by simpa using b1
 obtain⟨d1,d2⟩:=RV p1;have hab:(rv (Bq l)).natAbs=dv (Br l):=by
  show(rv (Bq l)).natAbs=dv (Bf (Bq l));unfold rv;split<;>omega
 have hdd:Cd l=true->Cp (BR l)=true/\BR l≠[48]/\BR l≠[49]:=λhs=>by
  rw[hs,Hq]at b3;simp only[IR]at b3;exact⟨by simpa using b3.1.1,C7 b3.1.2,C7 b3.2⟩
 have hd0:GC l≠0:=by
  unfold GC;cases hs:Cd l
  ·simp
  ·obtain⟨e1,e2,e3⟩:=hdd hs
   simpa using(RV e1).2 e2
 have hg:Nat.gcd (rv (Bq l)).natAbs (GC l)=1:=by
  rw[hab];unfold GC;cases hs:Cd l
  ·simp
  ·simpa using h4 hs
 obtain⟨m1,m2⟩:=eL hd0 hg;refine⟨m1,m2,?_,hab⟩;have hi:Lib.itoa (rv (Bq l))=Bq l:=by
  cases hb:C4 (Bq l)
  ·have e1:Br l=Bq l:=by unfold Br Bf;rw[hb];rfl
   rw[e1]at d1;have e2:rv (Bq l)=(dv (Bq l):Int):=by unfold rv Bf;rw[hb];rfl
   rw[e2];unfold Lib.itoa;rw[AE (by omega)];exact d1
  ·obtain⟨m,hm⟩:∃m,Bq l=45::m:=by
    cases hn:Bq l with
    |nil=>rw[hn]at hb;cases hb
    |cons c m=>
     rw[hn]at hb;exact⟨m,by rw[show c=45 by simpa[C4]using hb]⟩
   have e1:Br l=m:=by unfold Br;rw[hm];rfl
   have hne:Br l≠[48]:=λh=>by
    have:=(RG l).2.2.2
    rw[b2,hm]at this;have h2:=C7 this;rw[e1]at h;exact h2 (by rw[h])
   have hpos:=d2 hne;rw[e1]at d1 hpos;have e2:rv (Bq l) = -(dv m:Int):=by rw[hm];rfl
   rw[e2];unfold Lib.itoa;rw[AF (by omega),K7,D6,d1,hm]
 unfold BI;rw[show(CE l).num=rv (Bq l)from m1,show(CE l).den=GC l from m2,hi];have hle:=KR l;cases hs:Cd l
 ·have e1:GC l=1:=by unfold GC;rw[hs];rfl
  have e2:=C7 (p:=BF l<l.length) hs;rw[AF e1];unfold Bq;exact B5 (by omega)
 ·obtain⟨e1,e2,e3⟩:=hdd hs
  have e4:GC l=dv (BR l):=by unfold GC;rw[hs];rfl
  have e5:=(RV e1).1;have e6:dv (BR l)≠1:=λh=>by
   rw[h,Lib.decDigits,dif_pos (by decide)]at e5;exact e3 e5.symm
  rw[e4,AE e6,e5];unfold Bq BR;rw[<-WD (Cs hs),Ef]
theorem OW {l:List UInt8}(h:CN l=0):(Br l).all BX=true/\(Cd l=true->(BR l).all BX=true):=by
 obtain⟨h1,-,-,-⟩:=O6 h;rw[Oi]at h1;simp only[IR]at h1;obtain⟨⟨b1,-⟩,b3⟩:=h1;refine⟨(JT (by simpa using b1)).2,λhs=>?_⟩;rw[hs,Hq]at b3;simp only[IR]at b3;exact(JT (by simpa using b3.1.1)).2
theorem Li {l:List UInt8}(h:CN l=0):rk (CE l) 600:=by
 obtain⟨m1,m2,-,m4⟩:=Mr h;obtain⟨-,h2,h3,-⟩:=O6 h;obtain⟨p1,p2⟩:=OW h;have hb:∀k,(10:Nat)^k<=BB^k:=λk=>MX (by decide) k
 refine⟨?_,?_⟩
 ·rw[m1,m4]
  exact BP (GP (CM (Fi _ p1) (hb _))) h2
 ·rw[m2]
  unfold GC;cases hs:Cd l
  ·exact BP (GP (n:=1) (k:=1) (by decide)) (by decide)
  ·exact BP (GP (CM (Fi _ (p2 hs)) (hb _))) h3
theorem Pz {l:List UInt8}(h:CN l=0):FR (CE l) (Fj l) 600:=by
 obtain⟨m1,m2,-,-⟩:=Mr h;refine⟨⟨CR _,?_,?_⟩,Li h⟩
 ·show(AV (rv (Bq l))).z=_
  rw[DU,m1]
 ·show(if Cd l then dv (BR l)else 1)=_
  rw[m2];rfl
theorem Pl {l:List UInt8}(hl:l.length<=100000)(h:CN l=0):AK C0 103 [str (sb l)] (Fj l).D:=jp l hl (OW h).1 (OW h).2
end Go.Ide
