/- The layer of own lemmas and contracts, part 8. -/
import Derived.Test.YteeceibhhdapaaaGreatDoorW7
import Derived.Test.YteeceibhhdapaaaGreatDoorW3
set_option linter.unusedVariables false
set_option linter.unusedSimpArgs false
namespace Go.Ide
open Go.Proofs Go.RowKit
set_option maxRecDepth 20000
def Cp (b:Nat):Bool:=((decide (97<=b)&&decide (b<=122))||(decide (65<=b)&&decide (b<=90)))||(decide (48<=b)&&decide (b<=57))||b==45||b==95||b==46
def Da (l:List UInt8):Bool:=l.all (λb=>Cp b.toNat)&&(decide (1<=l.length)&&decide (l.length<=24))
theorem cj (s:ByteArray)(p:Nat)(hp:p<s.size):s.data.toList[p]?=some (s.get! p):=by
 have hp':p<s.data.size:=hp;rw[Iw,Bc hp']
 congr 1
 show _=s.data[p]!;rw[getElem!_pos s.data p hp']
theorem Xx (s:ByteArray)(p:Nat)(h:(s.get! p).toNat<128):Utf8.decode s p=((s.get! p).toNat,1):=by
 unfold Utf8.decode;exact AH h
theorem kV (s:ByteArray)(p:Nat)(h:¬(s.get! p).toNat<128):128<=(Utf8.decode s p).1:=by
 unfold Utf8.decode;dsimp only;simp only[DY];rw[AG h];have hv:128<=Utf8.runeError:=by decide
 repeat' split
 all_goals first|exact hv|(rename_i h1;simp only[ge_iff_le,Ba,Gk]at h1;dsimp only;omega)
theorem ig (s:ByteArray):AK C0 56 [str s] (As (Da s.data.toList)):=by
 refine Ak.walk w1 bT rfl λB=>?_
 have hsz:s.data.toList.length=s.size:=Hn;refine fR 0 ?_;refine AC.seq ?_;refine AC.seq ?_;refine xH w1 100 [0] 1 rfl (by kernel_rfl) rfl ?_;refine CC ?_;intro F hF;refine Aw ?_;refine AC.block ?_;refine GL (α:=Nat×Nat) (λp=>⟨[(0,str s),(7,.optr 101 2 0 0 0)],[],p.2⟩) (λp=>s.size-p.1) (λp F=>Ma C0 B F 101 2 s p.1/\p.1<=s.size/\(s.data.toList.take p.1).all (λb=>Cp b.toNat)=true) (0,3) ⟨hF,BU _,rfl⟩ AL ?_;rintro⟨p,n⟩ F ⟨hIt,hp,hall⟩;dsimp only at hIt hp hall⊢;refine AC.seq ?_;refine xG w1 200 0 [1] rfl (by kernel_rfl) s p ?_;refine And.intro hIt (And.intro (λhlt F hIt=>?_) (λhge=>?_))
 ·refine CC ?_
  generalize hc:(Utf8.decode s p).1=c;refine AC.seq ?_;refine AO ?_;refine Ap ?_;refine AC.block ?_;refine fR 300 ?_;refine Dg ⟨[(0,str s),(7,.optr 101 2 0 0 0),(4,.prim (.int .i32 c)),(5,As ((decide ((c:Int)>=97)&&decide ((c:Int)<=122))||(decide ((c:Int)>=65)&&decide ((c:Int)<=90))))],[],n+30⟩ (Aq w1 400 (by kernel_rfl) ?_) ?_
  ·repeat'(first|(refine And.intro (by exact B6) ?_;refine Aw ?_)|((refine Bv (λhb=>?_) (λhb=>?_))<;>(try simp only[Bi,Bs]at hb)<;>(try simp only[hb])<;>(refine Aw ?_)))
   all_goals exact AL
  generalize hL:((decide ((c:Int)>=97)&&decide ((c:Int)<=122))||(decide ((c:Int)>=65)&&decide ((c:Int)<=90)))=L;refine Dg ⟨[(0,str s),(7,.optr 101 2 0 0 0),(47,As ((((!L && !(decide ((c:Int)>=48)&&decide ((c:Int)<=57)))&&((c:Int) != 45))&&((c:Int) != 95))&&((c:Int) != 46)))],[],n+60⟩ (Aq w1 500 (by kernel_rfl) ?_) ?_
  ·repeat'(first|(refine And.intro (by exact B6) ?_;refine Aw ?_)|((refine Bv (λhb=>?_) (λhb=>?_))<;>(try simp only[Bi,Bs]at hb)<;>(try simp only[hb])<;>(refine Aw ?_)))
   all_goals exact AL
  have hbad:((((!L && !(decide ((c:Int)>=48)&&decide ((c:Int)<=57)))&&((c:Int) != 45))&&((c:Int) != 95))&&((c:Int) != 46)) = !(Cp c):=by
   subst hL;rw[Fu];simp only[Cp,Ba,Bi,Ix,Bool.and_eq_false_iff,IR,bne_iff_ne,ne_eq,Bq];omega
  rw[hbad];refine AO ?_
  (refine Bv (λhb=>?_) (λhb=>?_))<;>(try simp only[Bi,Bs]at hb)<;>(try simp only[hb])
  ·have hbf:Cp c=false:=by simpa using hb
   refine fR 600 ?_;refine Al ?_;refine AN ?_ AA.out;have hb8:Cp (s.get! p).toNat=false:=by
    by_cases hlow:(s.get! p).toNat<128
    ·rw[Xx s p hlow]at hc
     rw[show(s.get! p).toNat=c from hc];exact hbf
    ·unfold Cp;simp;omega
   have:Da s.data.toList=false:=by
    unfold Da
    have:s.data.toList.all (λb=>Cp b.toNat)=false:=by
     rw[List.all_eq_false];exact⟨_,A0 (cj s p hlt),by rw[hb8];simp⟩
    rw[this];rfl
   rw[this]
  ·have hbt:Cp c=true:=by simpa using hb
   have hclt:c<128:=by
    unfold Cp at hbt;simp only[L1,Ba,Gk,EA]at hbt;omega
   have hlow:(s.get! p).toNat<128:=by
    apply Cy;intro h
    have:=kV s p h
    omega
   rw[Xx s p hlow]at hc hIt;refine Ap ?_;refine⟨(p+1,n+60),⟨hIt,hlt,?_⟩,by dsimp only;omega,AL⟩;rw[Dh,cj s p hlt,Ks,hall];simp;rw[show(s.get! p).toNat=c from hc];exact hbt
 ·have hpe:p=s.size:=by omega
  refine CC ?_;refine AC.seq ?_;refine AO ?_;refine CA ?_;refine Dg ⟨[(2,As (decide (1<=(s.size:Int))&&decide ((s.size:Int)<=24)))],[],n+60⟩ (Aq w1 700 (by kernel_rfl) ?_) ?_
  ·repeat'(first|(refine And.intro (by exact B6) ?_;refine Aw ?_)|((refine Bv (λhb=>?_) (λhb=>?_))<;>(try simp only[Bi,Bs]at hb)<;>(try simp only[hb])<;>(refine Aw ?_)))
   all_goals exact AL
  refine Al ?_;refine AN ?_ AA.out;have hall':s.data.toList.all (λb=>Cp b.toNat)=true:=by rw[<-hall,hpe,<-hsz,C8]
  unfold Da;rw[hall',Hj,hsz];have e:(decide (1<=(s.size:Int))&&decide ((s.size:Int)<=24))=(decide (1<=s.size)&&decide (s.size<=24)):=by
   rw[Fu];simp only[Ba,Gk];omega
  rw[<-e]
def UG:Value->Value->Bool
 | .int .i64 a,.int .i64 b=>a==b
 | .string a,.string b=>a.data.toList==b.data.toList
 | .bool a,.bool b=>a==b
 | .slice none 0 0,.slice none 0 0=>true
 |_,_=>false
theorem km {a b:Value}(h:UG a b=true):a=b:=by
 unfold UG at h;split at h
 ·rw[eq_of_beq h]
 ·rename_i a b
  have:=eq_of_beq h
  congr 1
  exact ByteArray.ext (Array.toList_inj.1 this)
 ·rw[eq_of_beq h]
 ·rfl
 ·cases h
def Ku (f:D->D->Bool):List D->List D->Bool
 | [],[]=>true
 |a::l,b::m=>f a b&&Ku f l m
 |_,_=>false
theorem Qo {f:D->D->Bool}(hf:∀a b,f a b=true->a=b):∀ {l m:List D},Ku f l m=true->l=m
 | [],[],_=>rfl
 |a::l,b::m,h=>by
  simp only[Ku,Ba]at h;rw[hf a b h.1,Qo hf h.2]
 | [],_::_,h=>by simp[Ku]at h
 |_::_,[],h=>by simp[Ku]at h
def NM:Nat->D->D->Bool
 | 0,_,_=>false
 |n+1,a,b=>match a,b with
  | .prim a,.prim b=>UG a b
  | .agg l,.agg m=>Ku (NM n) l m
  | .sl x y l,.sl x' y' m=>(x==x')&&Nat.beq y y'&&Ku (NM n) l m
  |_,_=>false
theorem Tm:∀(n:Nat) (a b:D),NM n a b=true->a=b
 | 0,_,_,h=>by simp[NM]at h
 |n+1,a,b,h=>by
  unfold NM at h;split at h
  ·rw[km h]
  ·rw[Qo (Tm n) h]
  ·simp only[Ba]at h
   rw[eq_of_beq h.1.1,B4 h.1.2,Qo (Tm n) h.2]
  ·cases h
def xd:Nat->Nat->List UInt8
 | 0,_=>[]
 |k+1,u=>match Nat.blt u 10 with
  |true=>[UInt8.ofNat (48+u)]
  |false=>xd k (u/10)++[UInt8.ofNat (48+u%10)]
def Rj (t:Nat)(name:String):Option Nat:=match Nat.beq t 141 with
 |true=>match decide (name = "Cmp")with
  |true=>some 232
  |false=>none
 |false=>none
theorem av (t:Nat)(name:String)(f:Nat)(h:Rj t name=some f)(v:Value)(w:World):(method (C0.P.types.size+Made.depth) t v name).run C0.P w=.ok (f,v) w:=by
 unfold Rj at h;split at h<;>try(cases h;done)
 rename_i ht;split at h<;>try(cases h;done)
 rename_i hn;obtain rfl:=B4 ht;obtain rfl:=DA hn;cases h
 kernel_rfl
def xN:Az:=⟨.arr 256 1 false,256,256,true,.agg (Array.replicate 256 (.bool false))⟩
noncomputable def PI (t:Nat):Option Az:=match Nat.beq t 323 with
 |true=>some xN
 |false=>PG.get t
theorem Ui:Ch C0.P PI:=λt i h=>by
 unfold PI at h;split at h
 ·rename_i ht
  obtain rfl:=B4 ht;cases h
  kernel_rfl
 ·exact dm t i h
set_option maxHeartbeats 2000000
def Be (c:UInt8):Bool:=Nat.ble 48 c.toNat&&Nat.ble c.toNat 57
def HB:D:=.agg ((List.range 256).map λi=>As (Nat.ble 48 i&&Nat.ble i 57))
abbrev Rq:List UInt8:=[48,49,50,51,52,53,54,55,56,57]
noncomputable def X4:EV:=⟨PI,MB.get,NN.get,λ_=>false,λ_ _=>none,λ_ _=>none,Kl⟩
theorem Ue:FF C0 X4:=⟨Ui,RP,Ju,λ_ _ _ h=>by simp[X4]at h,by kernel_rfl,λ_ _ _ h=>by simp[X4]at h,QF⟩
theorem w4:DF C0 X4:=Ue.w
theorem gZ:AK C0 310 [str (sb Rq)] (.tup [HB,As true]):=CE Ue 1000 40 (by kernel_rfl)
def Ut (o:Option D)(b:Bool):Bool:=match o with
 |some (.prim (.bool c))=>c==b
 |_=>false
theorem jS {o:Option D}{b:Bool}(h:Ut o b=true):o=some (As b):=by
 unfold Ut at h;split at h
 ·rw[EA]at h;subst h;rfl
 ·cases h
theorem eI:((List.range 256).all λc=>Ut ((GR X4 1000 40).1 319 [.pptr HB,.prim (.int .u8 (c:Nat))]) (Nat.ble 48 c&&Nat.ble c 57))=true:=by kernel_rfl
theorem VP (c:UInt8):AK C0 319 [.pptr HB,.prim (.int .u8 (c.toNat:Nat))] (As (Be c)):=by
 refine CE Ue 1000 40 ?_;have h:=CQ.1 eI c.toNat (List.mem_range.2 c.toNat_lt);exact jS h
instance:AW HB:=⟨λc hc=>by
 change c∈(List.range 256).map (λi=>As (Nat.ble 48 i&&Nat.ble i 57))at hc;obtain⟨i,_,rfl⟩:=List.mem_map.1 hc;exact .prim _⟩
def GA (l:List UInt8):List UInt8:=(l.reverse.dropWhile Be).reverse
theorem gt (m:List UInt8)(c:UInt8):GA (m++[c])=if Be c then GA m else m++[c]:=by
 unfold GA;rw[List.reverse_append,List.reverse_singleton,List.singleton_append,NI];split
 ·rfl
 ·rw[List.reverse_cons,List.reverse_reverse]
theorem lO (l:List UInt8):((GA l).dropWhile Be=[])↔l.all Be=true:=by
 constructor
 ·intro h
  have h1:∀m:List UInt8,m.dropWhile Be=[]->m.all Be=true:=λm=>by
   induction m with
   |nil=>intro _;rfl
   |cons c m ih=>
    intro hm;rw[NI]at hm;split at hm
    ·rename_i hc
     rw[Fs,hc,ih hm];rfl
    ·cases hm
  have h2:(l.reverse.dropWhile Be).all Be=true:=by
   have:=h1 _ h
   unfold GA at this
   rwa [List.all_reverse]at this
  have h3:∀m:List UInt8,(m.dropWhile Be).all Be=true->m.all Be=true:=λm=>by
   induction m with
   |nil=>intro _;rfl
   |cons c m ih=>
    intro hm;rw[NI]at hm;split at hm
    ·rename_i hc
     rw[Fs,hc,ih hm];rfl
    ·exact hm
  have:=h3 _ h2
  rwa [List.all_reverse]at this
 ·intro h
  have h1:∀m:List UInt8,m.all Be=true->m.dropWhile Be=[]:=λm=>by
   induction m with
   |nil=>intro _;rfl
   |cons c m ih=>
    intro hm;rw[Fs,Ba]at hm;rw[NI,AH hm.1];exact ih hm.2
  have hx:=h1 l.reverse (by rw[List.all_reverse];exact h);unfold GA;rw[hx];rfl
theorem fQ (l:List UInt8)(hl:l.length<=1000000000):AK C0 311 [str (sb l),.pptr HB] (str (sb (l.dropWhile Be))):=by
 refine Ak.walk w1 ae rfl λF=>?_
 have hps:AW HB:=AJ;have hcc:=VP;generalize HB=sd at*;refine sR 0 ?_;refine AC.seq ?_;refine AC.block ?_;refine AC.loop (α:=List UInt8×Nat) (λp=>⟨[(0,str (sb p.1)),(1,.pptr sd)],[],p.2⟩) (λp=>p.1.length) (λp=>p.1.dropWhile Be=l.dropWhile Be/\p.1.length<=l.length) (l,_) ⟨rfl,Ai _⟩ AL ?_;rintro⟨m,n⟩ F ⟨h1,h2⟩;dsimp only at h1 h2⊢;refine AC.seq ?_;refine AC.seq ?_;cases m with
 |nil=>
  have e1:decide (((sb []).size:Int)>0)=false:=rfl;refine Aq w1 100 (by kernel_rfl) ?_;refine AV e1 ?_;refine AO ?_;refine CA ?_;refine sR 400 ?_;refine Al ?_;exact AN (by rw[<-h1];rfl) AA.out
 |cons c m=>
  have hsz:=Ce (c::m);have e1:decide (((sb (c::m)).size:Int)>0)=true:=AY (by rw[hsz,Bo];omega);have hx:(((sb (c::m)).data.toList.getD ((0:Int)).toNat 0).toNat:Int)=(c.toNat:Int):=rfl;have b1:(0:Int)<((sb (c::m)).size:Int):=by rw[hsz,Bo];omega
  have b2:(1:Int)<=((sb (c::m)).size:Int):=by omega
  have e3:(sb (c::m)).extract ((1:Int)).toNat (sb (c::m)).size=sb m:=by
   rw[Ep,hsz,B9 (Ai _)];rfl
  have cc:=hcc c;refine Aq w1 100 (by kernel_rfl) ?_;refine AV e1 ?_;refine AO ?_;refine Ap ?_;refine AC.block ?_;refine AC.seq ?_;refine sZ 200 ?_;refine AV hx ?_;refine cI cc ?_;rcases hb:Be c with _|_
  ·refine AO ?_
   refine CA ?_;refine sR 400 ?_;refine Al ?_;refine AN ?_ AA.out;rw[<-h1,NI,AG (by rw[hb];simp)]
  ·refine AO ?_
   refine Ap ?_;refine Aq w1 300 (by kernel_rfl) ?_;refine AV e3 ?_;refine⟨(m,_),⟨?_,?_⟩,?_,AL⟩
   ·rw[<-h1,NI,AH hb]
   ·rw[Bo]at h2;dsimp only;omega
   ·show m.length<m.length+1;omega
theorem eX (l:List UInt8)(hl:l.length<=1000000000):AK C0 312 [str (sb l),.pptr HB] (str (sb (GA l))):=by
 refine Ak.walk w1 af rfl λF=>?_
 have hps:AW HB:=AJ;have hcc:=VP;generalize HB=sd at*;refine sR 0 ?_;refine AC.seq ?_;refine AC.block ?_;refine AC.loop (α:=List UInt8×Nat) (λp=>⟨[(0,str (sb p.1)),(1,.pptr sd)],[],p.2⟩) (λp=>p.1.length) (λp=>GA p.1=GA l/\p.1.length<=l.length) (l,_) ⟨rfl,Ai _⟩ AL ?_;rintro⟨m,n⟩ F ⟨h1,h2⟩;dsimp only at h1 h2⊢;refine AC.seq ?_;refine AC.seq ?_;rcases Ra m with rfl|⟨m,c,rfl⟩
 ·have e1:decide (((sb []).size:Int)>0)=false:=rfl
  refine Aq w1 100 (by kernel_rfl) ?_;refine AV e1 ?_;refine AO ?_;refine CA ?_;refine sR 400 ?_;refine Al ?_;exact AN (by rw[<-h1];rfl) AA.out
 ·rw[RZ]at h1 h2⊢
  have hsz:=Ce (m++[c]);rw[Bk,GQ]at hsz h2;have e1:decide (((sb (m++[c])).size:Int)>0)=true:=AY (by rw[hsz];omega);have wk1:IntKind.i64.wrap (((sb (m++[c])).size:Int)-1)=(m.length:Int):=by rw[hsz,wI (by omega) (by omega)];omega
  have hx:(((sb (m++[c])).data.toList.getD (((m.length:Nat):Int)).toNat 0).toNat:Int)=(c.toNat:Int):=by
   show(((m++[c]).getD m.length 0).toNat:Int)=_;simp
  have b1:((m.length:Nat):Int)<((sb (m++[c])).size:Int):=by rw[hsz];omega
  have e3:(sb (m++[c])).extract 0 (((m.length:Nat):Int)).toNat=sb m:=by
   rw[Ep];simp
  have cc:=hcc c;have ht:=gt m c;refine Aq w1 100 (by kernel_rfl) ?_;refine AV e1 ?_;refine AO ?_;refine Ap ?_;refine AC.block ?_;refine AC.seq ?_;refine sZ 200 ?_;refine AV (Ac wk1 hx) ?_;refine cI cc ?_;rcases hb:Be c with _|_
  ·rw[AG (by rw[hb];simp)]at ht
   refine AO ?_;refine CA ?_;refine sR 400 ?_;refine Al ?_;exact AN (by rw[<-h1,ht]) AA.out
  ·rw[AH hb]at ht
   refine AO ?_;refine Ap ?_;refine Aq w1 300 (by kernel_rfl) ?_;refine AV (Ac wk1 e3) ?_;refine⟨(m,_),⟨by rw[<-h1,ht],by dsimp only;omega⟩,?_,AL⟩;dsimp only;rw[Bk,GQ];omega
namespace TrimW
theorem w1:DF C0 X4:=w4
theorem trim_ok (l:List UInt8)(hl:l.length<=1000000000):AK C0 296 [str (sb l),str (sb Rq)] (str (sb ((GA l).dropWhile Be))):=by
 refine Ak.walk w1 ad rfl λF=>?_
 have cm:=gZ;have c1:=eX l hl;have hlr:(GA l).length<=1000000000:=by
  unfold GA;rw[List.length_reverse];exact BR (List.dropWhile_sublist _).length_le (by rw[List.length_reverse];exact hl)
 have c2:=fQ (GA l) hlr;have hps:AW HB:=AJ;have eS:=Et l [];have e2:(((sb Rq).size:Int)==1)=false:=rfl;have e4:BK (sb Rq) (sb [])=false:=by rw[Et];exact Ah (by simp)
 have hfit:Bp true 256 HB:=by
  have h:((List.range 256).map λi=>As (Nat.ble 48 i&&Nat.ble i 57)).length=256:=by rw[Am,List.length_range]
  have:=Bp.agg (ds:=(List.range 256).map λi=>As (Nat.ble 48 i&&Nat.ble i 57))
  rw[h]at this;exact this
 refine sR 0 ?_
 by_cases h0:l=[]
 ·subst h0
  have eS':BK (sb []) (sb [])=true:=by rw[Et];exact AY rfl
  refine AC.seq ?_;refine sZ 100 ?_;refine AV eS' ?_;refine AE (Ac eS' kT) ?_;refine AO ?_;refine sR 200 ?_;refine Al ?_;exact AN rfl AA.out
 ·rw[Ah h0]at eS
  refine AC.seq ?_;refine sZ 100 ?_;refine AV eS ?_;refine AE (At eS e4 kF) ?_;refine AE (At eS e4 kF) ?_;refine AO ?_;refine Ap ?_;refine AC.seq ?_;refine sZ 300 ?_;refine AV e2 ?_;refine AE e2 ?_;refine AE e2 ?_;refine AO ?_;refine Ap ?_;refine AC.seq ?_;refine sR 500 ?_;refine BF.same _ cm AJ ?_;refine Aw ?_;generalize HB=sd at*
  repeat(refine D4 rfl rfl ?_;refine H5 (λ_ _=>rfl) ?_)
  refine Nj (And.intro (by repeat'(first|exact hfit|refine And.intro ?_ ?_|exact B6)) ?_);refine Aw ?_;refine sR 600 ?_;refine AO ?_;refine sR 700 ?_;refine BF.own _ (L0 c1 rfl ?_ AJ (Jf.prim _)) ?_
  ·intro i x y hx hy
   match i with
   | 0=>simp at hx hy;subst hx;subst hy;exact DO.refl _ _
   | 1=>simp at hx hy;subst hx;subst hy;exact DO.ptr rfl rfl rfl rfl
   |i+2=>simp at hx
  rintro d H' n' ⟨rfl,rfl,rfl⟩;refine BO ?_;refine BF.own _ (L0 c2 rfl ?_ AJ (Jf.prim _)) ?_
  ·intro i x y hx hy
   match i with
   | 0=>simp at hx hy;subst hx;subst hy;exact DO.refl _ _
   | 1=>simp at hx hy;subst hx;subst hy;exact DO.ptr rfl rfl rfl rfl
   |i+2=>simp at hx
  rintro d H' n' ⟨rfl,rfl,rfl⟩;refine BO ?_;refine Al ?_;exact AN rfl AA.out
end TrimW
def Gh (a:Nat)(l:List UInt8):Nat:=l.foldl (λa c=>a*10+(c.toNat-48)) a
def dv (l:List UInt8):Nat:=Gh 0 l
theorem Yt (l:List UInt8):∀a,Gh a l=a*10^l.length+dv l:=by
 induction l with
 |nil=>intro a;simp[Gh,dv]
 |cons c l ih=>
  intro a;have h1:∀b,Gh b (c::l)=Gh (b*10+(c.toNat-48)) l:=λb=>rfl
  have h2:dv (c::l)=Gh (0*10+(c.toNat-48)) l:=rfl;rw[h1,h2,ih,ih (0*10+(c.toNat-48)),Bo,CL];rw[Bu,Gm,BP,Bw,BS 10];omega
theorem Np (l m:List UInt8):dv (l++m)=dv l*10^m.length+dv m:=by
 have:dv (l++m)=Gh (dv l) m:=by unfold dv Gh;rw[List.foldl_append]
 rw[this,Yt]
theorem fW (l:List UInt8):∀a,l.all Be=true->Lib.decFrom a l=some (Gh a l):=by
 induction l with
 |nil=>intro a _;rfl
 |cons c l ih=>
  intro a h;rw[Fs,Ba]at h;have hd:Lib.digitVal c=some (c.toNat-48):=by
   have h1:=h.1;unfold Be at h1;rw[Ba]at h1;unfold Lib.digitVal;rw[AH ⟨Bh h1.1,Bh h1.2⟩]
  rw[Lib.decFrom,hd];exact ih _ h.2
theorem K6 {c:UInt8}(h:Be c=true):48<=c.toNat/\c.toNat<=57:=by
 unfold Be at h;rw[Ba]at h;exact⟨Bh h.1,Bh h.2⟩
theorem j9 {l:List UInt8}(h0:l≠[])(h:l.all Be=true):Lib.atoi l=some (dv l:Int):=by
 cases l with
 |nil=>exact AZ rfl h0
 |cons c l=>
  have hc:Be c=true:=by rw[Fs,Ba]at h;exact h.1
  obtain⟨c1,c2⟩:=K6 hc;have e1:(c==45)=false:=by
   rw[Bq];intro hh;subst hh;simp at c1
  have e2:(c==43)=false:=by
   rw[Bq];intro hh;subst hh;simp at c1
  unfold Lib.atoi;dsimp only;rw[e1,e2];simp only[Hi,if_false];unfold Lib.decNat;simp only[List.isEmpty_cons,Hi,if_false];rw[fW _ _ h];rfl
theorem GB (l:List UInt8)(h:l.all Be=true):dv l<10^l.length:=by
 induction l with
 |nil=>decide
 |cons c l ih=>
  rw[Fs,Ba]at h;have h1:dv (c::l)=Gh (0*10+(c.toNat-48)) l:=rfl;have h2:=ih h.2;obtain⟨c1,c2⟩:=K6 h.1;rw[h1,Yt,Gm,BP,Bo,CL,BS _ 10];have h3:(c.toNat-48)*10^l.length<=9*10^l.length:=CI _ (by omega);omega
def Uu (o:Option D)(z:Int):Bool:=match o with
 |some (.agg [.prim (.int .i64 a),.prim (.slice none 0 0)])=>a==z
 |_=>false
theorem jT {o:Option D}{z:Int}(h:Uu o z=true):o=some (Cw z):=by
 unfold Uu at h;split at h
 ·rw[EA]at h;subst h;rfl
 ·cases h
theorem mX:((List.range 19).all λk=>Uu ((GR X1 1000 60).1 192 [Cw 10,i64 (k:Nat)]) ((10^k:Nat):Int))=true:=by kernel_rfl
theorem sT (k:Nat)(h:k<19):AK C0 192 [Cw 10,i64 k] (Cw ((10^k:Nat):Int)):=by
 refine CE DV 1000 60 ?_;exact jT (CQ.1 mX k (List.mem_range.2 h))
theorem Uc {n:Nat}(h:n<9223372036854775808):Cw (n:Int)=(AX (n:Int)).D:=by
 rw[JQ ⟨by omega,by omega⟩];rfl
theorem wC (a b:Nat)(ha:(Ag a).length<1000000)(hb:(Ag b).length<1000000):AK C0 154 [(AX (a:Int)).D,(AX (b:Int)).D] (AX ((a+b:Nat):Int)).D:=by
 have:=OO (AX (a:Int)) (AX (b:Int)) (Cf _) (Cf _) (Hz ha) (Hz hb)
 have e:D8 (AX (a:Int)) (AX (b:Int))=AX ((a+b:Nat):Int):=by
  have h1:=Me (AX (a:Int)) (AX (b:Int));rw[Di,Di]at h1;rw[OP (MV _ _) (by rw[h1];omega),h1]
  congr 1
 rw[e]at this;exact this
theorem MG {n k:Nat}(h:n<10^k):(Ag n).length<=k:=Gq (CV h (NK (by decide) k))
def rv (l:List UInt8):Int:=if DK l then -(dv (Bn l):Int)else dv (Bn l)
theorem m5 (k:Nat)(h:k<19):AK C0 192 [Cw 10,i64 k] (AX ((10^k:Nat):Int)).D:=by
 have:=sT k h
 have h2:10^k<9223372036854775808:=DW (FN (by decide) (show k<=18 by omega)) (by decide)
 rwa [Uc h2]at this
theorem tL (n:Nat)(h:n<9223372036854775808):AK C0 152 [i64 n] (AX (n:Int)).D:=by
 have:=OS (n:Int)
 rwa [Uc h]at this
theorem QP (l:List UInt8)(hd:(Bn l).all Be=true)(hl:l.length<=100000):AK C0 149 [str (sb l)] (AX (rv l)).D:=by
 refine Ak.walk w1 Zq rfl λF=>?_
 have c1:=eL l (by omega);have c2:=Rv l (by omega);have hml:(Bn l).length<=100000:=by
  unfold Bn;split
  ·rw[Dz];omega
  ·exact hl
 unfold rv;generalize hm0:Bn l=m0 at*;generalize DK l=ng at*;generalize sb l=sl at*;have ez:Cw 0=(AX ((0:Nat):Int)).D:=Uc (by decide);have hpm:∀n:Nat,AA (AX (n:Int)).w:=λn=>AJ
 refine sR 0 ?_;refine sR 100 ?_;refine cI c1 ?_;refine sR 200 ?_;refine cI c2 ?_;refine sR 300 ?_;refine Cu (α:=Nat) (λn=>⟨[(2,.optr 0 0 2 0 0),(3,As ng),(4,.optr 301 8 2 0 0)],[⟨301,8,139,2,[(AX (dv m0:Int)).D]⟩,⟨0,0,139,2,[Cw 0]⟩],n⟩) (λ_=>True) ?_ ?_
 ·refine AC.block ?_
  refine GL (α:=List UInt8×Nat×Nat) (λp=>⟨[(0,str (sb p.1)),(2,.optr 0 0 2 0 0),(3,As ng),(4,.optr 301 8 2 0 0)],[⟨301,8,139,2,[(AX (p.2.1:Int)).D]⟩,⟨0,0,139,2,[Cw 0]⟩],p.2.2⟩) (λp=>p.1.length)
   (λp F'=>F'=F/\p.1.all Be=true/\p.1.length<=m0.length/\p.2.1<10^(m0.length-p.1.length)/\dv m0=p.2.1*10^p.1.length+dv p.1) (m0,0,20) ⟨rfl,hd,Ai _,by simp,by simp⟩ (by rw[<-ez];exact AL) ?_
  rintro⟨m,A,n⟩ F' ⟨rfl,h1,h2,h3,h4⟩;dsimp only at h1 h2 h3 h4⊢;refine AC.seq ?_;refine AC.seq ?_
  by_cases hm:m=[]
  ·subst hm
   have e1:decide (((sb []).size:Int)>0)=false:=rfl;have hA:dv m0=A:=by simpa[dv,Gh]using h4
   rw[hA];refine Aq w1 400 (by kernel_rfl) ?_;refine AV e1 ?_;refine AO ?_;refine CA ?_;exact⟨rfl,_,trivial,AL⟩
  ·have hm1:0<m.length:=List.length_pos_iff.2 hm
   have hsz:=Ce m;obtain⟨k,hk⟩:∃k,k=min 18 m.length:=⟨_,rfl⟩
   have e1:decide (((sb m).size:Int)>0)=true:=AY (by rw[hsz];omega);have ek:min (18:Int) ((sb m).size:Int)=(k:Int):=by rw[hsz];omega
   have b1:(k:Int)<=((sb m).size:Int):=by rw[hsz];omega
   have e22:(sb m).extract 0 ((k:Int)).toNat=sb (m.take k):=by rw[Ep];rfl
   have e36:(sb m).extract ((k:Int)).toNat (sb m).size=sb (m.drop k):=by
    rw[Ep,hsz,B9 (Ai _)];rfl
   have htk:(m.take k).all Be=true:=CQ.2 λc hc=>CQ.1 h1 c (IT hc)
   have hdk:(m.drop k).all Be=true:=CQ.2 λc hc=>CQ.1 h1 c (Kr hc)
   have hlk:(m.take k).length=k:=by rw[Bf];omega
   have hv:=GB _ htk;rw[hlk]at hv;have h18:10^k<=10^18:=FN (by decide) (by omega);have ca:=mE (sb (m.take k)) (dv (m.take k):Int) (by rw[Ce,hlk];omega) (j9 (by intro h;change m.take k=[]at h;rw[h]at hlk;simp at hlk;omega) htk);have hval:dv m=dv (m.take k)*10^(m.drop k).length+dv (m.drop k):=by
    conv=>lhs;rw[<-Ez k m]
    exact Np _ _
   generalize dv (m.take k)=v at*;have hAl:(Ag A).length<=100000:=BR (MG h3) (by omega);have h10:(Ag (10^k)).length<=19:=MG (k:=19) (Nat.pow_lt_pow_right (by decide) (by omega));have hmul:=LH A (10^k);have cp:=m5 k (by omega);have c3:=Uo A (10^k) (by omega) (by omega);have cv:=tL v (by omega);have hvl:(Ag v).length<=19:=MG (k:=19) (CV hv (FN (by decide) (by omega)));have c4:=wC (A*10^k) v (by omega) (by omega);refine Aq w1 400 (by kernel_rfl) ?_;refine AV e1 ?_;refine AO ?_;refine Ap ?_;refine AC.block ?_;refine sZ 500 ?_;refine AV ek ?_;refine sZ 600 ?_;refine AV e22 ?_;refine cI ca ?_;refine AC.seq ?_;refine B8 w1 700 [0,1,2,3,4,5] [6,7,8] (by kernel_rfl) ?_;refine BO ?_;refine BX.same _ (OS 10) AJ ?_;refine BO ?_;refine BX.same _ (cp) AJ ?_;refine BO ?_;refine BX.same _ (c3) AJ ?_;refine BO ?_;refine cI cv ?_;refine cI c4 ?_;refine Aq w1 800 (by kernel_rfl) ?_;refine AV e36 ?_;refine⟨(m.drop k,A*10^k+v,_),⟨trivial,hdk,?_,?_,?_⟩,?_,AL⟩
   ·dsimp only;rw[Dz];omega
   ·dsimp only
    rw[Dz,show m0.length-(m.length-k)=(m0.length-m.length)+k by omega,Fw];have h5:(A+1)*10^k<=10^(m0.length-m.length)*10^k:=CI _ h3;rw[Bu]at h5;omega
   ·dsimp only
    rw[h4,hval,Dz];have h6:10^m.length=10^k*10^(m.length-k):=by rw[<-Fw];congr 1;omega
    rw[h6,Bu,Bw];omega
   ·dsimp only;rw[Dz];omega
 rintro n -;have hAl:(Ag (dv m0)).length<=100000:=BR (MG (GB _ hd)) hml;have cn:=OR (AX (dv m0:Int)) (Cf _) (Hz (by omega));rw[Di]at cn;have hpn:AA (AX (-(dv m0:Int))).w:=AJ;refine AC.seq ?_;refine sR 900 ?_;cases ng with
 |true=>
  rw[AH rfl];refine AO ?_;refine sR 1000 ?_;refine cI cn ?_;refine Al ?_;exact AN rfl AA.out
 |false=>
  rw[AG (by simp)];refine AO ?_;refine Ap ?_;refine sR 1100 ?_;refine Al ?_;exact AN rfl AA.out
def Kc (l:List UInt8):Bool:=!decide (l=[])&&l.all Be
def C4 (l:List UInt8):Bool:=Kc l&&(decide (l=[48]) || !decide (l.head? = some 48))
def Bz (l:List UInt8):List UInt8:=l.take (BJ l)
def BY (l:List UInt8):List UInt8:=l.drop (BJ l+1)
def Cr (l:List UInt8):Bool:=decide (BJ l<l.length)
def B1 (l:List UInt8):List UInt8:=Bn (Bz l)
def JJ (l:List UInt8):Bool:=!C4 (B1 l)||decide (Bz l=[45,48])||(Cr l&&(!C4 (BY l)||decide (BY l=[48])||decide (BY l=[49])))
def Ca (l:List UInt8):Nat:=if JJ l then 1 else if 600<(B1 l).length\/600<(BY l).length then 4
 else if Cr l=true/\Nat.gcd (dv (B1 l)) (dv (BY l))≠1 then 1 else 0
theorem J6 {l:List UInt8}(h:C4 l=true):l≠[]/\l.all Be=true:=by
 unfold C4 Kc at h;rw[Ba,Ba]at h;exact⟨by have:=h.1.1;simpa using this,h.1.2⟩
theorem SB {l:List UInt8}(h:l.all Be=true):DK l=false:=by
 cases l with
 |nil=>rfl
 |cons c l=>
  rw[Fs,Ba]at h;obtain⟨c1,c2⟩:=K6 h.1;show(c==45)=false;rw[Bq];intro hh;subst hh;simp at c1
theorem J4 {l:List UInt8}(h:l.all Be=true):Bn l=l:=by unfold Bn;rw[SB h];rfl
theorem Mk {l:List UInt8}(h:l.all Be=true):rv l=(dv l:Int):=by
 unfold rv;rw[SB h,J4 h];rfl
theorem iM (l:List UInt8)(hl:l.length<=1000000000):AK C0 271 [str (sb l)] (As (Kc l)):=by
 refine Ak.walk w1 aZ rfl λF=>?_
 have ct:=TrimW.trim_ok l hl;have eS:=Et l [];have eT:=Et ((GA l).dropWhile Be) [];have hall:decide ((GA l).dropWhile Be=[])=l.all Be:=by
  rw[Fu,decide_eq_true_iff];exact lO l
 rw[hall]at eT;unfold Kc;rw[<-eS];generalize hb:BK (sb l) (sb [])=b at*;refine sR 0 ?_;refine AC.seq ?_;cases b with
 |true=>
  have e1:(!BK (sb l) (sb []))=false:=by rw[hb];rfl
  refine Aq w1 100 (by kernel_rfl) ?_;refine AV e1 ?_;refine AE e1 ?_;refine Al ?_;exact AN rfl AA.out
 |false=>
  have e1:(!BK (sb l) (sb []))=true:=by rw[hb];rfl
  refine Aq w1 100 (by kernel_rfl) ?_;refine AV e1 ?_;refine AE e1 ?_;refine NR e1 ?_;refine BF.same _ ct AJ ?_;refine AE (Ac e1 eT) ?_;refine Al ?_;exact AN rfl AA.out
theorem XR (l:List UInt8)(hl:l.length<=1000000000):AK C0 230 [str (sb l)] (As (C4 l)):=by
 refine Ak.walk w1 ZY rfl λF=>?_
 have cd:=iM l hl;have e0:=Et l [48];unfold C4;refine sR 0 ?_;refine sR 100 ?_;refine cI cd ?_;rcases hd:Kc l with _|_
 ·refine AE (Ac kT Hi) ?_
  refine AE (Ac kT Hi) ?_;refine Al ?_;exact AN rfl AA.out
 ·obtain⟨c,m,rfl⟩:∃c m,l=c::m:=by
   cases l with
   |nil=>cases hd
   |cons c m=>exact⟨c,m,rfl⟩
  have hsz:=Ce (c::m);rw[Bo]at hsz;have hx:(((sb (c::m)).data.toList.getD ((0:Int)).toNat 0).toNat:Int)=(c.toNat:Int):=rfl;have b0:(0:Int)<((sb (c::m)).size:Int):=by rw[hsz];omega
  by_cases h0:(c::m)=[48]
  ·rw[AY h0]at e0⊢
   refine AE e0 ?_;refine AE (Ac e0 kT) ?_;refine AE (Ac e0 kT) ?_;refine Al ?_;exact AN rfl AA.out
  ·rw[Ah h0]at e0⊢
   have e1:((c.toNat:Int) != 48) = !decide (c=48):=by
    rw[Fu];simp only[bne_iff_ne,ne_eq,Bi,IR];constructor
    ·intro h hc;subst hc;exact h rfl
    ·intro h hc
     apply h
     have:c.toNat=48:=by omega
     exact UInt8.toNat_inj.1 this
   refine AE e0 ?_;refine AE (BW e0 kF hx e1) ?_;refine AE (BW e0 kF hx e1) ?_;refine Al ?_;exact AN (by simp) AA.out
theorem nf (n:Nat):AK C0 231 [(AX (n:Int)).D] (.tup [i64 (AX (n:Int)).s,As (decide (Sm (n:Int)))]):=by
 refine Ak.walk w1 ZZ rfl λF=>?_
 by_cases hs:Sm (n:Int)
 ·obtain⟨a1,a2⟩:=RK hs
  dsimp only[GI.D];rw[a1,a2,AY hs];refine sR 0 ?_;refine AC.seq ?_;refine B8 w1 100 [0,1,2,3,4,5] [6] (by kernel_rfl) ?_;refine BO ?_;refine Al ?_;exact AN rfl AA.out
 ·obtain⟨a1,a2,a3⟩:=Un hs
  dsimp only[GI.D];rw[a1,a2,Ah hs];generalize(Ag n).map AS=l at*;refine sR 0 ?_;refine AC.seq ?_;refine B8 w1 100 [0,1,2,3,4,5] [6] (by kernel_rfl) ?_;refine AV (At (@ne_eq (List D)) a3 EP) ?_;refine Al ?_;exact AN rfl AA.out
def GC (l:List UInt8):GF:=⟨AX (rv (Bz l)),if Cr l then dv (BY l)else 1⟩
theorem mc (l:List UInt8)(hl:l.length<=100000)(h1:(B1 l).all Be=true)(h2:Cr l=true->(BY l).all Be=true):AK C0 103 [str (sb l)] (GC l).D:=by
 refine Ak.walk w1 Y0 rfl λF=>?_
 have cc:=Yr l (by omega);have r1:=QP (Bz l) h1 (by unfold Bz;rw[Bf];omega);have hpw:AA (AX (rv (Bz l))).w:=AJ;unfold GC;change AK C0 _ _ (.tup [str (sb (Bz l)),str (sb (BY l)),As (Cr l)])at cc;rcases hs:Cr l with _|_
 ·rw[hs]at cc
  have wg:=Ym (AX (rv (Bz l)));have hp1:AA (AX ((1:Nat):Int)).w:=AJ;rw[AG (by simp)];dsimp only[GI.D,GF.D]at*;refine sR 0 ?_;refine sR 100 ?_;refine cI cc ?_;refine AC.seq ?_;refine sR 200 ?_;refine AO ?_;refine sR 300 ?_;refine cI r1 ?_;refine cI wg ?_;refine Al ?_;exact AN rfl AA.out
 ·rw[hs]at cc
  have hd:=h2 hs;have r2:=QP (BY l) (by rw[J4 hd];exact hd) (by unfold BY;rw[Dz];omega);rw[Mk hd]at r2;have hp1:AA (AX (dv (BY l):Int)).w:=AJ;rw[AH rfl];dsimp only[GI.D,GF.D]at*;refine sR 0 ?_;refine sR 100 ?_;refine cI cc ?_;refine AC.seq ?_;refine sR 200 ?_;refine AO ?_;refine Ap ?_;refine sR 400 ?_;refine cI r1 ?_;refine cI r2 ?_;refine Al ?_;exact AN rfl AA.out
set_option maxHeartbeats 4000000
theorem tI (g:Nat):((g:Int) != 1)=decide (g≠1):=by
 rw[Fu,bne_iff_ne,decide_eq_true_iff];omega
theorem je (l:List UInt8)(hl:l.length<=100000):AK C0 182 [str (sb l)] (i64 (Ca l)):=by
 refine Ak.walk w1 Z1 rfl λF=>?_
 have cc:=Yr l (by omega);change AK C0 _ _ (.tup [str (sb (Bz l)),str (sb (BY l)),As (Cr l)])at cc;have hnl:(Bz l).length<=100000:=by unfold Bz;rw[Bf];omega
 have hdl:(BY l).length<=100000:=by unfold BY;rw[Dz];omega
 have hsl:(B1 l).length<=100000:=by
  unfold B1 Bn;split
  ·rw[Dz];omega
  ·exact hnl
 have ct:=Rv (Bz l) (by omega);change AK C0 _ _ (str (sb (B1 l)))at ct;have p1:=XR (B1 l) (by omega);have p2:=XR (BY l) (by omega);have en:=Et (Bz l) [45,48];have e0:=Et (BY l) [48];have e1:=Et (BY l) [49];have z1:=Ce (B1 l);have z2:=Ce (BY l);have hbf:∃b,b=JJ l:=⟨_,rfl⟩
 obtain⟨bf,hbf⟩:=hbf;unfold Ca;rw[<-hbf];unfold JJ at hbf;refine sR 0 ?_;refine sR 100 ?_;refine cI cc ?_;refine sR 200 ?_;refine cI ct ?_;refine AC.seq ?_;refine Cu (α:=Nat) (λn=>⟨[(4,str (sb (BY l))),(5,As (Cr l)),(6,str (sb (B1 l))),(39,As bf)],[],n⟩) (λ_=>True) ?_ ?_
 ·refine rI 300 ?_
  refine cI p1 ?_;rcases hp:C4 (B1 l)with _|_
  ·rw[hp]at hbf
   have hb:bf=true:=by rw[hbf];rfl
   subst hb;simp only[RU];refine AE kT ?_;refine AE kT ?_;exact⟨trivial,_,trivial,AL⟩
  ·rw[hp]at hbf
   simp only[O9]
   by_cases hn:Bz l=[45,48]
   ·rw[AY hn]at en hbf
    have hb:bf=true:=by rw[hbf];rfl
    subst hb;refine AE (Ac kF en) ?_;refine AE (At kF kT en) ?_;exact⟨trivial,_,trivial,AL⟩
   ·rw[Ah hn]at en hbf
    rcases hs:Cr l with _|_
    ·rw[hs]at hbf
     have hb:bf=false:=by rw[hbf];rfl
     subst hb;refine AE (Ac kF en) ?_;refine AE (BW kF kT en hs) ?_;refine AE (BW kF kT en hs) ?_;exact⟨trivial,_,trivial,AL⟩
    ·rw[hs]at hbf
     refine AE (Ac kF en) ?_;refine AE (At kF en hs) ?_;refine NR hs ?_;refine BF.same _ p2 AJ ?_;refine Aw ?_;rcases hq:C4 (BY l)with _|_
     ·rw[hq]at hbf
      have hb:bf=true:=by rw[hbf];rfl
      subst hb;refine AE (At kF kT hq) ?_;refine AE (At kF kT hq) ?_;refine AE (At kF kT hq) ?_;exact⟨trivial,_,trivial,AL⟩
     ·rw[hq]at hbf
      refine AE hq ?_;simp only[O9];refine AE kF ?_
      by_cases h0:BY l=[48]
      ·rw[AY h0]at e0 hbf
       have hb:bf=true:=by rw[hbf];rfl
       subst hb;simp only[e0,imp_self];refine AE kT ?_;refine Hy rfl rfl rfl (by simp only[RU]) (by simp) (H5 (λ_ _=>rfl) ?_);refine AE kF ?_;exact⟨trivial,_,trivial,AL⟩
      ·rw[Ah h0]at e0 hbf
       simp only[e0];refine AE kF ?_
       by_cases h1:BY l=[49]
       ·rw[AY h1]at e1 hbf
        have hb:bf=true:=by rw[hbf];rfl
        subst hb;simp only[e1];exact⟨trivial,_,trivial,AL⟩
       ·rw[Ah h1]at e1 hbf
        have hb:bf=false:=by rw[hbf];rfl
        subst hb;simp only[e1];exact⟨trivial,_,trivial,AL⟩
 rintro n -;cases bf with
 |true=>
  rw[AH rfl];refine AO ?_;refine sR 400 ?_;refine Al ?_;exact AN rfl AA.out
 |false=>
  rw[AG (by simp)];have hbf:=hbf.symm;simp only[Ix,Bs,Bool.and_eq_false_iff]at hbf;obtain⟨⟨hp,hn⟩,hd⟩:=hbf;refine AO ?_;refine Ap ?_;have hsd:=(J6 hp).2;refine AC.seq ?_;refine Cu (α:=Nat) (λn=>⟨[(4,str (sb (BY l))),(5,As (Cr l)),(6,str (sb (B1 l))),(47,As (decide (600<(B1 l).length\/600<(BY l).length)))],[],n⟩) (λ_=>True) ?_ ?_
  ·by_cases hA:600<(B1 l).length
   ·have ea:decide (((sb (B1 l)).size:Int)>600)=true:=AY (by rw[z1];omega)
    have eb:decide (600<(B1 l).length\/600<(BY l).length)=true:=AY (Or.inl hA);rw[eb];refine Aq w1 500 (by kernel_rfl) ?_;refine AV ea ?_;refine AE kT ?_;exact⟨trivial,_,trivial,AL⟩
   ·have ea:decide (((sb (B1 l)).size:Int)>600)=false:=Ah (by rw[z1];omega)
    have eb:decide (((sb (BY l)).size:Int)>600)=decide (600<(B1 l).length\/600<(BY l).length):=by
     rw[Cz,z2];omega
    refine Aq w1 500 (by kernel_rfl) ?_;refine AV ea ?_;refine AE kF ?_;simp only[eb];exact⟨trivial,_,trivial,AL⟩
  rintro n -
  by_cases hL:600<(B1 l).length\/600<(BY l).length
  ·rw[AY hL,AH hL]
   refine AO ?_;refine sR 600 ?_;refine Al ?_;exact AN rfl AA.out
  ·rw[Ah hL,AG hL]
   refine AO ?_;refine Ap ?_;refine AC.seq ?_;refine sR 700 ?_;rcases hs:Cr l with _|_
   ·rw[AG (by simp)]
    refine AO ?_;refine Ap ?_;refine sR 1100 ?_;refine Al ?_;exact AN rfl AA.out
   ·rw[hs]at hd
    have hd':=hd.resolve_left (by simp);have hdd:=(J6 hd'.1.1).2;have r1:=QP (B1 l) (by rw[J4 hsd];exact hsd) hsl;have r2:=QP (BY l) (by rw[J4 hdd];exact hdd) hdl;rw[Mk hsd]at r1;rw[Mk hdd]at r2;have l1:(Ag (dv (B1 l))).length<=100000:=BR (MG (GB _ hsd)) hsl;have l2:(Ag (dv (BY l))).length<=100000:=BR (MG (GB _ hdd)) hdl;have cg:=br (AX (dv (B1 l):Int)) (AX (dv (BY l):Int)) (Cf _) (Cf _) (Hz (by omega)) (Hz (by omega));rw[Di,Di,EO,EO]at cg;have cs:=nf (Nat.gcd (dv (B1 l)) (dv (BY l)));obtain⟨g,hg0⟩:∃g,g=Nat.gcd (dv (B1 l)) (dv (BY l)):=⟨_,rfl⟩
    rw[<-hg0]at cg cs;simp only[<-hg0];have hpa:AA (AX (dv (B1 l):Int)).w:=AJ;have hpb:AA (AX (dv (BY l):Int)).w:=AJ;have hpg:AA (AX (g:Int)).w:=AJ;dsimp only[GI.D]at r1 r2 cg cs;refine AO ?_;refine sR 800 ?_;refine cI r1 ?_;refine cI r2 ?_;refine cI cg ?_;refine cI cs ?_;refine Cu (α:=Nat) (λn=>⟨[(63,As (decide (g≠1)))],[],n⟩) (λ_=>True) ?_ ?_
    ·by_cases hg:Sm (g:Int)
     ·obtain⟨a1,a2⟩:=RK hg
      have eg:=tI g;rw[a1,AY hg];refine rI 900 ?_;simp only[O9];refine AE kF ?_;simp only[eg];exact⟨trivial,_,trivial,AL⟩
     ·have eg:decide (g≠1)=true:=AY λh=>hg (by rw[h];exact⟨by decide,by decide⟩)
      rw[eg,Ah hg];refine rI 900 ?_;simp only[RU];refine AE kT ?_;exact⟨trivial,_,trivial,AL⟩
    rintro n -
    by_cases hg:g=1
    ·rw[Ah (λh=>h hg),AG (λh=>h.2 hg)]
     refine AO ?_;refine Ap ?_;refine sR 1100 ?_;refine Al ?_;exact AN rfl AA.out
    ·rw[AY hg,AH ⟨trivial,hg⟩]
     refine AO ?_;refine sR 1000 ?_;refine Al ?_;exact AN rfl AA.out
abbrev RB:Nat:=1000000000
def Aa (n:Nat):List Nat:=if _h:n=0 then[]else(n%RB)::Aa (n/RB)
termination_by n
decreasing_by exact Hk (Dy _h) (by decide)
def AP:List Nat->Nat
 | []=>0
 |a::l=>a+RB*AP l
def Rd (l:List Nat):Prop:=∀a∈l,a<RB
theorem GU:Aa 0=[]:=by unfold Aa;rfl
theorem Id {n:Nat}(h:n≠0):Aa n=(n%RB)::Aa (n/RB):=by rw[Aa,dif_neg h]
theorem Ea (n:Nat):Rd (Aa n):=by
 induction n using Nat.strongRecOn with
 |ind n ih=>
  by_cases h:n=0
  ·subst h;rw[GU];intro a ha;cases ha
  ·rw[Id h]
   intro a ha;rcases BA.1 ha with rfl|ha
   ·exact B5 _ (by decide)
   ·exact ih _ (Hk (Dy h) (by decide)) a ha
theorem D3 (n:Nat):AP (Aa n)=n:=by
 induction n using Nat.strongRecOn with
 |ind n ih=>
  by_cases h:n=0
  ·subst h;rw[GU];rfl
  ·rw[Id h,AP,ih _ (Hk (Dy h) (by decide))]
   exact El n RB
theorem JB (l m:List Nat):AP (l++m)=AP l+RB^l.length*AP m:=by
 induction l with
 |nil=>simp[AP]
 |cons a l ih=>
  simp only[ES,AP,ih,Bo,CL,BM];rw[BS (RB^l.length) RB,Bw,EW]
theorem Rd.tail {a:Nat}{l:List Nat}(h:Rd (a::l)):Rd l:=λb hb=>h b (Cn _ hb)
theorem Rd.head {a:Nat}{l:List Nat}(h:Rd (a::l)):a<RB:=h a Cg
theorem Rd.append {l m:List Nat}(h:Rd l)(k:Rd m):Rd (l++m):=λa ha=>(List.mem_append.1 ha).elim (h a) (k a)
theorem Rd.take {l:List Nat}(h:Rd l)(n:Nat):Rd (l.take n):=λa ha=>h a (IT ha)
theorem F5:∀ {l:List Nat},Rd l->AP l<RB^l.length
 | [],_=>by simp[AP]
 |a::l,h=>by
  have h1:=F5 h.tail;have h2:=h.head;rw[AP,Bo,CL]
  calc a+RB*AP l<RB+RB*AP l:=by omega
   _=RB*(AP l+1):=by rw[BM,EB,Kp]
   _<=RB*RB^l.length:=Cd _ h1
   _=_:=BS _ _
theorem VY:∀ {l:List Nat},Rd l->(∀a∈l.getLast?,a≠0)->Aa (AP l)=l
 | [],_,_=>GU
 | [a],h,hl=>by
  have ha:a≠0:=hl a (by simp);have hb:=h.head;rw[show AP [a]=a from by simp[AP],Id ha,Dc hb,HE hb,GU]
 |a::b::l,h,hl=>by
  have ih:=VY h.tail (λx hx=>hl x (by simpa using hx));have hb:=h.head;have hv:AP (b::l)≠0:=by
   intro h0;rw[h0,GU]at ih;cases ih
  have e1:AP (a::b::l)%RB=a:=by rw[AP,RW,Dc hb]
  have e2:AP (a::b::l)/RB=AP (b::l):=by
   rw[AP,Re _ _ (by decide),HE hb,BP]
  have hne:AP (a::b::l)≠0:=by
   intro h0;rw[h0]at e2;exact hv (by rw[<-e2];rfl)
  rw[Id hne,e1,e2,ih]
theorem VU:∀(k:Nat),AP (List.replicate k 0)=0
 | 0=>rfl
 |k+1=>by rw[List.replicate_succ,AP,VU k,EX]
theorem Ia (b:Nat):∀a,b<=a->(Aa b).length<=(Aa a).length:=by
 induction b using Nat.strongRecOn with
 |ind b ih=>
  intro a h
  by_cases hb:b=0
  ·subst hb;rw[GU];exact BU _
  ·rw[Id hb,Id (n:=a) (by omega),Bo,Bo]
   exact Nat.succ_le_succ (ih _ (Hk (Dy hb) (by decide)) _ (Nat.div_le_div_right h))
theorem VH {a b:Nat}(h:(Aa a).length<(Aa b).length):a<b:=by
 rcases BG a b with h1|h1
 ·exact h1
 ·have:=Ia b a h1;omega
theorem Nd {l:List Nat}{k a:Nat}(h:l[k]?=some a):AP l=AP (l.take k)+RB^k*(a+RB*AP (l.drop (k+1))):=by
 have hk:k<l.length:=(List.getElem?_eq_some_iff.1 h).1
 conv=>lhs;rw[<-Ez k l]
 rw[JB,Bf,E4 (by omega)]
 have:l.drop k=a::l.drop (k+1):=by
  rw[EI hk]
  congr 1
  exact(List.getElem?_eq_some_iff.1 h).2
 rw[this,AP]
theorem VT {l m:List Nat}{k a b:Nat}(hl:Rd l)(ha:l[k]?=some a)(hb:m[k]?=some b)(hd:l.drop (k+1)=m.drop (k+1))(hab:a<b):AP l<AP m:=by
 have hk:k<l.length:=(List.getElem?_eq_some_iff.1 ha).1;rw[Nd ha,Nd hb,hd];have h1:=F5 (hl.take k);rw[Bf,E4 (by omega)]at h1;generalize AP (m.drop (k+1))=r;have h2:RB^k*(a+RB*r)+RB^k<=RB^k*(b+RB*r):=by
  rw[<-Nat.mul_succ];exact Cd _ (by omega)
 omega
theorem Gr {l:List Nat}{i a:Nat}(hi:l.length=i):AP (l++[a])=AP l+RB^i*a:=by rw[JB,hi];simp[AP]
theorem Rd.set {l:List Nat}(h:Rd l){i a:Nat}(ha:a<RB):Rd (l.set i a):=λb hb=>by
 rcases O4 hb with h1|rfl
 ·exact h b h1
 ·exact ha
theorem R5 (n:Nat):Rd (List.replicate n 0):=λa ha=>by rw[O5 ha];decide
theorem NZ:∀ {l:List Nat} {k o d:Nat},l[k]?=some o->AP (l.set k d)+RB^k*o=AP l+RB^k*d
 |a::l,0,o,d,h=>by
  simp only[RY,BL]at h;subst h;simp only[List.set_cons_zero,AP,L6,I3];omega
 |a::l,k+1,o,d,h=>by
  simp only[Jo]at h;have ih:=NZ (d:=d) h;simp only[List.set_cons_succ,AP];have h1:RB^(k+1)*o=RB*(RB^k*o):=by rw[CL,BS (RB^k) RB,Bw]
  have h2:RB^(k+1)*d=RB*(RB^k*d):=by rw[CL,BS (RB^k) RB,Bw]
  have h3:RB*AP (l.set k d)+RB*(RB^k*o)=RB*AP l+RB*(RB^k*d):=by rw[<-BM,<-BM,ih]
  omega
theorem K3 {n k:Nat}(h:n<RB^k):(Aa n).length<=k:=by
 induction k generalizing n with
 |zero=>
  have:n=0:=by simpa using h
  subst this;rw[GU];exact Ai _
 |succ k ih=>
  by_cases h0:n=0
  ·subst h0;rw[GU];exact BU _
  ·rw[Id h0,Bo]
   exact Nat.succ_le_succ (ih (E3 (by rw[BS,<-CL];exact h)))
theorem Ib (n:Nat):n<RB^(Aa n).length:=by
 have:=F5 (Ea n)
 rwa [D3]at this
theorem VW (a b:Nat):(Aa (a+b)).length<=max (Aa a).length (Aa b).length+1:=by
 refine K3 ?_;have h1:=Ib a;have h2:=Ib b;have m1:RB^(Aa a).length<=RB^max (Aa a).length (Aa b).length:=FN (by decide) (Nat.le_max_left _ _);have m2:RB^(Aa b).length<=RB^max (Aa a).length (Aa b).length:=FN (by decide) (Nat.le_max_right _ _);rw[CL];generalize RB^max (Aa a).length (Aa b).length=q at*;unfold RB;omega
theorem VX (a b:Nat):(Aa (a-b)).length<=(Aa a).length:=Ia _ _ (Nat.sub_le _ _)
theorem Rx (a b:Nat):(Aa (a*b)).length<=(Aa a).length+(Aa b).length:=by
 refine K3 ?_;rw[Fw];exact Nat.mul_lt_mul'' (Ib a) (Ib b)
theorem PS {n:Nat}(h0:n≠0)(h:n<RB):Aa n=[n]:=by
 rw[Id h0,Dc h,HE h,GU]
theorem T5 {l:List Nat}{k a:Nat}(hl:l.length=k+1)(ha:l[k]?=some a):AP l=AP (l.take k)+RB^k*a:=by
 rw[Nd ha,HG (by omega)];simp[AP]
theorem sY {l:List Nat}{k a b:Nat}(hl:l.length=k+2)(ha:l[k]?=some a)(hb:l[k+1]?=some b):AP l=AP (l.take k)+RB^k*(a+RB*b):=by
 rw[Nd ha]
 have:l.drop (k+1)=[b]:=by
  rw[EI (by omega),HG (by omega)]
  congr 1
  exact(List.getElem?_eq_some_iff.1 hb).2
 rw[this];simp[AP]
theorem s5 {l:List Nat}{k a b c:Nat}(hl:l.length=k+3)(ha:l[k]?=some a)(hb:l[k+1]?=some b)(hc:l[k+2]?=some c):AP l=AP (l.take k)+RB^k*(a+RB*(b+RB*c)):=by
 rw[Nd ha];have h1:=T5 (l:=l.drop (k+1)) (k:=1) (a:=c) (by rw[Dz];omega) (by rw[HH,EW];exact hc);have h2:(l.drop (k+1)).take 1=[b]:=by
  rw[EI (by omega)];simp only[List.take_succ_cons,NF]
  congr 1
  exact(List.getElem?_eq_some_iff.1 hb).2
 rw[h1,h2];simp[AP]
structure KU (P v:List Nat)(m p0 p1 p2 v2 v1:Nat):Prop where
 lP:P.length=m+3
 lv:v.length=m+2
 wP:Rd P
 wv:Rd v
 h0:P[m]?=some p0
 h1:P[m+1]?=some p1
 h2:P[m+2]?=some p2
 g2:v[m]?=some v2
 g1:v[m+1]?=some v1
 top:0<v1
 less:AP P<AP v*RB
namespace KU
variable {P v:List Nat} {m p0 p1 p2 v2 v1:Nat} (S:KU P v m p0 p1 p2 v2 v1)
include S
theorem valP:AP P=AP (P.take m)+RB^m*(p0+RB*(p1+RB*p2)):=s5 S.lP S.h0 S.h1 S.h2
theorem valv:AP v=AP (v.take m)+RB^m*(v2+RB*v1):=sY S.lv S.g2 S.g1
theorem lowP:AP (P.take m)<RB^m:=by
 have:=F5 (S.wP.take m)
 rwa [Bf,E4 (by have:=S.lP;omega)]at this
theorem lowv:AP (v.take m)<RB^m:=by
 have:=F5 (S.wv.take m)
 rwa [Bf,E4 (by have:=S.lv;omega)]at this
theorem p0l:p0<RB:=S.wP _ (A0 S.h0)
theorem p1l:p1<RB:=S.wP _ (A0 S.h1)
theorem p2l:p2<RB:=S.wP _ (A0 S.h2)
theorem v1l:v1<RB:=S.wv _ (A0 S.g1)
theorem v2l:v2<RB:=S.wv _ (A0 S.g2)
theorem below3:AP P<(p0+RB*(p1+RB*p2)+1)*RB^m:=by
 rw[S.valP,Bu,I3,BS (RB^m)]
 have:=S.lowP
 omega
theorem below2:AP P<(p1+RB*p2+1)*RB^(m+1):=by
 have h:=S.below3;have h1:=S.p0l;generalize p1+RB*p2=t at*;have h2:(p0+RB*t+1)*RB^m<=(RB*(t+1))*RB^m:=CI _ (by rw[BM RB t 1];omega);have h3:(t+1)*RB^(m+1)=(RB*(t+1))*RB^m:=by rw[CL,BS (RB^m) RB,<-Bw,BS (t+1) RB]
 omega
theorem abovev:v1*RB^(m+1)<=AP v:=by
 rw[S.valv,CL,BM]
 have:v1*(RB^m*RB)=RB^m*(RB*v1):=by rw[BS v1,Bw]
 omega
theorem abovev2:(v2+RB*v1)*RB^m<=AP v:=by
 rw[S.valv,BS];omega
theorem pos:0<AP v:=CV (HI S.top (Nat.pow_pos (by decide))) S.abovev
theorem p2v1:p2<=v1:=by
 rcases BG v1 p2 with h|h
 ·exfalso
  have e1:RB^(m+2)*p2<=AP P:=by
   rw[S.valP,BM,BM,BM]
   have:RB^(m+2)*p2=RB^m*(RB*(RB*p2)):=by rw[CL,CL,Bw,Bw]
   omega
  have e2:AP v<RB^(m+1)*(v1+1):=by
   have h1:=S.lowv;have h2:=S.v2l;have e3:RB^(m+1)*(v1+1)=RB^m*(RB*v1+RB):=by rw[CL,Bw,BM,EB]
   have e4:RB^m*(v2+RB*v1+1)<=RB^m*(RB*v1+RB):=Cd _ (by omega);rw[BM _ _ 1,EB]at e4;rw[S.valv,e3];omega
  have e5:RB^(m+1)*(v1+1)*RB=RB^(m+2)*(v1+1):=by rw[Nat.mul_right_comm,<-CL]
  have e6:RB^(m+2)*(v1+1)<=RB^(m+2)*p2:=Cd _ h;have e7:(AP v)*RB<=RB^(m+1)*(v1+1)*RB:=CI _ (Jr e2)
  have:=S.less
  omega
 ·exact h
end KU
theorem dw {A P v:List Nat}{q i z x d b c b' c' lo:Nat}(hz:A[i]?=some z)(hx:v[i]?=some x)(hI:AP A+q*AP (v.take i)=AP P+RB^i*(c+b))
  (h1:lo+RB*c'=q*x+c) (h2:d+lo+b=z+RB*b'):AP (A.set i d)+q*AP (v.take (i+1))=AP P+RB^(i+1)*(c'+b'):=by
 have hs:=NZ (d:=d) hz;have hi:i<v.length:=(List.getElem?_eq_some_iff.1 hx).1;rw[E7 hx,Gr (i:=i) (by rw[Bf];omega),BM,IN q,CL,Bw];have e:RB^i*(d+q*x+(c+b))=RB^i*(z+RB*(c'+b')):=by congr 1;rw[BM RB];omega
 rw[BM,BM,BM (RB^i) z]at e;omega
theorem du {A P v:List Nat}{i z x c:Nat}(hz:A[i]?=some z)(hx:v[i]?=some x)(hI:AP A+RB^i*c=AP P+AP (v.take i)):
  AP (A.set i ((z+x+c)%RB))+RB^(i+1)*((z+x+c)/RB)=AP P+AP (v.take (i+1)):=by
 have hs:=NZ (d:=(z+x+c)%RB) hz;have hi:i<v.length:=(List.getElem?_eq_some_iff.1 hx).1;rw[E7 hx,Gr (i:=i) (by rw[Bf];omega),CL,Bw];have e:RB^i*((z+x+c)%RB+RB*((z+x+c)/RB))=RB^i*(z+x+c):=by rw[El]
 rw[BM,BM,BM (RB^i) z]at e;omega
theorem fL {n k:Nat}(h1:RB^k<=n)(h2:n<RB^(k+1)):(Aa n).length=k+1:=by
 have h3:=K3 h2;have h4:=DW h1 (Ib n);have h5:=(Nat.pow_lt_pow_iff_right (show 1<RB by decide)).1 h4;omega
theorem PT:∀(n:Nat) {k a:Nat},(Aa n).length=k+1->(Aa n)[k]?=some a->a≠0:=λn=>by
 induction n using Nat.strongRecOn with
 |ind n ih=>
  intro k a h1 h2
  by_cases h0:n=0
  ·subst h0;rw[GU]at h1;cases h1
  ·rw[Id h0]at h1 h2
   rw[Bo]at h1;have h3:=Nat.succ.inj h1;cases k with
   |zero=>
    have h4:Aa (n/RB)=[]:=ET h3;have h5:n/RB=0:=by rw[<-D3 (n/RB),h4];rfl
    have h6:=El n RB;rw[h5]at h6;simp at h2;intro h7;subst h7;rw[h2]at h6;omega
   |succ k=>
    rw[Jo]at h2;exact ih _ (Hk (Dy h0) (by decide)) h3 h2
theorem R4 {n k:Nat}(h:(Aa n).length=k+1):RB^k<=n:=by
 obtain⟨a,ha⟩:=CS (l:=Aa n) (i:=k) (by omega);have h1:=PT n h ha;have h2:=T5 h ha;rw[D3]at h2;have h3:=Cd (RB^k) (show 1<=a by omega);omega
theorem Pb {l:List Nat}{j a:Nat}(h:l[j]?=some a):AP (l.drop j)=a+RB*AP (l.drop (j+1)):=by
 have hj:j<l.length:=(List.getElem?_eq_some_iff.1 h).1;rw[EI hj,(List.getElem?_eq_some_iff.1 h).2];rfl
theorem fG {a q:List Nat}{j x b rest:Nat}(hb:0<b)(hx:a[j]?=some x)(hj:j<q.length)(hI:AP (q.drop (j+1))*b+rest=AP (a.drop (j+1))):
  AP ((q.set j ((rest*RB+x)/b)).drop j)*b+(rest*RB+x)%b=AP (a.drop j)/\(rest*RB+x)%b<b:=by
 refine⟨?_,B5 _ hb⟩;rw[P0 hj,Pb hx,<-hI,AP];have e:=EU (rest*RB+x) b;rw[Bu,BM RB,Bw RB,BS RB rest,BS _ b];omega
structure Ln (X:Nat)(v U q:List Nat)(lu lq k:Nat):Prop where
 lU:U.length=lu
 lQ:q.length=lq
 wU:Rd U
 wq:Rd q
 val:RB^k*AP (q.drop k)*AP v+AP U=X
 less:AP (U.drop k)<AP v
theorem ge {X:Nat}{v U q:List Nat}{lu lq j m:Nat}(I:Ln X v U q lu lq (j+1))(hv:v.length=m+2)(wv:Rd v)(v1 v2:Nat)(h2:v[m]?=some v2)(h1:v[m+1]?=some v1)(ht:0<v1)(hj:j+(m+3)<=lu):
  ∃p0 p1 p2,KU ((U.drop j).take (m+3)) v m p0 p1 p2 v2 v1/\AP (U.drop (j+(m+3)))=0/\AP ((U.drop j).take (m+3))=AP (U.drop j):=by
 obtain⟨lU,lQ,wU,wq,val,less⟩:=I;obtain⟨x,hx⟩:=CS (l:=U) (i:=j) (by omega);have hxl:=wU x (A0 hx);have e1:=Pb hx;have hlt:AP (U.drop j)<AP v*RB:=by
  have:RB*(AP (U.drop (j+1))+1)<=RB*AP v:=Cd _ less
  rw[BM,BS RB (AP v)]at this;omega
 have hPl:((U.drop j).take (m+3)).length=m+3:=by rw[Bf,Dz];omega
 have e2:AP (U.drop j)=AP ((U.drop j).take (m+3))+RB^(m+3)*AP (U.drop (j+(m+3))):=by
  conv=>lhs;rw[<-Ez (m+3) (U.drop j)]
  rw[JB,hPl,List.drop_drop]
 have hvl:=F5 wv;rw[hv]at hvl;have hz:AP (U.drop (j+(m+3)))=0:=by
  rcases Db (AP (U.drop (j+(m+3))))with h|h
  ·exact h
  ·exfalso
   have e3:RB^(m+3)*1<=RB^(m+3)*AP (U.drop (j+(m+3))):=Cd _ h;have e4:AP v*RB<=RB^(m+2)*RB:=CI _ (Jr hvl);have e5:RB^(m+2)*RB=RB^(m+3):=(CL RB (m+2)).symm;rw[e5]at e4;omega
 rw[hz,EX,DY]at e2;obtain⟨p0,h0⟩:=CS (l:=(U.drop j).take (m+3)) (i:=m) (by omega);obtain⟨p1,h3⟩:=CS (l:=(U.drop j).take (m+3)) (i:=m+1) (by omega);obtain⟨p2,h4⟩:=CS (l:=(U.drop j).take (m+3)) (i:=m+2) (by omega);exact⟨p0,p1,p2,⟨hPl,hv,λa ha=>wU a (Kr (IT ha)),wv,h0,h3,h4,h2,h1,ht,by rw[<-e2];exact hlt⟩,hz,e2.symm⟩
theorem gc {X:Nat}{v U q P':List Nat}{lu lq j m:Nat}(I:Ln X v U q lu lq (j+1))(hv:0<AP v)(hj:j+(m+3)<=lu)(hjq:j<lq)(hz:AP (U.drop (j+(m+3)))=0)(hP:AP ((U.drop j).take (m+3))=AP (U.drop j))
  (h1:P'.length=m+3) (h2:Rd P') (h3:AP P'=AP ((U.drop j).take (m+3))%AP v) (hd:AP ((U.drop j).take (m+3))/AP v<RB):
  Ln X v (U.take j++(P'++U.drop (j+(m+3)))) (q.set j (AP ((U.drop j).take (m+3))/AP v)) lu lq j:=by
 obtain⟨lU,lQ,wU,wq,val,less⟩:=I;have hA:(U.take j).length=j:=by rw[Bf];omega
 have e0:AP U=AP (U.take j)+RB^j*AP (U.drop j):=by
  conv=>lhs;rw[<-Ez j U]
  rw[JB,hA]
 have e1:AP (P'++U.drop (j+(m+3)))=AP P':=by rw[JB,hz,EX,DY]
 refine⟨?_,by rw[C9];exact lQ,?_,wq.set hd,?_,?_⟩
 ·rw[Bk,Bk,hA,h1,Dz];omega
 ·exact Rd.append (wU.take j) (Rd.append h2 λa ha=>wU a (Kr ha))
 ·rw[P0 (by omega),AP,JB,hA,e1,h3,hP]
  rw[e0]at val;have e2:=EU (AP (U.drop j)) (AP v);have e3:RB^(j+1)*AP (q.drop (j+1))*AP v=RB^j*(RB*AP (q.drop (j+1))*AP v):=by
   rw[CL,Bw,Bw,Bw]
  rw[e3]at val;have e4:RB^j*AP (U.drop j)=RB^j*(AP v*(AP (U.drop j)/AP v))+RB^j*(AP (U.drop j)%AP v):=by
   rw[<-BM,e2]
  rw[Bw,Bu,BM,BS (AP (U.drop j)/AP v)];omega
 ·rw[List.drop_left' hA,e1,h3]
  exact B5 _ hv
set_option maxHeartbeats 2000000
abbrev Ad (n:Nat):D:=i64 (n:Int)
def rL (l:List Nat):D:=.sl false 1 (l.map Ad)
def rD (n:Nat):D:=rL (Aa n)
theorem N5 (l:List Nat):B7 (rL l):=.sl λe he d hd=>by
 obtain⟨a,_,rfl⟩:=List.mem_map.1 he;simp only[D.cells,BA,DM,or_false]at hd;subst hd;exact .prim _
instance  (l:List Nat):AA (rL l):=⟨N5 l⟩
instance  (n:Nat):AA (rD n):=⟨N5 _⟩
theorem Dl {l:List Nat}{i a:Nat}(h:l[i]?=some a):(l.map Ad)[i]?=some (Ad a):=by rw[A7,h];rfl
theorem Mi {l:List Nat}{i a:Nat}:(l.map Ad).set i (Ad a)=(l.set i a).map Ad:=List.map_set.symm
theorem u6 (c:Nat):((c:Int)==0)=decide (c=0):=by rw[Fu,EA,decide_eq_true_iff];omega
theorem S8 (m:List Nat):AP (m++[0])=AP m:=by rw[Gr rfl];simp
theorem YZ {m:List Nat}{c:Nat}(h:Rd (m++[c]))(hc:c≠0):Aa (AP (m++[c]))=m++[c]:=VY h λa ha=>by
 rw[List.getLast?_append]at ha;simp at ha;rw[<-ha];exact hc
theorem LW (l:List Nat)(h:Rd l)(hlen:l.length<4000000000):AK C0 228 [rL l] (rD (AP l)):=by
 refine Ak.walk w1 ZX rfl λF=>?_
 unfold rL;refine sR 0 ?_;refine AC.seq ?_;refine AC.block ?_;refine AC.loop (α:=List Nat×Nat) (λp=>⟨[(0,.sl false 1 (p.1.map Ad))],[],p.2⟩) (λp=>p.1.length)
  (λp=>AP p.1=AP l/\Rd p.1/\p.1.length<=l.length) (l,_) ⟨rfl,h,Ai _⟩ AL ?_
 rintro⟨m,n⟩ F ⟨h1,h2,h3⟩;dsimp only at h1 h2 h3⊢;refine AC.seq ?_;refine AC.seq ?_;rcases Ra m with rfl|⟨m,c,rfl⟩
 ·have e1:decide (((0:Nat):Int)>0)=false:=rfl
  refine Aq w1 100 (by kernel_rfl) ?_;refine AV e1 ?_;refine AE e1 ?_;refine AO ?_;refine CA ?_;refine sR 300 ?_;refine Al ?_;refine AN (d0:=rL []) ?_ AA.out;rw[<-h1];unfold rD;rw[show AP []=0 from rfl,GU]
 ·rw[RZ]at h1 h2 h3⊢
  have el:((((m++[c]).map Ad).length:Nat):Int)=((m.length+1:Nat):Int):=by rw[Am,Bk];rfl
  rw[Bk,GQ]at h3;have e1:decide (((m.length+1:Nat):Int)>0)=true:=AY (by omega);have wk:IntKind.i64.wrap (((m.length+1:Nat):Int)-1)=(m.length:Int):=by rw[wI (by omega) (by omega)];omega
  have wraw:IntKind.i64.wrap (((((m++[c]).map Ad).length:Nat):Int)-1)=(m.length:Int):=by rw[el,wk]
  have hx:((m++[c]).map Ad)[m.length]?=some (Ad c):=Dl (by simp);have ec:=u6 c;refine Aq w1 100 (by kernel_rfl) ?_;refine AV (Ac el e1) ?_;refine AE (CM e1 wraw el wk kN) ?_;refine Br e1 hx ?_;refine AE (CM e1 wraw el wk ec) ?_
  by_cases hc:c=0
  ·rw[AY hc]
   subst hc;have e4:List.take (m.length-0) (List.drop 0 ((m++[0]).map Ad))=m.map Ad:=by simp
   have e5:List.take m.length ((m++[0]).map Ad)=m.map Ad:=by simp
   rw[S8]at h1;refine AO ?_;refine Ap ?_;refine AC.block ?_;refine Aq w1 200 (by kernel_rfl) ?_;refine AV (CM el wk wraw kN e4) ?_;exact⟨(m,_),⟨h1,λa ha=>h2 a (Jq _ ha),by dsimp only;omega⟩,by dsimp only;rw[Bk,GQ];omega,AL⟩
  ·rw[Ah hc]
   refine AO ?_;refine CA ?_;refine sR 300 ?_;refine Al ?_;refine AN (d0:=rL (m++[c])) ?_ AA.out;unfold rD;rw[<-h1,YZ h2 hc]
theorem TK (l:List Nat)(i:Nat)(hlen:l.length<4000000000)(hi:i<4000000000):AK C0 295 [rL l,Ad i] (Ad (l.getD i 0)):=by
 refine Ak.walk w1 qz rfl λF=>?_
 unfold rL;have el:(((l.map Ad).length:Nat):Int)=(l.length:Int):=by rw[Am]
 refine sR 0 ?_;refine AC.seq ?_;refine AC.seq ?_
 by_cases h:i<l.length
 ·have e1:decide ((i:Int)<(l.length:Int))=true:=AY (by omega)
  obtain⟨a,ha⟩:=CS h;have hx:=Dl ha;have eg:l.getD i 0=a:=by rw[Ei,ha];rfl
  rw[eg];refine Aq w1 100 (by kernel_rfl) ?_;refine AV (Ac el e1) ?_;refine AO ?_;refine sZ 200 ?_;refine AE kN ?_;refine Br kT hx ?_;refine AE kN ?_;refine Al ?_;exact AN rfl AA.out
 ·have e1:decide ((i:Int)<(l.length:Int))=false:=Ah (by omega)
  have eg:l.getD i 0=0:=by rw[Ei,Dd (by omega)];rfl
  rw[eg];refine Aq w1 100 (by kernel_rfl) ?_;refine AV (Ac el e1) ?_;refine AO ?_;refine Ap ?_;refine sR 300 ?_;refine Al ?_;exact AN rfl AA.out
theorem Q0 (a b:Nat)(ha:(Aa a).length<4000000000)(hb:(Aa b).length<4000000000):AK C0 226 [rD a,rD b] (i64 (Du a b)):=by
 refine Ak.walk w1 rF rfl λF=>?_
 have hwa:=Ea a;have hwb:=Ea b;have va:=D3 a;have vb:=D3 b;have hlt:=@VH a b;have hgt:=@VH b a;unfold rD rL Du;generalize Aa a=la at*;generalize Aa b=lb at*;have ea:(((la.map Ad).length:Nat):Int)=(la.length:Int):=by rw[Am]
 have eb:(((lb.map Ad).length:Nat):Int)=(lb.length:Int):=by rw[Am]
 refine sR 0 ?_;refine AC.seq ?_;refine sZ 100 ?_;refine AV (Ac ea eb) ?_;refine AO ?_
 (refine Bv (λh10=>?_) (λh10=>?_))<;>(try simp only[Bi,Bs]at h10)<;>(try simp only[h10])
 ·have hne:la.length≠lb.length:=by
   have:(la.length:Int)≠lb.length:=by simpa using h10
   omega
  refine AC.seq ?_;refine sZ 200 ?_;refine AV (Ac ea eb) ?_;refine AO ?_
  (refine Bv (λh15=>?_) (λh15=>?_))<;>(try simp only[Bi,Bs]at h15)<;>(try simp only[h15])
  ·have h1:la.length<lb.length:=by
    have:(la.length:Int)<lb.length:=by simpa using h15
    omega
   rw[AH (by have:=hlt h1;omega)];refine sR 300 ?_;refine Al ?_;exact AN rfl AA.out
  ·have h1:lb.length<la.length:=by
    have:¬(la.length:Int)<lb.length:=by simpa using h15
    omega
   have h2:=hgt h1;rw[AG (by omega),AH (by omega)];refine Ap ?_;refine sR 400 ?_;refine Al ?_;exact AN rfl AA.out
 ·have hl:la.length=lb.length:=by
   have:(la.length:Int)=lb.length:=by simpa using h10
   omega
  clear hlt hgt;refine Ap ?_;refine AC.seq ?_;refine sZ 500 ?_;refine AV ea ?_;refine AC.block ?_;have w0:IntKind.i64.wrap ((la.length:Int)-1)=(la.length:Int)-1:=wI (by omega) (by omega);rw[w0];refine AC.loop (α:=Nat×Nat) (λp=>⟨[(0,.sl false 1 (la.map Ad)),(1,.sl false 1 (lb.map Ad)),(5,i64 ((p.1:Int)-1))],[],p.2⟩) (λp=>p.1)
   (λp=>p.1<=la.length/\la.drop p.1=lb.drop p.1) (la.length,_) ⟨Ai _,by rw[IP,hl,IP]⟩ AL ?_
  rintro⟨k,m⟩ F ⟨h1,h2⟩;dsimp only at h1 h2⊢;refine AC.seq ?_;refine sR 600 ?_;refine AO ?_
  (refine Bv (λh20=>?_) (λh20=>?_))<;>(try simp only[Bi,Bs]at h20)<;>(try simp only[h20])
  ·obtain⟨j,rfl⟩:∃j,k=j+1:=⟨k-1,by
    have:(k:Int)-1>=0:=by simpa using h20
    omega⟩
   have wj:((j+1:Nat):Int)-1=(j:Int):=by omega
   obtain⟨x,hx⟩:∃x,la[j]?=some x:=⟨la[j],BI (by omega)⟩
   obtain⟨y,hy⟩:∃y,lb[j]?=some y:=⟨lb[j],BI (by omega)⟩
   have hx':=Dl hx;have hy':=Dl hy;rw[wj];refine Ap ?_;refine AC.seq ?_;refine AC.block ?_;refine AC.seq ?_;refine AC.seq ?_;refine B8 w1 800 [0,1,2,3,4,5,6,7] [8] (by kernel_rfl) ?_;refine AE kN ?_;refine Br kT hx' ?_;refine AE kN ?_;refine Br kT hy' ?_;refine AE kN ?_;refine AE kN ?_;refine AO ?_
   (refine Bv (λh31=>?_) (λh31=>?_))<;>(try simp only[Bi,Bs]at h31)<;>(try simp only[h31])
   ·have hxy:x<y:=by
     have:=DA h31
     omega
    have:=VT hwa hx hy h2 hxy
    rw[AH (by omega)];refine sR 900 ?_;refine Al ?_;exact AN rfl AA.out
   ·have hxy0:¬x<y:=by
     have:=DN h31
     omega
    refine Ap ?_;refine AC.seq ?_;refine B8 w1 1000 [0,1,2,3,4,5,6,7] [8] (by kernel_rfl) ?_;refine AE kN ?_;refine Br kT hx' ?_;refine AE kN ?_;refine Br kT hy' ?_;refine AE kN ?_;refine AE kN ?_;refine AO ?_
    (refine Bv (λh40=>?_) (λh40=>?_))<;>(try simp only[Bi,Bs]at h40)<;>(try simp only[h40])
    ·have hxy:y<x:=by
      have:=DA h40
      omega
     have:=VT hwb hy hx h2.symm hxy
     rw[AG (by omega),AH (by omega)];refine sR 1100 ?_;refine Al ?_;exact AN rfl AA.out
    ·have hxy:x=y:=by
      have:=DN h40
      omega
     subst hxy;have w5:IntKind.i64.wrap ((j:Int)-1)=(j:Int)-1:=wI (by omega) (by omega);refine Ap ?_;refine Aq w1 700 (by kernel_rfl) ?_;refine AV w5 ?_;have hj:=(List.getElem?_eq_some_iff.1 hx)
     have hj':=(List.getElem?_eq_some_iff.1 hy)
     refine⟨(j,_),⟨by dsimp only;omega,?_⟩,by dsimp only;omega,AL⟩;dsimp only;rw[EI hj.1,EI hj'.1,hj.2,hj'.2,h2]
  ·have hk:k=0:=by
    have:¬((k:Int)-1>=0):=by simpa using h20
    omega
   subst hk;have hab:a=b:=by
    rw[<-va,<-vb]
    have:la=lb:=by simpa using h2
    rw[this]
   subst hab;rw[AG (by omega),AG (by omega)];refine CA ?_;refine sR 1200 ?_;refine Al ?_;exact AN rfl AA.out
theorem Ry (l:List Nat)(i:Nat):AP (l.take (i+1))=AP (l.take i)+RB^i*l.getD i 0:=by
 by_cases h:i<l.length
 ·obtain⟨a,ha⟩:=CS h
  rw[E7 ha,Gr (i:=i) (by rw[Bf];omega),Ei,ha];rfl
 ·rw[B9 (by omega),B9 (by omega),Ei,Dd (by omega)]
  simp
theorem SG {l:List Nat}(h:Rd l)(i:Nat):l.getD i 0<RB:=by
 by_cases hi:i<l.length
 ·obtain⟨a,ha⟩:=CS hi
  rw[Ei,ha];exact h a (A0 ha)
 ·rw[Ei,Dd (by omega)];decide
theorem Ws (l:List Nat)(i:Nat):AP (l.take i)<=AP l:=by
 conv=>rhs;rw[<-Ez i l]
 rw[JB];exact Nat.le_add_right _ _
theorem WA {a i:Nat}(h:i<(Aa a).length):RB^i<=a:=by
 obtain⟨k,hk⟩:∃k,(Aa a).length=k+1:=⟨(Aa a).length-1,by omega⟩
 exact BR (FN (by decide) (by omega)) (R4 hk)
structure OH (a b:Nat)(i c:Nat)(out:List Nat):Prop where
 len:out.length=i
 wd:Rd out
 c1:c<=1
 val:AP out+RB^i*c=AP ((Aa a).take i)+AP ((Aa b).take i)
 can:i=0\/RB^(i-1)<=a+b
theorem j7 {a b i c:Nat}{out:List Nat}(I:OH a b i c out)(h:i<(Aa a).length\/i<(Aa b).length\/0<c):
  OH a b (i+1) (((Aa a).getD i 0+(Aa b).getD i 0+c)/RB) (out++[((Aa a).getD i 0+(Aa b).getD i 0+c)%RB])/\(Aa a).getD i 0+(Aa b).getD i 0+c<2*RB:=by
 obtain⟨len,wd,c1,val,can⟩:=I;have h1:=SG (Ea a) i;have h2:=SG (Ea b) i;have hs:(Aa a).getD i 0+(Aa b).getD i 0+c<2*RB:=by omega
 have e1:=Ry (Aa a) i;have e2:=Ry (Aa b) i;have ta:=Ws (Aa a) i;have tb:=Ws (Aa b) i;rw[D3]at ta tb;refine⟨⟨by rw[Bk,len];rfl,Rd.append wd λx hx=>?_,?_,?_,.inr ?_⟩,hs⟩
 ·simp only[BA,DM,or_false]at hx
  subst hx;exact B5 _ (by decide)
 ·exact ND (E3 (by rw[BS];exact hs))
 ·rw[Gr len,e1,e2,CL,Bw]
  have e:=El ((Aa a).getD i 0+(Aa b).getD i 0+c) RB;generalize(Aa a).getD i 0=p at*;generalize(Aa b).getD i 0=q at*;have e3:RB^i*((p+q+c)%RB+RB*((p+q+c)/RB))=RB^i*(p+q+c):=by rw[e]
  rw[BM,BM,BM (RB^i) p]at e3;omega
 ·rw[IM]
  rcases h with h|h|h
  ·have:=WA h;omega
  ·have:=WA h;omega
  ·have hc:c=1:=by omega
   subst hc;rw[EB]at val;omega
theorem j6 {a b i:Nat}{out:List Nat}(I:OH a b i 0 out)(h1:¬i<(Aa a).length)(h2:¬i<(Aa b).length):out=Aa (a+b):=by
 obtain⟨len,wd,c1,val,can⟩:=I;rw[B9 (by omega),B9 (by omega),D3,D3,EX,DY]at val;rcases Ra out with rfl|⟨m,c,rfl⟩
 ·rw[<-val];unfold Aa;rfl
 ·rw[RZ]at*
  rw[Bk,GQ]at len;have hc:c≠0:=by
   intro hc;subst hc;rcases can with h|h
   ·omega
   ·rw[S8]at val
    have:=F5 (l:=m) λx hx=>wd x (Jq _ hx)
    rw[show i-1=m.length by omega]at h;omega
  rw[<-val,YZ wd hc]
theorem tR (a b:Nat)(ha:(Aa a).length<1000000)(hb:(Aa b).length<1000000):AK C0 269 [rD a,rD b] (rD (a+b)):=by
 refine Ak.walk w1 qX rfl λF=>?_
 have hT:Fz [] [] (rD a) (rD a):=.refl _;change AC C0 F none F _ ⟨DJ 0 [.sl false 1 ((Aa a).map Ad),.sl false 1 ((Aa b).map Ad)],[],0⟩ _;have ea:((((Aa a).map Ad).length:Nat):Int)=((Aa a).length:Int):=by rw[Am]
 have eb:((((Aa b).map Ad).length:Nat):Int)=((Aa b).length:Int):=by rw[Am]
 have I0:OH a b 0 0 []:=⟨rfl,(λx hx=>AZ hx DM),BU _,by simp[AP],.inl rfl⟩
 refine sR 0 ?_;refine sR 100 ?_;refine sR 200 ?_;refine AC.seq ?_;refine sR 300 ?_;refine AC.block ?_;refine AC.loop (α:=Nat×Nat×List Nat×List D×Nat×Nat) (λp=>⟨[(0,.sl false 1 ((Aa a).map Ad)),(1,.sl false 1 ((Aa b).map Ad)),(5,Dt 704 p.2.2.2.2.1 1 p.2.2.2.1),(6,Ad p.2.1),(7,Ad p.1)],Dj 704 p.2.2.2.2.1 3 1 p.2.2.2.1,p.2.2.2.2.2⟩)
  (λp=>(max (Aa a).length (Aa b).length-p.1)*2+p.2.1) (λp=>OH a b p.1 p.2.1 p.2.2.1/\p.2.2.2.1=p.2.2.1.map Ad/\p.1<=max (Aa a).length (Aa b).length+1) (0,0,[],[],0,_) ⟨I0,rfl,BU _⟩ AL ?_
 rintro⟨i,c,out,L,g,n⟩ F ⟨I,hL,hi⟩;dsimp only at I hL hi⊢;have c1:=I.c1;have hol:=I.len;refine AC.seq ?_;refine Cu (α:=Nat) (λn=>⟨[(0,.sl false 1 ((Aa a).map Ad)),(1,.sl false 1 ((Aa b).map Ad)),(5,Dt 704 g 1 L),(6,Ad c),(7,Ad i),(22,As (decide (i<(Aa a).length\/i<(Aa b).length\/0<c)))],Dj 704 g 3 1 L,n⟩) (λ_=>True) ?_ ?_
 ·generalize Dt 704 g 1 L=od at*
  generalize Dj 704 g 3 1 L=oh at*
  by_cases h1:i<(Aa a).length
  ·have e1:decide ((i:Int)<((Aa a).length:Int))=true:=AY (by omega)
   have e:decide (i<(Aa a).length\/i<(Aa b).length\/0<c)=true:=AY (.inl h1);rw[e];refine Aq w1 400 (by kernel_rfl) ?_;refine AV (Ac ea e1) ?_;refine AE kT ?_;refine AE kT ?_;exact⟨trivial,_,trivial,AL⟩
  ·have e1:decide ((i:Int)<((Aa a).length:Int))=false:=Ah (by omega)
   by_cases h2:i<(Aa b).length
   ·have e2:decide ((i:Int)<((Aa b).length:Int))=true:=AY (by omega)
    have e:decide (i<(Aa a).length\/i<(Aa b).length\/0<c)=true:=AY (.inr (.inl h2));rw[e];refine Aq w1 400 (by kernel_rfl) ?_;refine AV (Ac ea e1) ?_;refine AE kF ?_;simp only[eb,e2];refine AE kT ?_;exact⟨trivial,_,trivial,AL⟩
   ·have e2:decide ((i:Int)<((Aa b).length:Int))=false:=Ah (by omega)
    have e:decide ((c:Int)>0)=decide (i<(Aa a).length\/i<(Aa b).length\/0<c):=by rw[Cz];omega
    rw[<-e];refine Aq w1 400 (by kernel_rfl) ?_;refine AV (Ac ea e1) ?_;refine AE kF ?_;simp only[eb,e2];refine AE kF ?_;exact⟨trivial,_,trivial,AL⟩
 rintro n2 -
 by_cases h:i<(Aa a).length\/i<(Aa b).length\/0<c
 ·obtain⟨J,hs⟩:=j7 I h
  have d1:=TK (Aa a) i (by omega) (by omega);have d2:=TK (Aa b) i (by omega) (by omega);unfold rL at d1 d2;have hmu:∀c',c'<=1->(max (Aa a).length (Aa b).length<=i->c'=0)->(max (Aa a).length (Aa b).length-(i+1))*2+c'<(max (Aa a).length (Aa b).length-i)*2+c:=λc' h1 h2=>by
   rcases BG i (max (Aa a).length (Aa b).length)with h3|h3
   ·omega
   ·have:=h2 h3;omega
  have hmu2:max (Aa a).length (Aa b).length<=i->((Aa a).getD i 0+(Aa b).getD i 0+c)/RB=0:=λh3=>by
   rw[Ei,Dd (by omega),Ei,Dd (by omega)];show(0+0+c)/1000000000=0;omega
  have hbnd:i<max (Aa a).length (Aa b).length+1:=by
   rcases h with h|h|h
   ·omega
   ·omega
   ·rcases BG i (max (Aa a).length (Aa b).length+1)with h3|h3
    ·exact h3
    ·exfalso
     obtain⟨len,wd,_,val,_⟩:=I;have hc:c=1:=by omega
     subst hc;rw[B9 (by omega),B9 (by omega),D3,D3,EB]at val;have l1:=Ib a;have l2:=Ib b;have m1:RB^(Aa a).length<=RB^max (Aa a).length (Aa b).length:=FN (by decide) (Nat.le_max_left _ _);have m2:RB^(Aa b).length<=RB^max (Aa a).length (Aa b).length:=FN (by decide) (Nat.le_max_right _ _);have m3:RB^(max (Aa a).length (Aa b).length+1)<=RB^i:=FN (by decide) h3;rw[CL]at m3;generalize RB^max (Aa a).length (Aa b).length=Q at*;change Q*1000000000<=_ at m3;omega
  have hmu3:=hmu _ J.c1 hmu2;rw[AY h];generalize hp:(Aa a).getD i 0=p at*;generalize hq:(Aa b).getD i 0=q at*;have k1:IntKind.i64.wrap ((p:Int)+(q:Int))=((p+q:Nat):Int):=by rw[wI (by omega) (by unfold RB at hs;omega)];omega
  have k2:IntKind.i64.wrap (((p+q:Nat):Int)+(c:Int))=((p+q+c:Nat):Int):=by rw[wI (by omega) (by unfold RB at hs;omega)];omega
  have k3:((p+q+c:Nat):Int).tmod 1000000000=(((p+q+c)%RB:Nat):Int):=rfl;have k4:IntKind.i64.wrap (((p+q+c:Nat):Int).tdiv 1000000000)=(((p+q+c)/RB:Nat):Int):=by
   show IntKind.i64.wrap ((((p+q+c)/1000000000:Nat)):Int)=_;exact wN (by unfold RB at hs;omega)
  have wi:IntKind.i64.wrap ((i:Int)+1)=((i+1:Nat):Int):=wI (by omega) (by omega);generalize(p+q+c)%RB=d at*;generalize(p+q+c)/RB=c' at*;have hlo:L.length<=1000001:=by rw[hL,Am];omega
  have hmo:L++[Ad d]=(out++[d]).map Ad:=by rw[hL,Cv];rfl
  clear hmu hmu2 ea eb hL I;refine AO ?_;refine Ap ?_;refine AC.seq ?_;refine AC.block ?_;refine sR 600 ?_;refine cI d1 ?_;refine cI d2 ?_;simp only[k1,k2];refine AC.seq ?_;rcases L with _|⟨x,L⟩
  all_goals
   (try simp only[Bo]at hlo)
   dsimp only[Ig,Ie,HM,HN];refine Aq w1 700 (by kernel_rfl) ?_;refine AV k3 ?_;refine Aq w1 800 (by kernel_rfl) ?_;refine AV k4 ?_;refine Aq w1 500 (by kernel_rfl) ?_;refine AV wi ?_
  ·exact⟨(i+1,c',out++[d],[]++[Ad d],_,_),⟨J,hmo,hbnd⟩,hmu3,AL⟩
  ·have htk:List.take (L.length+1) (x::L)=x::L:=by simp
   rw[htk];refine⟨(i+1,c',out++[d],x::L++[Ad d],_,_),⟨J,hmo,hbnd⟩,hmu3,by(dsimp only;rw[Nl];exact AL)⟩
 ·rw[Ah h]
  have hc:c=0:=by omega
  subst hc;have hout:=j6 I (by omega) (by omega);refine AO ?_;refine CA ?_;refine sR 900 ?_;refine Al ?_;refine⟨_,Qc _ _ _ _ _,?_,?_⟩
  ·rw[hL];exact N5 _
  ·rw[hL,hout];rfl
set_option maxHeartbeats 4000000
theorem tl {env:Ar}{t K g T n:Nat}{l:List D}(he:env.get t=Dt K g 1 l:=by exact rfl):Wk ⟨env,Dj K g T 1 l,n⟩ ⟨[(t,.sl false 1 l)],[],n⟩:=by
 refine⟨?_,⟨?_,trivial⟩,Ai _⟩
 ·cases l with
  |nil=>exact .nil
  |cons x l=>exact .drop .nil
 ·dsimp only
  rw[he];exact Qc _ _ _ _ _
theorem nN {env:Ar}{t K g n N:Nat}{z:List Nat}{T:Nat}(hl:z.length=N)(he:env.get t=.osl K g 1 0 N:=by exact rfl):Wk ⟨env,[⟨K,g,T,1,z.map Ad⟩],n⟩ ⟨[(t,.sl false 1 (z.map Ad))],[],n⟩:=by
 subst hl;refine⟨.drop .nil,⟨?_,trivial⟩,Ai _⟩;dsimp only;rw[he]
 have:=Qd K g T 1 (z.map Ad)
 rwa [Am]at this
theorem fN {a v c:Nat}(ha:a<RB)(hv:v<RB)(hc:c<=1):∃d c',d<RB/\c'<=1/\d+v+c=a+RB*c'/\((c'=0/\(a:Int)-v-c=d)\/(c'=1/\(a:Int)-v-c<0/\(a:Int)-v-c+1000000000=d)):=by
 unfold RB at ha hv⊢
 by_cases h:a<v+c
 ·exact⟨a+1000000000-v-c,1,by omega,by omega,by omega,.inr ⟨rfl,by omega,by omega⟩⟩
 ·exact⟨a-v-c,0,by omega,by omega,by omega,.inl ⟨rfl,by omega⟩⟩
theorem bz (a b:Nat)(hab:b<=a)(ha:(Aa a).length<1000000):AK C0 270 [rD a,rD b] (rD (a-b)):=by
 refine Ak.walk w1 qY rfl λF=>?_
 change AC C0 F none F _ ⟨DJ 0 [.sl false 1 ((Aa a).map Ad),.sl false 1 ((Aa b).map Ad)],[],0⟩ _;have hlb:=Ia b a hab;have va:=D3 a;have vb:=D3 b;have wx:=Ea a;have wy:=Ea b;generalize Aa a=x at*;generalize Aa b=y at*;have ea:(((x.map Ad).length:Nat):Int)=(x.length:Int):=by rw[Am]
 refine sR 0 ?_;refine sR 100 ?_;refine sR 200 ?_;refine AC.seq ?_;refine sR 300 ?_;refine AC.block ?_;refine AC.loop (α:=Nat×Nat×List Nat×List D×Nat×Nat) (λp=>⟨[(0,.sl false 1 (x.map Ad)),(1,.sl false 1 (y.map Ad)),(5,Dt 1103 p.2.2.2.2.1 1 p.2.2.2.1),(6,Ad p.2.1),(7,Ad p.1)],Dj 1103 p.2.2.2.2.1 3 1 p.2.2.2.1,p.2.2.2.2.2⟩)
  (λp=>x.length-p.1) (λp=>p.1<=x.length/\p.2.1<=1/\p.2.2.1.length=p.1/\Rd p.2.2.1/\AP p.2.2.1+AP (y.take p.1)=AP (x.take p.1)+RB^p.1*p.2.1/\p.2.2.2.1=p.2.2.1.map Ad) (0,0,[],[],0,_) ⟨BU _,BU _,rfl,(λx hx=>AZ hx DM),by simp[AP],rfl⟩ AL ?_
 rintro⟨i,c,out,L,g,n⟩ F ⟨hi,hc,hol,how,hI,hL⟩;dsimp only at hi hc hol how hI hL⊢;refine AC.seq ?_;refine AC.seq ?_
 by_cases h:i<x.length
 ·have e1:decide ((i:Int)<(x.length:Int))=true:=AY (by omega)
  obtain⟨p,hp⟩:=CS h;have hx:=Dl hp;have hpl:=wx p (A0 hp);have d2:=TK y i (by omega) (by omega);unfold rL at d2;have hql:=SG wy i;have ty:=Ry y i;have tx:AP (x.take (i+1))=AP (x.take i)+RB^i*p:=by rw[E7 hp,Gr (i:=i) (by rw[Bf];omega)]
  generalize y.getD i 0=q at*;obtain⟨d,c',hd,hc',hdig,hcase⟩:=fN hpl hql hc;have k1:IntKind.i64.wrap ((p:Int)-(q:Int))=(p:Int)-q:=wI (by unfold RB at*;omega) (by unfold RB at*;omega);have k2:IntKind.i64.wrap ((p:Int)-q-(c:Int))=(p:Int)-q-c:=wI (by unfold RB at*;omega) (by unfold RB at*;omega);have wi:IntKind.i64.wrap ((i:Int)+1)=((i+1:Nat):Int):=wI (by omega) (by omega);have hlo:L.length<=1000001:=by rw[hL,Am];omega
  have hmo:L++[Ad d]=(out++[d]).map Ad:=by rw[hL,Cv];rfl
  have hvn:AP (out++[d])+AP (y.take (i+1))=AP (x.take (i+1))+RB^(i+1)*c':=by
   rw[Gr hol,ty,tx,CL,Bw];have e3:RB^i*(d+q+c)=RB^i*(p+RB*c'):=by rw[hdig]
   rw[BM,BM,BM (RB^i) p]at e3;omega
  have how':Rd (out++[d]):=Rd.append how λx hx=>by
   simp only[BA,DM,or_false]at hx;subst hx;exact hd
  have hol':(out++[d]).length=i+1:=by rw[Bk,hol];rfl
  clear hI hL how;refine Aq w1 400 (by kernel_rfl) ?_;refine AV (Ac ea e1) ?_;refine AO ?_;refine Ap ?_;refine AC.seq ?_;refine AC.block ?_;refine AC.seq ?_;refine B8 w1 600 [0,1,2,3,4,5,6,7,8] [9,10] (by kernel_rfl) ?_;refine AE kN ?_;refine Br kT hx ?_;refine AE kN ?_;refine BX.same _ d2 AJ ?_;refine AE (Ac k1 k2) ?_;refine sR 700 ?_;refine Cu (α:=Nat) (λn=>⟨[(0,.sl false 1 (x.map Ad)),(1,.sl false 1 (y.map Ad)),(5,Dt 1103 g 1 L),(6,Ad c'),(7,Ad i),(8,Ad d)],Dj 1103 g 3 1 L,n⟩) (λ_=>True) ?_ ?_
  ·generalize Dt 1103 g 1 L=od at*
   generalize Dj 1103 g 3 1 L=oh at*;refine AC.seq ?_;rcases hcase with⟨rfl,h2⟩|⟨rfl,h2,h3⟩
   ·have e2:decide ((p:Int)-q-c<0)=false:=Ah (by omega)
    rw[h2]at e2;rw[h2];refine Aq w1 800 (by kernel_rfl) ?_;refine AV e2 ?_;refine AO ?_;refine Ap ?_;exact⟨rfl,_,trivial,AL⟩
   ·have e2:decide ((p:Int)-q-c<0)=true:=AY h2
    have k3:IntKind.i64.wrap ((p:Int)-q-c+1000000000)=(d:Int):=by rw[h3];exact wI (by unfold RB at*;omega) (by unfold RB at*;omega)
    refine Aq w1 800 (by kernel_rfl) ?_;refine AV e2 ?_;refine AO ?_;refine sZ 900 ?_;refine AV k3 ?_;refine rI 1000 ?_;exact⟨rfl,_,trivial,AL⟩
  rintro n3 -;rcases L with _|⟨x0,L⟩
  all_goals
   (try simp only[Bo]at hlo)
   dsimp only[Ig,Ie,HM,HN];refine rI 1100 ?_;refine Aq w1 500 (by kernel_rfl) ?_;refine AV wi ?_
  ·exact⟨(i+1,c',out++[d],[]++[Ad d],_,_),⟨h,hc',hol',how',hvn,hmo⟩,by dsimp only;omega,AL⟩
  ·have htk:List.take (L.length+1) (x0::L)=x0::L:=by simp
   rw[htk];refine⟨(i+1,c',out++[d],x0::L++[Ad d],_,_),⟨h,hc',hol',how',hvn,hmo⟩,by dsimp only;omega,by(dsimp only;rw[Nl];exact AL)⟩
 ·have e1:decide ((i:Int)<(x.length:Int))=false:=Ah (by omega)
  have hix:i=x.length:=by omega
  subst hix;rw[B9 (by omega),B9 (by omega),va,vb]at hI;have hlt:=F5 how;rw[hol]at hlt;have hxl:=F5 wx;rw[va]at hxl;have hov:AP out=a-b:=by
   rcases Db c with h|h
   ·subst h;rw[EX]at hI;omega
   ·have:c=1:=by omega
    subst this;rw[EB]at hI;omega
  refine Aq w1 400 (by kernel_rfl) ?_;refine AV (Ac ea e1) ?_;refine AO ?_;refine CA ?_;refine AC.weak ⟨[(5,.sl false 1 L)],[],_⟩ tl ?_;rw[hL];refine sR 1200 ?_;refine BF.same _ (LW out how (by omega)) AJ ?_;refine BO ?_;refine Al ?_;exact AN (by rw[hov]) AA.out
theorem UO (a b:Nat)(hla:(Aa a).length<1000000)(hlb:(Aa b).length<1000000):AK C0 178 [rD a,rD b] (rD (a*b)):=by
 refine Ak.walk w1 oz rfl λF=>?_
 change AC C0 F none F _ ⟨DJ 0 [.sl false 1 ((Aa a).map Ad),.sl false 1 ((Aa b).map Ad)],[],0⟩ _;have va:=D3 a;have vb:=D3 b;have ha:=Ea a;have hb:=Ea b;generalize Aa a=x at*;generalize Aa b=y at*;subst va;subst vb;have ea:(((x.map Ad).length:Nat):Int)=(x.length:Int):=by rw[Am]
 have eb:(((y.map Ad).length:Nat):Int)=(y.length:Int):=by rw[Am]
 have wl:IntKind.i64.wrap ((x.length:Int)+(y.length:Int))=((x.length+y.length:Nat):Int):=by rw[wI (by omega) (by omega)];omega
 have r3:List.replicate (x.length+y.length) (ofV (.int .i64 0))=(List.replicate (x.length+y.length) 0).map Ad:=by rw[Js];rfl
 refine sR 0 ?_;refine sZ 100 ?_;refine AV (BW ea eb wl kN) ?_;refine AC.seq ?_;refine sR 200 ?_;refine AC.block ?_;refine AC.loop (α:=Nat×List Nat×Nat) (λp=>⟨[(0,.sl false 1 (x.map Ad)),(1,.sl false 1 (y.map Ad)),(5,.osl 105 6 1 0 (x.length+y.length)),(6,i64 p.1)],[⟨105,6,3,1,p.2.1.map Ad⟩],p.2.2⟩) (λp=>x.length-p.1)
  (λp=>p.1<=x.length/\p.2.1.length=x.length+y.length/\Rd p.2.1/\AP p.2.1=AP (x.take p.1)*AP y/\∀k,p.1+y.length<=k->∀d,p.2.1[k]?=some d->d=0) (0,List.replicate (x.length+y.length) 0,_)
  ⟨BU _,by simp,R5 _,by simp[AP,VU],λk _ d hd=>O5 (A0 hd)⟩ (by rw[<-r3];exact AL) ?_
 rintro⟨i,o,m⟩ F ⟨h1,h2,h3,h4,h5⟩;dsimp only at h1 h2 h3 h4 h5⊢;refine AC.seq ?_;refine AC.seq ?_
 by_cases hi:i<x.length
 ·have e1:decide ((i:Int)<(x.length:Int))=true:=AY (by omega)
  obtain⟨p,hp⟩:=CS hi;have hp':=Dl hp;have hpl:p<RB:=ha p (A0 hp);have wi:IntKind.i64.wrap ((i:Int)+1)=((i+1:Nat):Int):=wI (by omega) (by omega);have hax:AP (x.take (i+1))=AP (x.take i)+RB^i*p:=by rw[E7 hp,Gr (i:=i) (by rw[Bf];omega)]
  refine Aq w1 300 (by kernel_rfl) ?_;refine AV (Ac ea e1) ?_;refine AO ?_;refine Ap ?_;refine AC.seq ?_;refine AC.block ?_;refine sR 500 ?_;refine AC.seq ?_;refine sR 600 ?_;refine AC.block ?_;refine AC.loop (α:=Nat×Nat×List Nat×Nat) (λq=>⟨[(0,.sl false 1 (x.map Ad)),(1,.sl false 1 (y.map Ad)),(5,.osl 105 6 1 0 (x.length+y.length)),(6,i64 i),(7,Ad q.2.1),(8,i64 q.1)],[⟨105,6,3,1,q.2.2.1.map Ad⟩],q.2.2.2⟩) (λq=>y.length-q.1)
   (λq=>q.1<=y.length/\q.2.1<RB/\q.2.2.1.length=x.length+y.length/\Rd q.2.2.1/\AP q.2.2.1+RB^(i+q.1)*q.2.1=AP (x.take i)*AP y+RB^i*p*AP (y.take q.1)/\∀k,i+y.length<=k->∀d,q.2.2.1[k]?=some d->d=0) (0,0,o,_)
   ⟨BU _,(show 0<RB by decide),h2,h3,by simp[AP,h4],h5⟩ AL ?_
  rintro⟨j,c,q,m2⟩ F ⟨g1,g2,g3,g4,g5,g6⟩;dsimp only at g1 g2 g3 g4 g5 g6⊢;clear h2 h3 h4 h5 r3 wl;refine AC.seq ?_;refine AC.seq ?_
  by_cases hj:j<y.length
  ·have e2:decide ((j:Int)<(y.length:Int))=true:=AY (by omega)
   obtain⟨r,hr⟩:=CS hj;have hr':=Dl hr;have hrl:r<RB:=hb r (A0 hr);obtain⟨z,hz⟩:=CS (l:=q) (i:=i+j) (by omega);have hz':=Dl hz;have hzl:z<RB:=g4 z (A0 hz);have wj:IntKind.i64.wrap ((j:Int)+1)=((j+1:Nat):Int):=wI (by omega) (by omega);have wij:IntKind.i64.wrap ((i:Int)+(j:Int))=((i+j:Nat):Int):=by rw[wI (by omega) (by omega)];omega
   have hbx:AP (y.take (j+1))=AP (y.take j)+RB^j*r:=by rw[E7 hr,Gr (i:=j) (by rw[Bf];omega)]
   have hpr:p*r<=999999999*999999999:=IU (by unfold RB at hpl;omega) (by unfold RB at hrl;omega);have k0:IntKind.i64.wrap ((p:Int)*(r:Int))=((p*r:Nat):Int):=by rw[<-Fv,wI (by omega) (by omega)]
   have k1:IntKind.i64.wrap ((z:Int)+((p*r:Nat):Int))=((z+p*r:Nat):Int):=by rw[wI (by omega) (by unfold RB at*;omega)];omega
   have k2:IntKind.i64.wrap (((z+p*r:Nat):Int)+(c:Int))=((z+p*r+c:Nat):Int):=by rw[wI (by omega) (by unfold RB at*;omega)];omega
   have hs:=NZ (d:=(z+p*r+c)%RB) hz;have e:=El (z+p*r+c) RB;have hq:(z+p*r+c)/RB<RB:=E3 (by unfold RB at*;omega);have hd:(z+p*r+c)%RB<RB:=B5 _ (by decide);have k3:((z+p*r+c:Nat):Int).tmod 1000000000=(((z+p*r+c)%RB:Nat):Int):=rfl;have k4:IntKind.i64.wrap (((z+p*r+c:Nat):Int).tdiv 1000000000)=(((z+p*r+c)/RB:Nat):Int):=by
    show IntKind.i64.wrap ((((z+p*r+c)/1000000000:Nat)):Int)=_;exact wN (by change(z+p*r+c)/RB<=_;unfold RB at hq⊢;omega)
   have hval:AP (q.set (i+j) ((z+p*r+c)%RB))+RB^(i+(j+1))*((z+p*r+c)/RB)=AP (x.take i)*AP y+RB^i*p*AP (y.take (j+1)):=by
    rw[hbx,BM,<-EW (AP (x.take i)*AP y),<-g5];have h6:RB^(i+j)*((z+p*r+c)%RB)+RB^(i+(j+1))*((z+p*r+c)/RB)=RB^i*p*(RB^j*r)+RB^(i+j)*z+RB^(i+j)*c:=by
     have:RB^i*p*(RB^j*r)=RB^(i+j)*(p*r):=by
      rw[Fw,Bw,Bw,IN p]
     rw[this,<-EW i j 1,CL,Bw,<-BM,<-BM,<-BM,e]
     congr 1;omega
    omega
   generalize(z+p*r+c)%RB=d at*;generalize(z+p*r+c)/RB=c' at*;clear hs e g5 hax hbx;refine Aq w1 700 (by kernel_rfl) ?_;refine AV (Ac eb e2) ?_;refine AO ?_;refine Ap ?_;refine AC.seq ?_;refine AC.block ?_;refine AC.seq ?_;refine B8 w1 900 [0,1,2,3,4,5,6,7,8,9,10,11,12,13,14,15,16] [17,18] (by kernel_rfl) ?_;refine AE (BW wij kN BP hz') ?_;refine Br kT hp' ?_;refine AE (BW wij kN BP hz') ?_;refine Br kT hr' ?_;refine AE (At k0 k1 k2) ?_;refine sZ 1000 ?_;refine AE (CM wij kN BP hz' k3) ?_;rw[Mi];refine Aq w1 1100 (by kernel_rfl) ?_;refine AV k4 ?_;refine Aq w1 800 (by kernel_rfl) ?_;refine AV wj ?_;refine⟨(j+1,c',q.set (i+j) d,_),⟨hj,hq,by dsimp only;rw[C9];exact g3,g4.set hd,hval,λk hk d hd=>?_⟩,by dsimp only;omega,AL⟩;dsimp only at hk hd;rw[IS (by omega)]at hd;exact g6 k hk d hd
  ·have e2:decide ((j:Int)<(y.length:Int))=false:=Ah (by omega)
   have hj:j=y.length:=by omega
   subst hj;obtain⟨z,hz⟩:=CS (l:=q) (i:=i+y.length) (by omega);have hz0:z=0:=g6 _ (Ai _) _ hz;subst hz0;have hz':=Dl hz;have wij:IntKind.i64.wrap ((i:Int)+(y.length:Int))=((i+y.length:Nat):Int):=by rw[wI (by omega) (by omega)];omega
   have wij0:IntKind.i64.wrap ((i:Int)+(((y.map Ad).length:Nat):Int))=((i+y.length:Nat):Int):=by rw[eb];exact wij
   have k1:IntKind.i64.wrap (((0:Nat):Int)+(c:Int))=(c:Int):=by rw[wI (by omega) (by unfold RB at*;omega)];omega
   have hs:=NZ (d:=c) hz;rw[B9 (Ai _)]at g5;have hval:AP (q.set (i+y.length) c)=AP (x.take (i+1))*AP y:=by
    rw[hax,Bu];omega
   clear hs g5 hax;refine Aq w1 700 (by kernel_rfl) ?_;refine AV (Ac eb e2) ?_;refine AO ?_;refine CA ?_;refine Aq w1 1200 (by kernel_rfl) ?_;refine AE (D2 eb wij kN BP hz' k1) ?_;rw[Mi];refine Aq w1 400 (by kernel_rfl) ?_;refine AV wi ?_;refine⟨(i+1,q.set (i+y.length) c,_),⟨hi,by dsimp only;rw[C9];exact g3,g4.set g2,hval,λk hk d hd=>?_⟩,by dsimp only;omega,AL⟩;dsimp only at hk hd;rw[IS (by omega)]at hd;exact g6 k (by omega) d hd
 ·have e1:decide ((i:Int)<(x.length:Int))=false:=Ah (by omega)
  have hi:i=x.length:=by omega
  subst hi;rw[B9 (Ai _)]at h4;refine Aq w1 300 (by kernel_rfl) ?_;refine AV (Ac ea e1) ?_;refine AO ?_;refine CA ?_;refine AC.weak ⟨[(5,.sl false 1 (o.map Ad))],[],_⟩ (nN h2) ?_;refine sR 1300 ?_;refine BF.same _ (LW o h3 (by omega)) AJ ?_;refine BO ?_;refine Al ?_;exact AN (by rw[h4]) AA.out
theorem OZ (a b:Nat)(h:a/b<=9223372036854775807):IntKind.i64.wrap ((a:Int).tdiv (b:Int))=((a/b:Nat):Int):=by
 rw[<-Int.ofNat_tdiv];exact wN h
theorem Q7 (a b:Nat):(a:Int).tmod (b:Int)=((a%b:Nat):Int):=(Int.ofNat_tmod a b).symm
theorem lT {env:Ar}{t K g n N t2:Nat}{z:List Nat}{T:Nat}{d2:D}(hl:z.length=N)(he:env.get t=.osl K g 1 0 N:=by exact rfl)(h2:env.get t2=d2:=by exact rfl):Wk ⟨env,[⟨K,g,T,1,z.map Ad⟩],n⟩ ⟨[(t,.sl false 1 (z.map Ad)),(t2,d2)],[],n⟩:=by
 subst hl;refine⟨.drop .nil,⟨?_,?_,trivial⟩,Ai _⟩
 ·dsimp only
  rw[he]
  have:=Qd K g T 1 (z.map Ad)
  rwa [Am]at this
 ·dsimp only
  rw[h2];exact .refl _
theorem kS {r p d:Nat}(h:r*RB+p<d*RB)(hd:d<RB):IntKind.i64.wrap ((r:Int)*1000000000)=((r*RB:Nat):Int)/\IntKind.i64.wrap (((r*RB:Nat):Int)+(p:Int))=((r*RB+p:Nat):Int):=by
 unfold RB at*;refine⟨?_,?_⟩
 ·rw[wI (by omega) (by omega)];omega
 ·rw[wI (by omega) (by omega)];omega
theorem Vl (a d:Nat)(hd:0<d)(hdl:d<RB)(hl:(Aa a).length<1000000):AK C0 227 [rD a,Ad d] (.tup [rD (a/d),Ad (a%d)]):=by
 refine Ak.walk w1 rG rfl λF=>?_
 change AC C0 F none F _ ⟨DJ 0 [.sl false 1 ((Aa a).map Ad),Ad d],[],0⟩ _;have va:=D3 a;have wa:=Ea a;generalize Aa a=x at*;have ea:(((x.map Ad).length:Nat):Int)=(x.length:Int):=by rw[Am]
 have wl:IntKind.i64.wrap ((x.length:Int)-1)=(x.length:Int)-1:=wI (by omega) (by omega);have r3:List.replicate x.length (ofV (.int .i64 0))=(List.replicate x.length 0).map Ad:=by rw[Js];rfl
 have d0:¬(d:Int)=0:=by omega
 refine sR 0 ?_;refine sZ 100 ?_;refine AV (Ac ea kN) ?_;refine sR 200 ?_;refine AC.seq ?_;refine sZ 300 ?_;refine AV (Ac ea wl) ?_;refine AC.block ?_;refine AC.loop (α:=Nat×Nat×List Nat×Nat) (λp=>⟨[(0,.sl false 1 (x.map Ad)),(1,Ad d),(6,.osl 102 4 1 0 x.length),(7,Ad p.2.1),(8,i64 ((p.1:Int)-1))],[⟨102,4,3,1,p.2.2.1.map Ad⟩],p.2.2.2⟩) (λp=>p.1)
  (λp=>p.1<=x.length/\p.2.1<d/\p.2.2.1.length=x.length/\Rd p.2.2.1/\AP (p.2.2.1.drop p.1)*d+p.2.1=AP (x.drop p.1)) (x.length,0,List.replicate x.length 0,_)
  ⟨Ai _,hd,by simp,R5 _,by simp[AP]⟩ (by rw[<-r3];exact AL) ?_
 rintro⟨k,r,q,m⟩ F ⟨h1,h2,h3,h4,h5⟩;dsimp only at h1 h2 h3 h4 h5⊢;clear ea wl r3;refine AC.seq ?_;refine sR 400 ?_;refine AO ?_
 (refine Bv (λh20=>?_) (λh20=>?_))<;>(try simp only[Bi,Bs]at h20)<;>(try simp only[h20])
 ·obtain⟨j,rfl⟩:∃j,k=j+1:=⟨k-1,by
   have:=DA h20
   omega⟩
  have wj:((j+1:Nat):Int)-1=(j:Int):=by omega
  obtain⟨p,hp⟩:=CS (l:=x) (i:=j) (by omega);obtain⟨z,hz⟩:=CS (l:=q) (i:=j) (by omega);have hp':=Dl hp;have hz':=Dl hz;have hpl:=wa p (A0 hp);obtain⟨J1,J2⟩:=fG hd hp (by omega) h5;have hsb:r*RB+p<d*RB:=by
   have:(r+1)*RB<=d*RB:=CI _ h2
   rw[Bu]at this;omega
  have hql:(r*RB+p)/d<RB:=E3 hsb;obtain⟨k1,k2⟩:=kS hsb hdl;have k3:=OZ (r*RB+p) d (BR (Jr hql) (by decide));have k4:=Q7 (r*RB+p) d;have wi:IntKind.i64.wrap ((j:Int)-1)=(j:Int)-1:=wI (by omega) (by omega);generalize(r*RB+p)/d=e at*;generalize(r*RB+p)%d=r' at*;rw[wj];refine Ap ?_;refine AC.seq ?_;refine AC.block ?_;refine sZ 600 ?_;refine AE kN ?_;refine Br kT hp' ?_;refine AE (Ac k1 k2) ?_;refine sZ 700 ?_;refine AE (BW kN BP hz' k3) ?_;rw[Mi];refine Aq w1 800 (by kernel_rfl) ?_;refine AV k4 ?_;refine Aq w1 500 (by kernel_rfl) ?_;refine AV wi ?_;exact⟨(j,r',q.set j e,_),⟨by dsimp only;omega,J2,by dsimp only;rw[C9];exact h3,h4.set hql,J1⟩,by dsimp only;omega,AL⟩
 ·have hk:k=0:=by
   have:=DN h20
   omega
  subst hk;rw[Fd,Fd,va]at h5;obtain⟨q1,q2⟩:=Pp h5 h2;refine CA ?_;refine AC.weak ⟨[(6,.sl false 1 (q.map Ad)),(7,Ad r)],[],_⟩ (lT h3) ?_;refine sR 900 ?_;refine BF.same _ (LW q h4 (by omega)) AJ ?_;refine BO ?_;refine Al ?_;exact AN (by rw[q1,q2]) AA.out
structure JO (U V n2 v1 p1 q r:Nat):Prop where
 eq:q*v1+r=n2
 up:U<(q+1)*V
 cap:n2<=v1*RB+p1
 p1l:p1<RB
namespace JO
variable {U V n2 v1 p1 q r:Nat} (G:JO U V n2 v1 p1 q r)
include G
theorem small (h:RB<=r):q<RB:=by
 rcases BG q RB with h1|h1
 ·exact h1
 ·exfalso
  have h2:=CI v1 h1;have h3:=G.eq;have h4:=G.cap;have h5:=G.p1l;rw[BS RB v1]at h2;omega
theorem qle (hv:0<v1):q<=2*RB:=by
 rcases BG (2*RB) q with h1|h1
 ·exfalso
  have h2:=CI v1 h1;have h3:=G.eq;have h4:=G.cap;have h5:=G.p1l;have h6:RB*1<=RB*v1:=Cd _ hv;rw[Nat.succ_mul,Bw,BS RB v1]at h2;rw[BS RB v1]at h6;omega
 ·exact h1
end JO
section
variable {P v:List Nat} {m p0 p1 p2 v2 v1:Nat} (S:KU P v m p0 p1 p2 v2 v1)
include S
theorem eK:JO (AP P) (AP v) (p1+RB*p2) v1 p1 ((p2*RB+p1)/v1) ((p2*RB+p1)%v1):=by
 have c0:p2*RB+p1=p1+RB*p2:=by rw[BS,Kp]
 rw[c0];have e:=EU (p1+RB*p2) v1;have l:=B5 (p1+RB*p2) S.top;have c1:=BS v1 ((p1+RB*p2)/v1);refine⟨by omega,Vg S.below2 S.abovev ?_,?_,S.p1l⟩
 ·rw[Bu];omega
 ·have:=Cd RB S.p2v1
  rw[BS v1];omega
theorem fe {q r:Nat}(G:JO (AP P) (AP v) (p1+RB*p2) v1 p1 q r)(h:RB<=q\/r*RB+p0<q*v2):0<q/\JO (AP P) (AP v) (p1+RB*p2) v1 p1 (q-1) (r+v1):=by
 obtain⟨e,u,cp,pl⟩:=G;have hq:0<q:=by
  rcases h with h|h
  ·unfold RB at h;omega
  ·rcases Db q with h0|h0
   ·subst h0;omega
   ·exact h0
 obtain⟨k,rfl⟩:∃k,q=k+1:=⟨q-1,by omega⟩
 refine⟨hq,⟨?_,?_,cp,pl⟩⟩
 ·rw[IM,<-e,Bu];omega
 ·rw[IM]
  rcases h with h|h
  ·have h1:AP v*RB<=(k+1)*AP v:=by rw[BS];exact CI _ h
   have:=S.less
   omega
  ·have e2:(k+1)*(v2+RB*v1)=(k+1)*v2+RB*((k+1)*v1):=by rw[BM,IN]
   refine Vt S.below3 S.abovev2 ?_;rw[e2,<-e,BM RB,BS RB r];omega
theorem Vh {q r:Nat}(G:JO (AP P) (AP v) (p1+RB*p2) v1 p1 q r)(h:RB<=r\/(q<RB/\q*v2<=r*RB+p0)):q<RB/\q*AP v<=AP P+AP v:=by
 have hqB:q<RB:=by
  rcases h with h|h
  ·exact G.small h
  ·exact h.1
 obtain⟨e,u,cp,pl⟩:=G;have h5:=S.v2l;have hq:q*v2<=r*RB+p0:=by
  rcases h with h|h
  ·have h2:q*v2<=RB*RB:=IU (by omega) (by omega)
   have h3:RB*RB<=r*RB:=CI _ h;omega
  ·exact h.2
 have e2:q*(v2+RB*v1)=q*v2+RB*(q*v1):=by rw[BM,IN]
 refine⟨hqB,WP (n3:=p0+RB*(p1+RB*p2)) (D:=v2+RB*v1) (P:=RB^m) (B:=RB) (v:=AP (v.take m)) ?_ ?_ S.lowv ?_ (by omega) ?_⟩
 ·rw[S.valP,BS];omega
 ·rw[S.valv,BS];omega
 ·rw[e2,<-e,BM RB,BS RB r]
  omega
 ·have:=S.top
  have h1:=Cd RB (show 1<=v1 from this);omega
end
theorem DO.of {H:Hp}{d0 d:D}(h:Fz H [] d0 d):DO H d0 d:=λ_ _ _ _ m hO hN _ hv=>h.rep m hO (λe he b hb _=>hN e he b hb) hv
theorem xc {C:A8}{f:Nat}{ds ds':List D}{Φ:D->Prop}{H:Hp}{n:Nat}(hc:Ak C f ds' Φ)(hl:ds'.length=ds.length)(hv:∀(i:Nat) (a b:D),ds[i]?=some a->ds'[i]?=some b->DO H a b)
  (hp:Aj ds') (hflat:∀d,Φ d->Jf d):CO C f ds H n (λd' H' n'=>Φ d'/\H'=H/\n'=n+1):=by
 refine⟨hc.1,λF ρ w vs m hfr hg hvs hr=>?_⟩;have hH:Cb H [] H []:=by
  generalize H=H0
  have:∀H1:Hp,Cb H0 [] H1 []:=λH1=>by
   induction H1 with
   |nil=>exact .nil
   |cons e r ih=>exact .drop ih
  exact this H0
 obtain⟨m',hO,hN⟩:=hH.mem m;refine(hc.2 (AM F.X ρ []) w vs m.g (BR m.gn m.size) (λb hb=>m'.own_lt hb) (by omega) λi x hx=>?_).mono ?_
 ·have hi:i<ds'.length:=(List.getElem?_eq_some_iff.1 hx).1
  have hd0:ds[i]?=some ds[i]:=BI (by omega);exact hp.out x (A0 hx) _ _ _ _ _ (hv i _ x hd0 hx C F ρ w m hO (λe he b hb=>hN e he b hb rfl) _ (hr i _ hd0))
 ·rintro e w' ⟨v,d',rfl,hb,hd',rep⟩
  have x:BQ ρ (AM F.X ρ H) w ρ (AM F.X ρ H) w':=⟨hb.size,λ_ _ _ h=>h,λb hb' hO=>⟨hO,hb.block b hb'⟩,λb cs T fz hh=>⟨cs,_,by
   rw[hb.block b (Array.getElem?_eq_some_iff.1 hh).1];exact hh,rfl⟩⟩
  exact⟨v,_,H,n+1,ρ,rfl,⟨hd',rfl,rfl⟩,m.same x hb.os hb.tape hb.output hb.block,x,λk g hg'=>hfr k g (by omega),λe he=>DE (hg e he),hflat _ hd' _ _ _ _ _ _ _ rep⟩
def W8 (P v:List Nat)(d:D):Prop:=∃q,d=Ad q/\q<RB/\AP P<(q+1)*AP v/\q*AP v<=AP P+AP v
theorem jn {p2 p1 v1:Nat}(h1:p1<RB)(h2:p2<RB):IntKind.i64.wrap ((p2:Int)*1000000000)=((p2*RB:Nat):Int)/\IntKind.i64.wrap (((p2*RB:Nat):Int)+(p1:Int))=((p2*RB+p1:Nat):Int) /\
  IntKind.i64.wrap (((p2*RB+p1:Nat):Int).tdiv (v1:Int))=(((p2*RB+p1)/v1:Nat):Int):=by
 have h3:=Gi (p2*RB+p1) v1;unfold RB at*;refine⟨?_,?_,?_⟩
 ·rw[wI (by omega) (by omega)];omega
 ·rw[wI (by omega) (by omega)];omega
 ·exact OZ _ _ (by omega)
theorem gX {t r v2 p0:Nat}(ht:t<RB)(hr:r<RB)(h2:v2<RB)(h0:p0<RB):IntKind.i64.wrap ((t:Int)*(v2:Int))=((t*v2:Nat):Int)/\IntKind.i64.wrap ((r:Int)*1000000000)=((r*RB:Nat):Int) /\
  IntKind.i64.wrap (((r*RB:Nat):Int)+(p0:Int))=((r*RB+p0:Nat):Int):=by
 have h3:t*v2<=999999999*999999999:=IU (by unfold RB at ht;omega) (by unfold RB at h2;omega);unfold RB at*;refine⟨?_,?_,?_⟩
 ·rw[<-Fv,wI (by omega) (by omega)]
 ·rw[wI (by omega) (by omega)];omega
 ·rw[wI (by omega) (by omega)];omega
theorem no {t v2 r p0:Nat}(h:t<RB):decide (((t*v2:Nat):Int)>((r*RB+p0:Nat):Int))=decide (RB<=t\/r*RB+p0<t*v2):=
 Cz.2 ⟨λh1=>.inr (Int.ofNat_lt.1 h1),λh1=>Int.ofNat_lt.2 (h1.resolve_left (Nat.not_le.2 h))⟩
theorem nq {t v2 r p0:Nat}(h:¬(RB<=t\/r*RB+p0<t*v2)):t<RB/\t*v2<=r*RB+p0:=⟨Nat.lt_of_not_le λh1=>h (.inl h1),Nat.le_of_not_lt λh1=>h (.inr h1)⟩
theorem nr {P v:List Nat}{m p0 p1 p2 v2 v1:Nat}(S:KU P v m p0 p1 p2 v2 v1):∃a1 T q0 r0:Nat,IntKind.i64.wrap ((p2:Int)*1000000000)=(a1:Int)/\IntKind.i64.wrap ((a1:Int)+(p1:Int))=(T:Int) /\
  IntKind.i64.wrap ((T:Int).tdiv (v1:Int))=(q0:Int)/\(T:Int).tmod (v1:Int)=(r0:Int)/\JO (AP P) (AP v) (p1+RB*p2) v1 p1 q0 r0/\r0<RB:=by
 obtain⟨k1,k2,k3⟩:=jn (v1:=v1) S.p1l S.p2l;exact⟨_,_,_,_,k1,k2,k3,Q7 _ v1,eK S,Ft (B5 _ S.top) S.v1l⟩
theorem kA {t r v2 p0:Nat}(ht:t<RB)(hr:r<RB)(h2:v2<RB)(h0:p0<RB):∃a1 a2 a3:Nat,IntKind.i64.wrap ((t:Int)*(v2:Int))=(a3:Int)/\IntKind.i64.wrap ((r:Int)*1000000000)=(a1:Int) /\
  IntKind.i64.wrap ((a1:Int)+(p0:Int))=(a2:Int)/\decide ((a3:Int)>(a2:Int))=decide (RB<=t\/r*RB+p0<t*v2):=by
 obtain⟨q1,q2,q3⟩:=gX ht hr h2 h0;exact⟨_,_,_,q1,q2,q3,no ht⟩
theorem ml (U v:List Nat)(j m p0 p1 p2 v2 v1:Nat)(S:KU ((U.drop j).take (m+3)) v m p0 p1 p2 v2 v1)(hj:j+(m+3)<=U.length)(hU:U.length<4000000):Ak C0 229 [rL U,rL v,Ad j] (W8 ((U.drop j).take (m+3)) v):=by
 refine Ak.walk w1 rH rfl λF=>?_
 unfold rL;have hg:∀ {k p:Nat},((U.drop j).take (m+3))[k]?=some p->U[j+k]?=some p:=λ{k p} h=>by
  rw[Ej]at h;split at h
  ·rwa [HH]at h
  ·cases h
 have u0:=Dl (hg S.h0);have u1:=Dl (hg S.h1);have u2:=Dl (hg S.h2);have y1:=Dl S.g1;have y2:=Dl S.g2;have l0:=S.p0l;have l1:=S.p1l;have l2:=S.p2l;have lv1:=S.v1l;have lv2:=S.v2l;have ev:(((v.map Ad).length:Nat):Int)=((m+2:Nat):Int):=by rw[Am,S.lv]
 have eu:(((U.map Ad).length:Nat):Int)=(U.length:Int):=by rw[Am]
 have w0:IntKind.i64.wrap ((j:Int)+((m+2:Nat):Int))=((j+(m+2):Nat):Int):=by rw[wI (by omega) (by omega)];omega
 have wa:IntKind.i64.wrap (((j+(m+2):Nat):Int)-1)=((j+(m+1):Nat):Int):=by rw[wI (by omega) (by omega)];omega
 have wb:IntKind.i64.wrap (((j+(m+2):Nat):Int)-2)=((j+m:Nat):Int):=by rw[wI (by omega) (by omega)];omega
 have wc:IntKind.i64.wrap (((m+2:Nat):Int)-1)=((m+1:Nat):Int):=by rw[wI (by omega) (by omega)];omega
 have wd:IntKind.i64.wrap (((m+2:Nat):Int)-2)=(m:Int):=by rw[wI (by omega) (by omega)];omega
 have ra:IntKind.i64.wrap (IntKind.i64.wrap ((j:Int)+((m+2:Nat):Int))-1)=((j+(m+1):Nat):Int):=by rw[w0,wa]
 have rb:IntKind.i64.wrap (IntKind.i64.wrap ((j:Int)+((m+2:Nat):Int))-2)=((j+m:Nat):Int):=by rw[w0,wb]
 obtain⟨a1,T,q0,r0,k1,k2,k3,k4,G0,hr0⟩:=nr S;have v0:¬(v1:Int)=0:=by have:=S.top;omega
 have hvl:=S.lv;refine sR 0 ?_;refine sZ 100 ?_;refine AV ev ?_;refine AC.seq ?_;refine B8 w1 200 [0,1,2,3,4,5,6,7,8,9,10,11,12,13] [14,15] (by kernel_rfl) ?_;refine AE (BW w0 wa ra kN) ?_;refine Br kT u2 ?_;refine AE (BW w0 wa ra kN) ?_;refine Br kT u1 ?_;refine AE (D2 w0 wa ra kN k1 k2) ?_;refine AC.seq ?_;refine B8 w1 300 [0,1,2,3,4,5,6,7,8,9,10,11,12,13,14] [15] (by kernel_rfl) ?_;refine AE (Ac wc kN) ?_;refine Br kT y1 ?_;refine AE (Ac wc kN) ?_;refine Br kT y1 ?_;refine AE (BW wc kN k3 k4) ?_;refine Cu (α:=Nat×Nat) (λp=>⟨[(9,Ad p.1)],[],p.2⟩) (λp=>p.1<RB/\AP ((U.drop j).take (m+3))<(p.1+1)*AP v/\p.1*AP v<=AP ((U.drop j).take (m+3))+AP v) ?_ ?_
 ·refine AC.block ?_
  refine GL (α:=Nat×Nat×Nat) (λp=>⟨[(0,.sl false 1 (U.map Ad)),(1,.sl false 1 (v.map Ad)),(2,Ad j),(7,i64 ((m+2:Nat):Int)),(9,Ad p.1),(10,Ad p.2.1)],[],p.2.2⟩) (λp=>p.1)
   (λp F'=>F'=F/\JO (AP ((U.drop j).take (m+3))) (AP v) (p1+RB*p2) v1 p1 p.1 p.2.1/\p.2.1<RB) (q0,r0,_) ⟨rfl,G0,hr0⟩ AL ?_
  rintro⟨t,r,n⟩ F' ⟨rfl,G,hr⟩;dsimp only at G hr⊢;clear G0 hr0 k1 k2 k3 k4 u1 u2 ra wa;have htl:=G.qle S.top;obtain⟨b,hb⟩:∃b,b=decide (RB<=t\/r*RB+p0<t*v2):=⟨_,rfl⟩
  refine AC.seq ?_;refine Cu (α:=Nat) (λn=>⟨[(0,.sl false 1 (U.map Ad)),(1,.sl false 1 (v.map Ad)),(2,Ad j),(7,i64 ((m+2:Nat):Int)),(9,Ad t),(10,Ad r),(63,As b)],[],n⟩) (λ_=>True) ?_ ?_
  ·rcases BG t RB with h|h
   ·have e1:decide ((t:Int)>=1000000000)=false:=Ah (by unfold RB at h;omega)
    obtain⟨a1,a2,a3,q1,q2,q3,q4⟩:=kA h hr lv2 l0;rw[<-hb]at q4;clear hb;rw[<-q4];refine B8 w1 400 [0,1,2,3,4,5,6,7,8,9,10,11,12,13,14,15,16,17,18,19] [20,21] (by kernel_rfl) ?_;refine AE e1 ?_;refine AE (At kF wd kN) ?_;refine Br kF y2 ?_;refine AE (CM kF w0 wb rb kN) ?_;refine Br kF u0 ?_;refine AE (BW kF q1 q2 q3) ?_;refine AE kF ?_;exact⟨trivial,_,trivial,AL⟩
   ·have e1:decide ((t:Int)>=1000000000)=true:=AY (by unfold RB at h;omega)
    have e2:b=true:=hb.trans (AY (.inl h));subst e2;refine B8 w1 400 [0,1,2,3,4,5,6,7,8,9,10,11,12,13,14,15,16,17,18,19] [20,21] (by kernel_rfl) ?_;refine AE e1 ?_;refine AE kT ?_;refine AE kT ?_;exact⟨trivial,_,trivial,AL⟩
  rintro n2 -;cases b with
  |true=>
   have hc:=DA hb.symm;obtain⟨t0,G2⟩:=fe S G hc;have j1:IntKind.i64.wrap ((t:Int)-1)=((t-1:Nat):Int):=by rw[wI (by omega) (by unfold RB at htl;omega)];omega
   have j2:IntKind.i64.wrap ((r:Int)+(v1:Int))=((r+v1:Nat):Int):=by rw[wI (by omega) (by unfold RB at hr lv1;omega)];omega
   clear hc hb;refine AO ?_;refine Ap ?_;refine AC.block ?_;refine sZ 500 ?_;refine AV j1 ?_;refine sZ 600 ?_;refine AE (Ac wc kN) ?_;refine Br kT y1 ?_;refine AE j2 ?_;refine AC.seq ?_;rcases BG (r+v1) RB with h|h
   ·have e3:decide (((r+v1:Nat):Int)>=1000000000)=false:=Ah (by unfold RB at h;omega)
    refine Aq w1 700 (by kernel_rfl) ?_;refine AV e3 ?_;refine AO ?_;refine Ap ?_;exact⟨(t-1,r+v1,_),⟨rfl,G2,h⟩,by dsimp only;omega,AL⟩
   ·have e3:decide (((r+v1:Nat):Int)>=1000000000)=true:=AY (by unfold RB at h;omega)
    obtain⟨g1,g2⟩:=Vh S G2 (.inl h);refine Aq w1 700 (by kernel_rfl) ?_;refine AV e3 ?_;refine AO ?_;refine sR 800 ?_;refine Al ?_;exact⟨_,.refl _,AA.out,t-1,rfl,g1,G2.up,g2⟩
  |false=>
   have hc:=DN hb.symm;obtain⟨g1,g2⟩:=Vh S G (.inr (nq hc));clear hc hb;refine AO ?_;refine CA ?_;exact⟨rfl,⟨t,_⟩,⟨g1,G.up,g2⟩,AL⟩
 rintro⟨q,n⟩ ⟨g1,g2,g3⟩;dsimp only at g1 g2 g3⊢;refine sR 900 ?_;refine Al ?_;exact⟨_,.refl _,AA.out,q,rfl,g1,g2,g3⟩
def OM (k g k' n:Nat)(env:Ar):Ar->Prop
 | []=>True
 |(t,d)::r=>(d=env.get t\/∃sz i len,env.get t=.osl k g sz i len/\d=.osl k' n sz i len)/\OM k g k' n env r
theorem OM.get {k g k' n:Nat}{env:Ar}:∀ {env':Ar},OM k g k' n env env'->∀t,env'.get t=.any\/env'.get t=env.get t\/∃sz i len,env.get t=.osl k g sz i len/\env'.get t=.osl k' n sz i len
 | [],_,t=>.inl rfl
 |(t0,d)::r,h,t=>by
  simp only[Ar.get];cases hb:Nat.beq t0 t with
  |true=>
   obtain rfl:=B4 hb;rcases h.1 with h1|h1
   ·exact .inr (.inl h1)
   ·exact .inr (.inr h1)
  |false=>exact OM.get h.2 t
section
variable {C:A8} {B F:Ab} {rd:Option Nat} {Q:Exit->Ab->St->Prop}
theorem xY {c:Code}{env:Ar}{k g k' T sz n:Nat}{es:List D}(env':Ar)(he:OM k g k' n env env')(h:AC C B rd F c ⟨env',[⟨k',n,T,sz,es⟩],n+1⟩ Q):AC C B rd F c ⟨env,[⟨k,g,T,sz,es⟩],n⟩ Q:=by
 refine⟨λhB hd ρ a w hs=>?_⟩;obtain⟨ρ',hl,hk,hf⟩:∃ρ':Lk,(∀k1 g1 b,ρ k1 g1=some b->ρ' k1 g1=some b)/\ρ' k' n=ρ k g/\Io ρ' (n+1):=by
  cases hb:ρ k g with
  |none=>exact⟨ρ,λ_ _ _ h=>h,hs.fresh _ _ (Ai _),λk1 g1 h=>hs.fresh _ _ (Nat.le_of_succ_le h)⟩
  |some b=>exact⟨ρ.put k' n b,λk1 g1 b1 h1=>NC (hs.fresh _ _ (Ai _)) h1,EH _ _ _ _,λk1 g1 h1=>by
    unfold Lk.put;split
    ·rename_i hh;omega
    ·exact hs.fresh _ _ (Nat.le_of_succ_le h1)⟩
 have hO:AM F.X ρ' [⟨k',n,T,sz,es⟩]=AM F.X ρ [⟨k,g,T,sz,es⟩]:=funext λb=>propext (by simp[AM,hk])
 have x:BQ ρ (AM F.X ρ [⟨k,g,T,sz,es⟩]) w ρ' (AM F.X ρ' [⟨k',n,T,sz,es⟩]) w:=⟨Ai _,hl,λb _ hb=>⟨by rw[hO];exact hb,rfl⟩,λ_ cs _ _ h=>⟨cs,_,h,rfl⟩⟩
 refine h.out hB hd ρ' a w ⟨⟨⟨λe he'=>?_,by simp,λe he' b hb=>?_⟩,hs.mem.os,hs.mem.tape,hs.mem.output,hs.mem.size,hs.mem.blk,hs.mem.xlt,hs.mem.g0,hs.mem.gn,hs.mem.gw,λk1 g1 b h1=>hl _ _ _ (hs.mem.lnk _ _ _ h1),hs.mem.shp⟩,hf,λe he'=>?_,λt=>?_,hs.nt,hs.dfr⟩
 ·simp only[BA,DM,or_false]at he'
  subst he';rcases hs.mem.hok.ent ⟨k,g,T,sz,es⟩ (by simp)with⟨h1,h2⟩|⟨b,cs,h1,h2,h3⟩
  ·exact .inl ⟨h1,by rw[show ρ' k' n=ρ k g from hk];exact h2⟩
  ·refine .inr ⟨b,cs,hk.trans h1,h2,?_⟩
   have h4:=h3.mono x;exact⟨h4.len,h4.siz,h4.one,h4.rep⟩
 ·simp only[BA,DM,or_false]at he'
  subst he';exact hs.mem.hok.own ⟨k,g,T,sz,es⟩ (by simp) b (hk.symm.trans hb)
 ·simp only[BA,DM,or_false]at he'
  subst he';exact HF _
 ·have h0:=(hs.env t).mono x
  rcases he.get t with h1|h1|⟨sz',i,len,h1,h2⟩
  ·show AU _ _ _ (env'.get t) _
   rw[h1];exact .any _
  ·show AU _ _ _ (env'.get t) _
   rw[h1];exact h0
  ·show AU _ _ _ (env'.get t) _
   rw[h2];have h5:=hs.env t;change AU _ _ _ (env.get t) _ at h5;rw[h1]at h5;generalize a.tmps.getD t undef=v at*;cases h5 with
   |onil=>exact .onil _ _ _
   |osl hr hb hc hs' hm=>exact .osl (hk.trans hr) hb hc hs' hm
end
theorem vo {b m y:Nat}(hl:(Aa b).length=m+1)(hy:(Aa b)[m]?=some y):∃f,f=1000000000/(y+1)/\0<f/\f<RB/\(Aa (b*f)).length=m+1:=by
 have hy0:=PT b hl hy;have hyl:y<RB:=Ea b y (A0 hy);have hf0:0<1000000000/(y+1):=Nat.div_pos (by unfold RB at hyl;omega) (by omega);have hf1:1000000000/(y+1)<RB:=Hk (by decide) (by omega);have hm:=Nat.div_mul_le_self 1000000000 (y+1);refine⟨_,rfl,hf0,hf1,?_⟩;generalize 1000000000/(y+1)=f at*;refine fL ?_ ?_
 ·exact BR (R4 hl) (Nat.le_mul_of_pos_right _ hf0)
 ·have h2:=T5 hl hy
  have h3:=F5 ((Ea b).take m);rw[Bf,hl,E4 (by omega)]at h3;rw[D3]at h2;have h4:b<RB^m*(y+1):=by rw[BM,EB];omega
  have h5:b*f<RB^m*(y+1)*f:=Rg h4 hf0;have h6:RB^m*(y+1)*f=RB^m*(f*(y+1)):=by rw[Bw,BS (y+1)]
  have h7:RB^m*(f*(y+1))<=RB^m*RB:=Cd _ hm;rw[CL];omega
theorem gi {a b f:Nat}{U v:List Nat}{k lu lq:Nat}(hf:0<f)(hU:AP U=a*f)(hv:AP v=b*f)(wU:Rd U)(lU:U.length=lu){q:List Nat}(hq:q=List.replicate lq 0)(hk:lq<=k)
  (hab:a<RB^k*b):Ln (a*f) v U q lu lq k:=by
 subst hq;refine⟨lU,L3,wU,R5 _,?_,?_⟩
 ·rw[HG (by rw[L3];exact hk)]
  rw[show AP []=0 from rfl,EX,Gm,BP,hU]
 ·rcases BG (AP (U.drop k)) (AP v)with h|h
  ·exact h
  ·exfalso
   have e0:AP U=AP (U.take k)+RB^(U.take k).length*AP (U.drop k):=by
    conv=>lhs;rw[<-Ez k U]
    rw[JB]
   have h3:a*f<RB^k*b*f:=Rg hab hf;rw[Bw,<-hv]at h3;rcases BG U.length k with hl|hl
   ·rw[HG (by omega)]at h
    rw[show AP []=0 from rfl]at h;rw[Nat.le_zero.1 h,EX]at h3;omega
   ·rw[Bf,E4 hl]at e0
    have:=Cd (RB^k) h
    omega
theorem jP {a b f:Nat}{v U q:List Nat}{lu lq:Nat}(hf:0<f)(I:Ln (a*f) v U q lu lq 0)(hv:AP v=b*f):AP q=a/b/\AP U=a%b*f:=by
 obtain⟨lU,lQ,wU,wq,val,less⟩:=I;simp only[L6,I3,Fd]at val less;obtain⟨h1,h2⟩:=Pp val less;rw[hv,PA _ _ hf]at h1;rw[hv,PB]at h2;exact⟨h1,h2⟩
theorem nV {P V q N Pn c z W:Nat}(hI:N+q*V=Pn+W*c)(hP:P=Pn+W*z)(hc:c<=z)(hup:P<(q+1)*V):P/V=q/\P%V=N+W*(z-c):=by
 have e:W*z=W*c+W*(z-c):=by rw[<-BM];congr 1;omega
 exact SO (N:=N+W*(z-c)) (by omega) hup
theorem nW {P V q N Pn N2 c c2 z W:Nat}(hI:N+q*V=Pn+W*c)(hP:P=Pn+W*z)(hz:z<c)(hN:N<W)(hdn:q*V<=P+V)(hN2:N2+W*c2=N+V)(hc2:c2<=1)(hN2l:N2<W)(hVW:V<W):
  0<q/\P/V=q-1/\P%V=N2/\(z:Int)-c+c2=0:=by
 obtain⟨e,rfl⟩:∃e,c=z+1+e:=⟨c-z-1,by omega⟩
 have h1:W*(z+1+e)=W*z+W+W*e:=by rw[BM,BM,EB]
 have he:e=0:=by
  rcases Db e with h|h
  ·exact h
  ·have:=Cd W h
   omega
 subst he;rw[EX]at h1;obtain⟨a1,a2,a3⟩:=WS (U:=P) (V:=V) (q:=q) (N:=N) (N3:=N2) (T:=W) (c:=c2) (by omega) hN hdn hN2 hc2 hN2l;refine⟨a1,a2,a3,?_⟩
 have:c2=1:=by
  rcases Db c2 with h|h
  ·exfalso
   subst h;rcases Db q with h0|h0
   ·subst h0;omega
   ·obtain⟨k,rfl⟩:∃k,q=k+1:=⟨q-1,by omega⟩
    rw[Bu,I3]at hI hdn;omega
  ·omega
 subst this;omega
def blk (A N:List Nat)(top:Int)(Z:List Nat):List D:=A.map Ad++(N.map Ad++(i64 top::Z.map Ad))
theorem ZE {A N Z:List Nat}{top:Int}{i z:Nat}(h:N[i]?=some z):(blk A N top Z)[A.length+i]?=some (Ad z):=by
 have hi:i<N.length:=(List.getElem?_eq_some_iff.1 h).1;unfold blk;rw[Ey (by rw[Am];omega),Am,Ko,GO (by rw[Am];exact hi)];exact Dl h
theorem Xt {A N Z:List Nat}{top:Int}{i d:Nat}(h:i<N.length):(blk A N top Z).set (A.length+i) (Ad d)=blk A (N.set i d) top Z:=by
 unfold blk;rw[NH _ _ (by rw[Am];omega),Am,Ko,List.set_append_left _ _ (by rw[Am];exact h),Mi]
theorem TH {A N Z:List Nat}{top:Int}{n:Nat}(h:N.length=n):(blk A N top Z)[A.length+n]?=some (i64 top):=by
 unfold blk;rw[Ey (by rw[Am];omega),Am,Ko,Ey (by rw[Am];omega),Am,h,Nat.sub_self];rfl
theorem XB {A N Z:List Nat}{top t:Int}{n:Nat}(h:N.length=n):(blk A N top Z).set (A.length+n) (i64 t)=blk A N t Z:=by
 unfold blk;rw[NH _ _ (by rw[Am];omega),Am,Ko,NH _ _ (by rw[Am];omega),Am,h,Nat.sub_self];rfl
theorem TG {A N Z:List Nat}{t:Nat}:blk A N (t:Int) Z=(A++((N++[t])++Z)).map Ad:=by
 unfold blk;simp[Cv]
theorem lH {t x c z:Nat}(ht:t<RB)(hx:x<RB)(hc:c<=RB)(hz:z<RB):∃p lo hi x' d c':Nat,IntKind.i64.wrap ((t:Int)*(x:Int))=(p:Int)/\IntKind.i64.wrap ((p:Int)+(c:Int))=(x':Int)/\((x':Int)).tmod 1000000000=(lo:Int) /\
  IntKind.i64.wrap (((x':Int)).tdiv 1000000000)=(hi:Int)/\IntKind.i64.wrap ((z:Int)-(lo:Int))=(z:Int)-lo/\d<RB/\c'<=RB/\d+t*x+c=z+RB*c' /\
  ((c'=hi/\(z:Int)-lo=d)\/(c'=hi+1/\(z:Int)-lo<0/\IntKind.i64.wrap ((z:Int)-lo+1000000000)=d/\IntKind.i64.wrap ((hi:Int)+1)=((hi+1:Nat):Int))):=by
 have h3:t*x<=999999999*999999999:=IU (by unfold RB at ht;omega) (by unfold RB at hx;omega);have e:=El (t*x+c) 1000000000;have l:=B5 (t*x+c) (show 1000000000>0 by decide);have k0:IntKind.i64.wrap ((t:Int)*(x:Int))=((t*x:Nat):Int):=by rw[<-Fv,wI (by omega) (by omega)]
 unfold RB at*;have k1:IntKind.i64.wrap (((t*x:Nat):Int)+(c:Int))=((t*x+c:Nat):Int):=by rw[wI (by omega) (by omega)];omega
 have k2:((t*x+c:Nat):Int).tmod 1000000000=(((t*x+c)%1000000000:Nat):Int):=Q7 _ 1000000000;have k3:IntKind.i64.wrap (((t*x+c:Nat):Int).tdiv 1000000000)=(((t*x+c)/1000000000:Nat):Int):=OZ _ 1000000000 (by omega);generalize t*x=p at*;generalize(p+c)%1000000000=lo at*;generalize(p+c)/1000000000=hi at*;rcases BG z lo with h|h
 ·exact⟨_,_,_,_,z+1000000000-lo,hi+1,k0,k1,k2,k3,wI (by omega) (by omega),by omega,by omega,by omega,.inr ⟨rfl,by omega,by rw[wI (by omega) (by omega)];omega,by rw[wI (by omega) (by omega)];omega⟩⟩
 ·exact⟨_,_,_,_,z-lo,hi,k0,k1,k2,k3,wI (by omega) (by omega),by omega,by omega,by omega,.inl ⟨rfl,by omega⟩⟩
theorem kR {z x c:Nat}(hz:z<RB)(hx:x<RB)(hc:c<=1):∃p s d c':Nat,IntKind.i64.wrap ((z:Int)+(x:Int))=(p:Int)/\IntKind.i64.wrap ((p:Int)+(c:Int))=(s:Int)/\((s:Int)).tmod 1000000000=(d:Int) /\
  IntKind.i64.wrap (((s:Int)).tdiv 1000000000)=(c':Int)/\d<RB/\c'<=1/\d=(z+x+c)%RB/\c'=(z+x+c)/RB:=by
 have e:=El (z+x+c) 1000000000;have l:=B5 (z+x+c) (show 1000000000>0 by decide);unfold RB at*;have k0:IntKind.i64.wrap ((z:Int)+(x:Int))=((z+x:Nat):Int):=by rw[wI (by omega) (by omega)];omega
 have k1:IntKind.i64.wrap (((z+x:Nat):Int)+(c:Int))=((z+x+c:Nat):Int):=by rw[wI (by omega) (by omega)];omega
 have k2:((z+x+c:Nat):Int).tmod 1000000000=(((z+x+c)%1000000000:Nat):Int):=Q7 _ 1000000000;have k3:IntKind.i64.wrap (((z+x+c:Nat):Int).tdiv 1000000000)=(((z+x+c)/1000000000:Nat):Int):=OZ _ 1000000000 (by omega);exact⟨_,_,_,_,k0,k1,k2,k3,l,by omega,rfl,rfl⟩
set_option maxHeartbeats 2000000
theorem m6:rD 0=.sl false 1 []:=by unfold rD;rw[GU];rfl
theorem TV {H:Hp}{K g T:Nat}{l:List Nat}{N:Nat}(hl:l.length=N)(he:Hp.get H K=some ⟨K,g,T,1,l.map Ad⟩:=by exact rfl):Fz H [] (.osl K g 1 0 N) (.sl false 1 (l.map Ad)):=by
 subst hl;have key:∀(j:Nat) (d d':D),(l.map Ad)[0+j]?=some d->(l.map Ad)[j]?=some d'->d=d':=λj d d' h1 h2=>by
  rw[BP]at h1;rw[h1]at h2;exact Fc h2
 refine .osl (e:=⟨K,g,T,1,l.map Ad⟩) he rfl rfl rfl (by simp) (by simp) (λj d d' h1 h2=>by rw[key j d d' h1 h2]) λj d d' q c c' h1 h2 h3 h4=>?_
 rw[key j d d' h1 h2]at h3;rw[h3]at h4;cases h4;exact Fz.refl _
theorem jQ (a b:Nat)(hab:a<b)(ha:(Aa a).length<1000000)(hb:(Aa b).length<1000000):AK C0 176 [rD a,rD b] (.tup [rD (a/b),rD (a%b)]):=by
 rw[HE hab,Dc hab,m6];refine Ak.walk w1 Tf rfl λF=>?_
 have cc:=Q0 a b (by omega) (by omega);have e1:=Xw hab;refine sR 0 ?_;refine AC.seq ?_;refine sR 100 ?_;refine cI cc ?_;rw[e1];refine AO ?_;refine sR 200 ?_;refine Al ?_;exact⟨_,am (.nil 1) (.refl _),XT (.sl λe he=>by cases he) (N5 _),rfl⟩
theorem lE (a b:Nat)(hab:b<=a)(ha:(Aa a).length<1000000)(hb:(Aa b).length=1)(hb0:b≠0):AK C0 176 [rD a,rD b] (.tup [rD (a/b),rD (a%b)]):=by
 have cc:=Q0 a b (by omega) (by omega);have e1:=QK hab;have hbl:b<RB:=by
  have:=Ib b
  rw[hb,Nat.pow_one]at this;exact this
 have hlb:(Aa b)[0]?=some b:=by rw[PS hb0 hbl];rfl
 have hb':=Dl hlb;have cd:=Vl a b (Dy hb0) hbl ha;have e3:(((((Aa b).map Ad).length:Nat):Int)==1)=true:=by rw[Am,hb];rfl
 have hml:a%b<RB:=Ft (B5 _ (Dy hb0)) hbl;have hv:AP [a%b]=a%b:=by simp[AP]
 refine Ak.walk w1 Tf rfl λF=>?_
 generalize a/b=q at*;generalize a%b=r at*;unfold rD rL at cc cd⊢;change AC C0 F none F _ _ (Qx X1.tt _ (· = .tup [rD q,rD r]));generalize Aa a=la at*;generalize Aa b=lb at*;refine sR 0 ?_;refine AC.seq ?_;refine sR 100 ?_;refine cI cc ?_;rw[e1];refine AO ?_;refine Ap ?_;refine AC.seq ?_;refine sZ 300 ?_;refine AV e3 ?_;refine AO ?_;refine sZ 400 ?_;refine AE kN ?_;refine Br kT hb' ?_;refine AE kN ?_;refine BF.same _ cd AJ ?_;refine BO ?_;refine sR 500 ?_;have hrl:Rd [r]:=λa ha=>by
  simp only[BA,DM,or_false]at ha;subst ha;exact hml
 refine BF.pure [rL [r]] _ ⟨.nn true 1 _,trivial⟩ (LW [r] hrl (by simp)) AJ ?_;refine BO ?_;refine Al ?_;exact AN (by rw[hv];rfl) AA.out
theorem wA {H:Hp}{d1 d2 d3 e1 e2 e3:D}(h1:DO H d1 e1)(h2:DO H d2 e2)(h3:DO H d3 e3):∀(i:Nat) (a b:D),[d1,d2,d3][i]?=some a->[e1,e2,e3][i]?=some b->DO H a b
 | 0,_,_,ha,hb=>by cases ha;cases hb;exact h1
 | 1,_,_,ha,hb=>by cases ha;cases hb;exact h2
 | 2,_,_,ha,hb=>by cases ha;cases hb;exact h3
 |_+3,_,_,ha,_=>by cases ha
theorem gG {P v:List Nat}(d:D)(h:W8 P v d):Jf d:=by
 obtain⟨q,rfl,_⟩:=h;exact Jf.prim _
theorem nX {v N Pn:List Nat}{t i c z x:Nat}(hz:N[i]?=some z)(hx:v[i]?=some x)(ht:t<RB)(hxl:x<RB)(hc:c<=RB)(hzl:z<RB)(hI:AP N+t*AP (v.take i)=AP Pn+RB^i*c):
  ∃(p x' lo hi d c':Nat) (e:Int),IntKind.i64.wrap ((t:Int)*(x:Int))=(p:Int)/\IntKind.i64.wrap ((p:Int)+(c:Int))=(x':Int)/\((x':Int)).tmod 1000000000=(lo:Int) /\
  IntKind.i64.wrap (((x':Int)).tdiv 1000000000)=(hi:Int)/\IntKind.i64.wrap ((z:Int)-(lo:Int))=e/\d<RB/\c'<=RB/\AP (N.set i d)+t*AP (v.take (i+1))=AP Pn+RB^(i+1)*c' /\
  ((decide (e<0)=false/\e=(d:Int)/\hi=c')\/(decide (e<0)=true/\IntKind.i64.wrap (e+1000000000)=(d:Int)/\IntKind.i64.wrap ((hi:Int)+1)=(c':Int))):=by
 obtain⟨p,lo,hi,x',d,c',k1,k2,k3,k4,k5,k6,k7,k8,k9⟩:=lH ht hxl hc hzl;have J:=dw (b:=0) (c':=0) (lo:=t*x+c) (b':=c') (d:=d) (A:=N) (P:=Pn) (v:=v) (q:=t) hz hx hI rfl (by rw[<-k8];exact EW d (t*x) c ▸ rfl);refine⟨p,x',lo,hi,d,c',_,k1,k2,k3,k4,k5,k6,k7,by rw[J,BP],?_⟩;rcases k9 with⟨h1,h2⟩|⟨h1,h2,h3,h4⟩
 ·exact .inl ⟨Ah (by rw[h2];exact Int.not_lt.2 (Int.natCast_nonneg d)),h2,h1.symm⟩
 ·exact .inr ⟨AY h2,h3,by rw[h1];exact h4⟩
theorem m8 {v N Nb:List Nat}{i c z x:Nat}(hz:N[i]?=some z)(hx:v[i]?=some x)(hxl:x<RB)(hc:c<=1)(hzl:z<RB)(hI:AP N+RB^i*c=AP Nb+AP (v.take i)):
  ∃(p s d c':Nat),IntKind.i64.wrap ((z:Int)+(x:Int))=(p:Int)/\IntKind.i64.wrap ((p:Int)+(c:Int))=(s:Int)/\((s:Int)).tmod 1000000000=(d:Int) /\
  IntKind.i64.wrap (((s:Int)).tdiv 1000000000)=(c':Int)/\d<RB/\c'<=1/\AP (N.set i d)+RB^(i+1)*c'=AP Nb+AP (v.take (i+1)):=by
 obtain⟨p,s,d,c',k1,k2,k3,k4,k5,k6,rfl,rfl⟩:=kR hzl hxl hc;exact⟨p,s,_,_,k1,k2,k3,k4,k5,k6,du hz hx hI⟩
theorem gh {U:List Nat}{k:Nat}(h:AP U<RB^k)(hk:k<=U.length):AP (U.take k)=AP U:=by
 have e:AP U=AP (U.take k)+RB^k*AP (U.drop k):=by
  conv=>lhs;rw[<-Ez k U]
  rw[JB,Bf,E4 hk]
 rcases Db (AP (U.drop k))with h0|h0
 ·rw[h0,EX,DY]at e;exact e.symm
 ·exfalso
  have:=Cd (RB^k) h0
  omega
theorem gf {P v:List Nat}{m p0 p1 p2 v2 v1:Nat}(S:KU P v m p0 p1 p2 v2 v1):∃Pn,P=Pn++[p2]/\Pn.length=m+2/\Rd Pn/\AP P=AP Pn+RB^(m+2)*p2:=by
 have hl:=S.lP;have e:P=P.take (m+2)++[p2]:=by
  rw[<-E7 S.h2,B9 (by omega)]
 have hn:(P.take (m+2)).length=m+2:=by rw[Bf];omega
 refine⟨P.take (m+2),e,hn,S.wP.take _,?_⟩
 conv=>lhs;rw[e]
 rw[Gr hn]
theorem aI {P N:List Nat}{m z V:Nat}(hl:N.length=m+2)(hN:Rd N)(hz:z<RB)(hv:AP N+RB^(m+2)*z=AP P%V):(N++[z]).length=m+3/\Rd (N++[z])/\AP (N++[z])=AP P%V:=by
 refine⟨by rw[Bk,hl];rfl,Rd.append hN λa ha=>?_,by rw[Gr hl,hv]⟩;simp only[BA,DM,or_false]at ha;subst ha;exact hz
set_option maxHeartbeats 4000000
theorem jR (a b m:Nat)(hab:b<=a)(ha:(Aa a).length<1000000)(hb:(Aa b).length=m+2):AK C0 176 [rD a,rD b] (.tup [rD (a/b),rD (a%b)]):=by
 have hlen:=Ia b a hab;have cc:=Q0 a b (by omega) (by omega);have e1:=QK hab;obtain⟨y,hy⟩:=CS (l:=Aa b) (i:=m+1) (by omega);have yl:y<RB:=Ea b y (A0 hy);obtain⟨f,ef,f0,fl,hvl⟩:=vo hb hy;have wf:IntKind.i64.wrap ((1000000000:Int).tdiv ((y+1:Nat):Int))=(f:Int):=by
  rw[ef];exact OZ 1000000000 (y+1) (BR (Gi _ _) (by decide))
 have wy:IntKind.i64.wrap ((y:Int)+1)=((y+1:Nat):Int):=wI (by omega) (by unfold RB at yl;omega);have lf:Aa f=[f]:=PS (Nat.pos_iff_ne_zero.1 f0) fl;have cv:=UO b f (by omega) (by rw[lf];exact(by decide:1<1000000));have cu:=UO a f (by omega) (by rw[lf];exact(by decide:1<1000000));have hu1:=Rx a f;have hu2:=Ia a (a*f) (Nat.le_mul_of_pos_right _ f0);rw[lf]at hu1;change _<=_+1 at hu1;obtain⟨v,hv⟩:∃v,v=Aa (b*f):=⟨_,rfl⟩
 have wv:Rd v:=by rw[hv];exact Ea _
 have vv:AP v=b*f:=by rw[hv];exact D3 _
 rw[<-hv]at hvl;obtain⟨U0,hU0⟩:∃U0,U0=Aa (a*f):=⟨_,rfl⟩
 have wU0:Rd U0:=by rw[hU0];exact Ea _
 have vU0:AP U0=a*f:=by rw[hU0];exact D3 _
 rw[<-hU0]at hu1 hu2;obtain⟨v1,h1⟩:=CS (l:=v) (i:=m+1) (by omega);obtain⟨v2,h2⟩:=CS (l:=v) (i:=m) (by omega);have v10:v1≠0:=PT (b*f) (by rw[<-hv];exact hvl) (by rw[<-hv];exact h1);have b0:0<b:=by
  refine Dy λh=>?_
  subst h;rw[GU]at hb;cases hb
 have vpos:0<AP v:=by rw[vv];exact HI b0 f0
 have hup:=Ib a;have hbge:=R4 hb;unfold rD rL at cc cv cu;rw[lf,<-hv]at cv;rw[lf,<-hU0]at cu;refine Ak.walk w1 Tf rfl λF=>?_
 change AC C0 F none F _ ⟨DJ 0 [.sl false 1 ((Aa a).map Ad),.sl false 1 ((Aa b).map Ad)],[],0⟩ _;generalize Aa a=la at*;generalize Aa b=lb at*;obtain⟨lq,hlq⟩:∃lq,la.length=lq+(m+2):=⟨la.length-(m+2),by omega⟩
 have hy':=Dl hy;have e3:((((lb.map Ad).length:Nat):Int)==1)=false:=by rw[Am,hb];exact Bq.2 (by omega)
 have elb:(((lb.map Ad).length:Nat):Int)=((m+2:Nat):Int):=by rw[Am,hb]
 have wlb0:IntKind.i64.wrap (((m+2:Nat):Int)-1)=((m+1:Nat):Int):=by rw[wI (by omega) (by omega)];omega
 have wlb:IntKind.i64.wrap ((((lb.map Ad).length:Nat):Int)-1)=((m+1:Nat):Int):=by rw[elb];exact wlb0
 have ea:(((la.map Ad).length:Nat):Int)=(la.length:Int):=by rw[Am]
 have ev:(((v.map Ad).length:Nat):Int)=((m+2:Nat):Int):=by rw[Am,hvl]
 have eu:(((U0.map Ad).length:Nat):Int)=(U0.length:Int):=by rw[Am]
 have wa1:IntKind.i64.wrap ((la.length:Int)+1)=((la.length+1:Nat):Int):=wI (by omega) (by omega);have wq0:IntKind.i64.wrap (((la.length+1:Nat):Int)-((m+2:Nat):Int))=((lq+1:Nat):Int):=by rw[wI (by omega) (by omega)];omega
 have wq1:IntKind.i64.wrap (((lq+1:Nat):Int)-1)=((lq+1:Nat):Int)-1:=wI (by omega) (by omega);have wraw:IntKind.i64.wrap (IntKind.i64.wrap (((la.length+1:Nat):Int)-((m+2:Nat):Int))-1)=((lq+1:Nat):Int)-1:=by rw[wq0,wq1]
 have r3:List.replicate (lq+1) (ofV (.int .i64 0))=(List.replicate (lq+1) 0).map Ad:=by rw[Js];rfl
 refine sR 0 ?_;refine AC.seq ?_;refine sR 100 ?_;refine cI cc ?_;rw[e1];refine AO ?_;refine Ap ?_;refine AC.seq ?_;refine sZ 300 ?_;refine AV e3 ?_;refine AO ?_;refine Ap ?_;refine sZ 600 ?_;refine AE (BW wlb elb wlb0 kN) ?_;refine Br kT hy' ?_;refine AE (At wy wf kN) ?_;refine sR 700 ?_;refine BF.pure [rL lb,rL [f]] _ ⟨.refl _,.nn true 1 _,trivial⟩ cv AJ ?_;refine BO ?_;refine sZ 800 ?_;refine AV ev ?_;clear cc e1 e3 elb wlb wlb0 hy' yl hy wy wf hb;refine Cu (α:=Nat×Nat) (λp=>⟨[(0,.sl false 1 (la.map Ad)),(8,.sl true 1 [Ad f]),(9,.sl false 1 (v.map Ad)),(10,i64 ((m+2:Nat):Int)),(11,.osl 904 p.1 1 0 U0.length)],[⟨904,p.1,3,1,U0.map Ad⟩],p.2⟩) (λ_=>True) ?_ ?_
 ·refine rI 900 ?_
  refine BF.pure [rL la,rL [f]] _ ⟨.refl _,.nn true 1 _,trivial⟩ cu AJ ?_;refine BO ?_;exact⟨rfl,⟨_,_⟩,trivial,AL⟩
 rintro⟨g,n2⟩ -;dsimp only;refine Cu (α:=Nat×Nat×List Nat×Nat) (λp=>⟨[(0,.sl false 1 (la.map Ad)),(8,.sl true 1 [Ad f]),(9,.sl false 1 (v.map Ad)),(10,i64 ((m+2:Nat):Int)),(11,.osl p.1 p.2.1 1 0 (la.length+1))],[⟨p.1,p.2.1,3,1,p.2.2.1.map Ad⟩],p.2.2.2⟩) (λp=>p.2.2.1.length=la.length+1/\Rd p.2.2.1/\AP p.2.2.1=a*f) ?_ ?_
 ·refine AC.block ?_
  rcases Nat.eq_or_lt_of_le hu1 with hl|hl
  ·have eN:decide (((la.length+1:Nat):Int)<((la.length+1:Nat):Int))=false:=Ah (by omega)
   rw[hl];refine GL (α:=Nat) (λn=>⟨[(0,.sl false 1 (la.map Ad)),(8,.sl true 1 [Ad f]),(9,.sl false 1 (v.map Ad)),(10,i64 ((m+2:Nat):Int)),(11,.osl 904 g 1 0 (la.length+1))],[⟨904,g,3,1,U0.map Ad⟩],n⟩) (λ_=>0) (λ_ F'=>F'=F) n2 rfl AL ?_;rintro n3 F' rfl;refine AC.seq ?_;refine sZ 1000 ?_;refine AV (At ea wa1 eN) ?_;refine AO ?_;refine CA ?_;exact⟨rfl,⟨904,g,U0,_⟩,⟨hl,wU0,vU0⟩,AL⟩
  ·have hl2:U0.length=la.length:=by omega
   have eN:decide (((la.length+1:Nat):Int)<((la.length+1:Nat):Int))=false:=Ah (by omega);have eY:decide ((la.length:Int)<((la.length+1:Nat):Int))=true:=AY (by omega);have hap:List.take la.length (U0.map Ad)++[D.prim (Value.int IntKind.i64 0)]=(U0++[0]).map Ad:=by
    rw[B9 (by rw[Am];omega),Cv];rfl
   rw[hl2];refine GL (α:=Bool×Nat×Nat) (λp=>match p with
    |(false,_,n)=>⟨[(0,.sl false 1 (la.map Ad)),(8,.sl true 1 [Ad f]),(9,.sl false 1 (v.map Ad)),(10,i64 ((m+2:Nat):Int)),(11,.osl 904 g 1 0 la.length)],[⟨904,g,3,1,U0.map Ad⟩],n⟩
    |(true,g1,n)=>⟨[(0,.sl false 1 (la.map Ad)),(8,.sl true 1 [Ad f]),(9,.sl false 1 (v.map Ad)),(10,i64 ((m+2:Nat):Int)),(11,.osl 1102 g1 1 0 (la.length+1))],[⟨1102,g1,3,1,(U0++[0]).map Ad⟩],n⟩) (λp=>cond p.1 0 1) (λ_ F'=>F'=F) (false,0,n2) rfl AL ?_
   rintro⟨_|_,g1,n3⟩ F' rfl
   ·dsimp only
    refine AC.seq ?_;refine sZ 1000 ?_;refine AV (At ea wa1 eY) ?_;refine AO ?_;refine Ap ?_;refine AC.block ?_;refine rI 1100 ?_;refine⟨(true,n3+8,n3+10),rfl,(by decide:(0:Nat)<1),?_⟩;dsimp only;rw[hap];exact AL
   ·dsimp only
    refine AC.seq ?_;refine sZ 1000 ?_;refine AV (At ea wa1 eN) ?_;refine AO ?_;refine CA ?_;refine⟨rfl,⟨1102,g1,U0++[0],_⟩,⟨by rw[Bk,hl2];rfl,Rd.append wU0 λa ha=>?_,by rw[S8];exact vU0⟩,AL⟩;simp only[BA,DM,or_false]at ha;subst ha;decide
 rintro⟨K,gK,U1,n3⟩ ⟨lU1,wU1,vU1⟩;dsimp only at lU1 wU1 vU1⊢;refine xY [(8,.sl true 1 [Ad f]),(9,.sl false 1 (v.map Ad)),(10,i64 ((m+2:Nat):Int)),(11,.osl 1102 n3 1 0 (la.length+1))] ⟨.inl rfl,.inl rfl,.inl rfl,.inr ⟨_,_,_,rfl,rfl⟩,trivial⟩ ?_;clear cu hU0 vU0 wU0 hu1 hu2 cv;refine Cu (α:=Nat×Nat) (λp=>⟨[(8,.sl true 1 [Ad f]),(9,.sl false 1 (v.map Ad)),(10,i64 ((m+2:Nat):Int)),(11,.osl 1102 n3 1 0 (la.length+1)),(12,.osl 1204 p.1 1 0 (lq+1))],[⟨1204,p.1,3,1,(List.replicate (lq+1) 0).map Ad⟩,⟨1102,n3,3,1,U1.map Ad⟩],p.2⟩) (λ_=>True) ?_ ?_
 ·refine Aq w1 1200 (by kernel_rfl) ?_
  refine AV (At wq0 kN r3) ?_;exact⟨trivial,⟨_,_⟩,trivial,by rw[<-r3];exact AL⟩
 rintro⟨g,n2⟩ -;dsimp only;have I0:Ln (a*f) v U1 (List.replicate (lq+1) 0) (la.length+1) (lq+1) (lq+1):=by
  refine gi f0 vU1 vv wU1 lU1 rfl (Ai _) ?_
  have:RB^(lq+1)*RB^(m+1)<=RB^(lq+1)*b:=Cd _ hbge
  rw[<-Fw,show lq+1+(m+1)=la.length by omega]at this;omega
 clear hup hbge;refine AC.seq ?_;refine sZ 1300 ?_;refine AV wraw ?_;refine AC.block ?_;refine AC.loop (α:=Nat×List Nat×List Nat×Nat) (λp=>⟨[(8,.sl true 1 [Ad f]),(9,.sl false 1 (v.map Ad)),(10,i64 ((m+2:Nat):Int)),(11,.osl 1102 n3 1 0 (la.length+1)),(12,.osl 1204 g 1 0 (lq+1)),(13,i64 ((p.1:Int)-1))],[⟨1204,g,3,1,p.2.2.1.map Ad⟩,⟨1102,n3,3,1,p.2.1.map Ad⟩],p.2.2.2⟩) (λp=>p.1)
  (λp=>p.1<=lq+1/\Ln (a*f) v p.2.1 p.2.2.1 (la.length+1) (lq+1) p.1) (lq+1,U1,List.replicate (lq+1) 0,_) ⟨Ai _,I0⟩ AL ?_
 rintro⟨k,u,q,n4⟩ F ⟨hk,I⟩;dsimp only at hk I⊢;clear I0 wq0 wq1 wraw r3 ea eu wU1 vU1 lU1;refine AC.seq ?_;refine sR 1400 ?_;refine AO ?_
 (refine Bv (λh20=>?_) (λh20=>?_))<;>(try simp only[Bi,Bs]at h20)<;>(try simp only[h20])
 ·obtain⟨j,rfl⟩:∃j,k=j+1:=⟨k-1,by
   have:(k:Int)-1>=0:=by simpa using h20
   omega⟩
  have wj:((j+1:Nat):Int)-1=(j:Int):=by omega
  obtain⟨p0,p1,p2,SI,hz,hP⟩:=ge I hvl wv v1 v2 h2 h1 (Dy v10) (by omega);have lu:=I.lU;have cg:=ml u v j m p0 p1 p2 v2 v1 SI (by omega) (by omega);rw[wj];refine Ap ?_;refine AC.seq ?_;refine AC.block ?_;refine sR 1600 ?_;refine BF.own _ (xc cg rfl (wA (DO.of (TV lu)) (DO.of (.refl _)) (DO.of (.refl _))) AJ gG) ?_;rintro d H' n5 ⟨⟨t,rfl,ht1,ht2,ht3⟩,rfl,rfl⟩;refine BO ?_;obtain⟨Pn,eP,lPn,wPn,vPn⟩:=gf SI;have hA:(u.take j).length=j:=by rw[Bf];omega
  have p2l:=SI.p2l;have hdl:AP ((u.drop j).take (m+3))/AP v<RB:=E3 SI.less;have hU:u.map Ad=blk (u.take j) Pn (p2:Int) (u.drop (j+(m+3))):=by rw[TG,<-eP,<-cY]
  have J:=λP' h1 h2 h3=>gc (P':=P') I vpos (by omega) (by omega) hz hP h1 h2 h3 hdl
  obtain⟨zq,hzq⟩:=CS (l:=q) (i:=j) (by rw[I.lQ];omega);have hzq':=Dl hzq;have wi':IntKind.i64.wrap ((j:Int)-1)=(j:Int)-1:=wI (by omega) (by omega);have wjn:IntKind.i64.wrap ((j:Int)+((m+2:Nat):Int))=((j+(m+2):Nat):Int):=by rw[wI (by omega) (by omega)];omega
  have hVW:=F5 wv;rw[show v.length=m+2 from hvl]at hVW;rw[hU];clear hU cg hP hz SI eP h20 wj I h1 h2 v10;generalize(u.drop j).take (m+3)=P at*;generalize u.take j=A at*;generalize u.drop (j+(m+3))=Z at*;refine sR 1700 ?_;refine AC.seq ?_;refine sR 1800 ?_;refine AC.block ?_;refine AC.loop (α:=Nat×Nat×List Nat×Nat) (λp=>⟨[(8,.sl true 1 [Ad f]),(9,.sl false 1 (v.map Ad)),(10,i64 ((m+2:Nat):Int)),(11,.osl 1102 n3 1 0 (la.length+1)),(12,.osl 1204 g 1 0 (lq+1)),(13,i64 (j:Int)),(14,Ad t),(15,Ad p.2.1),(16,i64 p.1)],[⟨1204,g,3,1,q.map Ad⟩,⟨1102,n3,3,1,blk A p.2.2.1 (p2:Int) Z⟩],p.2.2.2⟩) (λp=>m+2-p.1)
   (λp=>p.1<=m+2/\p.2.1<=RB/\p.2.2.1.length=m+2/\Rd p.2.2.1/\AP p.2.2.1+t*AP (v.take p.1)=AP Pn+RB^p.1*p.2.1) (0,0,Pn,_) ⟨BU _,BU _,lPn,wPn,by simp[AP]⟩ AL ?_
  rintro⟨i,c,N,n6⟩ F ⟨hi,hc,hNl,hNw,hI⟩;dsimp only at hi hc hNl hNw hI⊢;refine AC.seq ?_;refine sR 1900 ?_;refine AO ?_
  (refine Bv (λhlt=>?_) (λhlt=>?_))<;>(try simp only[Bi,Bs]at hlt)<;>(try simp only[hlt])
  ·have hi2:i<m+2:=by
    have:=DA hlt
    omega
   obtain⟨x,hx⟩:=CS (l:=v) (i:=i) (by omega);have hx':=Dl hx;have hxl:x<RB:=wv x (A0 hx);obtain⟨z,hz⟩:=CS (l:=N) (i:=i) (by omega);have hzl:=hNw z (A0 hz);have hz':=ZE (A:=A) (Z:=Z) (top:=(p2:Int)) hz;rw[hA]at hz';obtain⟨p,x',lo,hi',d,c',e,k1,k2,k3,k4,k5,dl,cl,hI',hb⟩:=nX hz hx ht1 hxl hc hzl hI;have hset:(blk A N (p2:Int) Z).set (j+i) (Ad d)=blk A (N.set i d) (p2:Int) Z:=by
    have:=Xt (A:=A) (Z:=Z) (top:=(p2:Int)) (i:=i) (d:=d) (N:=N) (by omega)
    rwa [hA]at this
   have wij:IntKind.i64.wrap ((i:Int)+(j:Int))=((j+i:Nat):Int):=by rw[wI (by omega) (by omega)];omega
   have wi:IntKind.i64.wrap ((i:Int)+1)=((i+1:Nat):Int):=wI (by omega) (by omega);clear hI J hVW vPn ht2 ht3 hdl;refine Ap ?_;refine AC.seq ?_;refine AC.block ?_;refine sZ 2100 ?_;refine AE kN ?_;refine Br kT hx' ?_;refine AE (At kN k1 k2) ?_;refine sZ 2200 ?_;refine AE (D2 wij kN BP hz' k3 k5) ?_;refine sZ 2300 ?_;refine AV k4 ?_;rcases hb with⟨b1,b2,b3⟩|⟨b1,b2,b3⟩
   ·refine AC.seq ?_
    refine sZ 2400 ?_;refine AV b1 ?_;refine AO ?_;refine Ap ?_;subst b2 b3;refine Aq w1 2700 (by kernel_rfl) ?_;refine AE (BW wij kN BP hz') ?_;rw[hset];refine Aq w1 2000 (by kernel_rfl) ?_;refine AV wi ?_;exact⟨(i+1,hi',N.set i d,_),⟨hi2,cl,by dsimp only;rw[C9];exact hNl,hNw.set dl,hI'⟩,by dsimp only;omega,AL⟩
   ·refine AC.seq ?_
    refine sZ 2400 ?_;refine AV b1 ?_;refine AO ?_;refine sZ 2500 ?_;refine AV b2 ?_;refine Aq w1 2600 (by kernel_rfl) ?_;refine AV b3 ?_;refine Aq w1 2700 (by kernel_rfl) ?_;refine AE (BW wij kN BP hz') ?_;rw[hset];refine Aq w1 2000 (by kernel_rfl) ?_;refine AV wi ?_;exact⟨(i+1,c',N.set i d,_),⟨hi2,cl,by dsimp only;rw[C9];exact hNl,hNw.set dl,hI'⟩,by dsimp only;omega,AL⟩
  ·have hi2:i=m+2:=by
    have:=DN hlt
    omega
   subst hi2;rw[B9 (by omega)]at hI;have hNlt:=F5 hNw;rw[hNl]at hNlt;have htop:=TH (A:=A) (Z:=Z) (top:=(p2:Int)) hNl;have hstop:=XB (A:=A) (Z:=Z) (top:=(p2:Int)) (t:=(p2:Int)-(c:Int)) hNl;have htop2:=TH (A:=A) (Z:=Z) (top:=(p2:Int)-(c:Int)) hNl;rw[hA]at htop hstop htop2;have p2l9:p2<1000000000:=p2l;have hc9:c<=1000000000:=hc;have wzc:IntKind.i64.wrap ((p2:Int)-(c:Int))=(p2:Int)-(c:Int):=wI (by omega) (by omega);refine CA ?_;refine sZ 2800 ?_;refine AE (CM wjn kN BP htop wzc) ?_;rw[hstop];rcases BG p2 c with h|h
   ·have e29:decide ((p2:Int)-(c:Int)<0)=true:=AY (by omega)
    have ht9:t<1000000000:=ht1;have wt:IntKind.i64.wrap ((t:Int)-1)=(t:Int)-1:=wI (by omega) (by omega);refine AC.seq ?_;refine sZ 2900 ?_;refine AE (CM wjn kN BP htop2 e29) ?_;refine AO ?_;refine sZ 3000 ?_;refine AV wt ?_;refine sR 3100 ?_;refine AC.seq ?_;refine sR 3200 ?_;refine AC.block ?_;refine AC.loop (α:=Nat×Nat×List Nat×Nat) (λp=>⟨[(8,.sl true 1 [Ad f]),(9,.sl false 1 (v.map Ad)),(10,i64 ((m+2:Nat):Int)),(11,.osl 1102 n3 1 0 (la.length+1)),(12,.osl 1204 g 1 0 (lq+1)),(13,i64 (j:Int)),(14,i64 ((t:Int)-1)),(19,Ad p.2.1),(20,i64 p.1)],[⟨1204,g,3,1,q.map Ad⟩,⟨1102,n3,3,1,blk A p.2.2.1 ((p2:Int)-(c:Int)) Z⟩],p.2.2.2⟩) (λp=>m+2-p.1)
     (λp=>p.1<=m+2/\p.2.1<=1/\p.2.2.1.length=m+2/\Rd p.2.2.1/\AP p.2.2.1+RB^p.1*p.2.1=AP N+AP (v.take p.1)) (0,0,N,_) ⟨BU _,BU _,hNl,hNw,by simp[AP]⟩ AL ?_
    rintro⟨i,c2,N2,n7⟩ F ⟨hi,hc2,hNl2,hNw2,hI2⟩;dsimp only at hi hc2 hNl2 hNw2 hI2⊢;clear htop hstop;refine AC.seq ?_;refine sR 3300 ?_;refine AO ?_
    (refine Bv (λhlt2=>?_) (λhlt2=>?_))<;>(try simp only[Bi,Bs]at hlt2)<;>(try simp only[hlt2])
    ·have hi2:i<m+2:=by
      have:=DA hlt2
      omega
     obtain⟨x,hx⟩:=CS (l:=v) (i:=i) (by omega);have hx':=Dl hx;have hxl:x<RB:=wv x (A0 hx);obtain⟨z,hz⟩:=CS (l:=N2) (i:=i) (by omega);have hzl:=hNw2 z (A0 hz);have hz':=ZE (A:=A) (Z:=Z) (top:=(p2:Int)-(c:Int)) hz;rw[hA]at hz';obtain⟨p,s,d,c',k1,k2,k3,k4,dl,cl,hI'⟩:=m8 hz hx hxl hc2 hzl hI2;have hset:(blk A N2 ((p2:Int)-(c:Int)) Z).set (j+i) (Ad d)=blk A (N2.set i d) ((p2:Int)-(c:Int)) Z:=by
      have:=Xt (A:=A) (Z:=Z) (top:=(p2:Int)-(c:Int)) (i:=i) (d:=d) (N:=N2) (by omega)
      rwa [hA]at this
     have wij:IntKind.i64.wrap ((i:Int)+(j:Int))=((j+i:Nat):Int):=by rw[wI (by omega) (by omega)];omega
     have wi:IntKind.i64.wrap ((i:Int)+1)=((i+1:Nat):Int):=wI (by omega) (by omega);clear hI2 hI J hVW vPn ht2 ht3 hdl;refine Ap ?_;refine AC.seq ?_;refine AC.block ?_;refine AC.seq ?_;refine B8 w1 3500 [0,1,2,3,4,5,6,7,8,9,10,11] [12,13] (by kernel_rfl) ?_;refine AE (BW wij kN BP hz') ?_;refine Br kT hx' ?_;refine AE (At kN k1 k2) ?_;refine sZ 3600 ?_;refine AE (CM wij kN BP hz' k3) ?_;rw[hset];refine Aq w1 3700 (by kernel_rfl) ?_;refine AV k4 ?_;refine Aq w1 3400 (by kernel_rfl) ?_;refine AV wi ?_;exact⟨(i+1,c',N2.set i d,_),⟨hi2,cl,by dsimp only;rw[C9];exact hNl2,hNw2.set dl,hI'⟩,by dsimp only;omega,AL⟩
    ·have hi2:i=m+2:=by
      have:=DN hlt2
      omega
     subst hi2;rw[B9 (by omega)]at hI2;have hNlt2:=F5 hNw2;rw[hNl2]at hNlt2;obtain⟨t0,g1,g2,g3⟩:=nW hI vPn h hNlt ht3 hI2 hc2 hNlt2 hVW;have htop3:=TH (A:=A) (Z:=Z) (top:=(p2:Int)-(c:Int)) hNl2;have hstop3:=XB (A:=A) (Z:=Z) (top:=(p2:Int)-(c:Int)) (t:=((0:Nat):Int)) hNl2;rw[hA]at htop3 hstop3;have wfin:IntKind.i64.wrap ((p2:Int)-(c:Int)+(c2:Int))=((0:Nat):Int):=by rw[g3];rfl
     have et:(t:Int)-1=((t-1:Nat):Int):=by omega
     obtain⟨f1,f2,f3⟩:=aI (P:=P) (V:=AP v) hNl2 hNw2 (z:=0) (by decide) (by rw[EX,DY];exact g2.symm);have J1:=J _ f1 f2 f3;rw[g1]at J1;refine CA ?_;refine Aq w1 3800 (by kernel_rfl) ?_;refine AE (CM wjn kN BP htop3 wfin) ?_;rw[hstop3,TG,et];refine Aq w1 3900 (by kernel_rfl) ?_;refine AE (At kN BP hzq') ?_;rw[Mi];refine Aq w1 1500 (by kernel_rfl) ?_;refine AV wi' ?_;exact⟨(j,A++((N2++[0])++Z),q.set j (t-1),_),⟨by dsimp only;omega,J1⟩,by dsimp only;omega,AL⟩
   ·have e29:decide ((p2:Int)-(c:Int)<0)=false:=Ah (by omega)
    obtain⟨g1,g2⟩:=nV hI vPn h ht2;have ezc:(p2:Int)-(c:Int)=((p2-c:Nat):Int):=by omega
    obtain⟨f1,f2,f3⟩:=aI hNl hNw (z:=p2-c) (by omega) g2.symm;have J1:=J _ f1 f2 f3;rw[g1]at J1;refine AC.seq ?_;refine sZ 2900 ?_;refine AE (CM wjn kN BP htop2 e29) ?_;refine AO ?_;refine Ap ?_;rw[ezc,TG];refine Aq w1 3900 (by kernel_rfl) ?_;refine AE (At kN BP hzq') ?_;rw[Mi];refine Aq w1 1500 (by kernel_rfl) ?_;refine AV wi' ?_;exact⟨(j,A++((N++[p2-c])++Z),q.set j t,_),⟨by dsimp only;omega,J1⟩,by dsimp only;omega,AL⟩
 ·have hk:k=0:=by
   have:¬((k:Int)-1>=0):=by simpa using h20
   omega
  subst hk;obtain⟨q1,q2⟩:=jP f0 I vv;have wu:=I.wU;have wqq:=I.wq;have lu:=I.lU;have lqq:=I.lQ;have hlt:AP u<RB^(m+2):=by
   have:=I.less
   rw[Fd]at this;have h:=F5 wv;rw[show v.length=m+2 from hvl]at h;omega
  have hta:=gh hlt (by omega);have hll:=K3 hlt;rw[q2]at hll hta;have ed:a%b*f/f=a%b:=Nat.mul_div_cancel _ f0;have cd:=Vl (a%b*f) f f0 fl (by omega);rw[ed]at cd;clear I;refine CA ?_;refine AC.weak ⟨[(8,.sl true 1 [Ad f]),(10,i64 ((m+2:Nat):Int)),(11,.sl false 1 (u.map Ad)),(12,.sl false 1 (q.map Ad))],[],_⟩ ⟨.drop (.drop .nil),⟨.refl _,.refl _,TV lu,TV lqq,trivial⟩,Ai _⟩ ?_;have e5:List.take (m+2) (u.map Ad)=(u.take (m+2)).map Ad:=by
   rw[List.map_take]
  have eu2:(u.map Ad).length=la.length+1:=by rw[Am];omega
  have ct:=LW (u.take (m+2)) (wu.take _) (by rw[Bf];omega);rw[hta]at ct;refine AC.seq ?_;refine B8 w1 4000 [0,1,2,3,4,5,6,7,8,9,10,11] [12] (by kernel_rfl) ?_;refine AE (BW kN Nat.sub_zero (@Fd D) e5) ?_;refine BX.same _ ct AJ ?_;have hf0:([Ad f]:List D)[0]?=some (Ad f):=rfl;refine AE kN ?_;refine Br kT hf0 ?_;refine AE kN ?_;refine BX.same _ cd AJ ?_;refine AE kN ?_;refine sR 4100 ?_;refine BF.same _ (LW q wqq (by omega)) AJ ?_;refine BO ?_;refine Al ?_;exact AN (by rw[q1]) AA.out
theorem Us (a b:Nat)(hb:b≠0)(ha:(Aa a).length<1000000)(hbl:(Aa b).length<1000000):AK C0 176 [rD a,rD b] (.tup [rD (a/b),rD (a%b)]):=by
 rcases BG a b with h|h
 ·exact jQ a b h ha hbl
 ·rcases hl:(Aa b).length with _|m
  ·have:=Ib b
   rw[hl]at this;simp at this;exact AZ this hb
  ·rcases m with _|m
   ·exact lE a b h ha hl hb
   ·exact jR a b m h ha hl
abbrev rZ (z:Int):D:=.agg [As (decide (z<0)),rD z.natAbs]
def sg (neg:Bool)(n:Nat):Int:=if neg then -(n:Int)else n
theorem jz {n:Nat}:0<(Aa n).length↔n≠0:=by
 constructor
 ·rintro h rfl
  rw[GU]at h;cases h
 ·intro h
  rw[Id h,Bo];exact Nat.succ_pos _
theorem We (n:Nat):decide (((((Aa n).map Ad).length:Nat):Int)>0)=decide (n≠0):=by
 have:=@jz n
 rw[Am];exact Cz.2 ⟨λh=>this.1 (by omega),λh=>by have:=this.2 h;omega⟩
theorem vQ (neg:Bool)(n:Nat):rZ (sg neg n)=.agg [As (neg&&decide (n≠0)),rD n]:=by
 unfold rZ sg;cases neg
 ·simp only[Hi,if_false,I1,EO]
  rw[Ah (by omega)]
 ·simp only[if_true,Hj,L2,EO]
  congr 3
  exact Cz.2 (by omega)
theorem Qs (z:Int):sg (decide (z<0)) z.natAbs=z:=by
 unfold sg
 by_cases h:z<0
 ·rw[AY h,AH rfl];omega
 ·rw[Ah h,AG (by decide)];omega
theorem T3 (b:Bool)(n:Nat):B7 (.agg [As b,.sl false 1 ((Aa n).map Ad)]):=.agg λd hd=>by
 simp only[BA,DM,or_false]at hd;rcases hd with rfl|rfl
 ·exact .prim _
 ·exact N5 _
def Ge (z:Int):Prop:=(Aa z.natAbs).length<1000000
instance  (b:Bool)(n:Nat):AA (.agg [As b,rD n]):=⟨T3 b n⟩
theorem XE (a b:Nat)(fa:(Aa a).length<1000000)(fb:(Aa b).length<1000000):AK C0 175 [rD a,rD b] (rD (Nat.gcd a b)):=by
 refine Ak.walk w1 oy rfl λF=>?_
 change AC C0 F none F _ ⟨DJ 0 [.sl false 1 ((Aa a).map Ad),.sl false 1 ((Aa b).map Ad)],[],0⟩ _;refine sR 0 ?_;refine AC.seq ?_;refine AC.block ?_;refine AC.loop (α:=Nat×Nat×Nat) (λp=>⟨[(0,.sl false 1 ((Aa p.1).map Ad)),(1,.sl false 1 ((Aa p.2.1).map Ad))],[],p.2.2⟩) (λp=>p.2.1)
  (λp=>Nat.gcd p.1 p.2.1=Nat.gcd a b/\(Aa p.1).length<1000000/\(Aa p.2.1).length<1000000) (a,b,_) ⟨rfl,fa,fb⟩ AL ?_
 rintro⟨x,y,n⟩ F ⟨h1,h2,h3⟩;dsimp only at h1 h2 h3⊢;have et:=We y;refine AC.seq ?_;refine sZ 100 ?_;refine AV et ?_
 by_cases hy:y=0
 ·rw[Ah (by simpa using hy)]
  subst hy;refine AO ?_;refine CA ?_;refine sR 400 ?_;refine Al ?_;refine AN (d0:=rD x) ?_ AA.out;rw[<-h1,Nat.gcd_zero_right]
 ·rw[AY hy]
  have cd:=Us x y hy h2 h3;refine AO ?_;refine Ap ?_;refine AC.block ?_;refine sR 200 ?_;refine cI cd ?_;refine rI 300 ?_;refine⟨(y,x%y,_),⟨?_,h3,?_⟩,B5 x (by omega),AL⟩
  ·dsimp only
   rw[<-h1,NL x y,Nat.gcd_rec y x,NL]
  ·exact DW (Ia _ _ (Nat.mod_le x y)) h2
theorem XZ (neg:Bool)(l:List Nat)(h:Rd l)(hl:l.length<1000000000):AK C0 177 [As neg,rL l] (rZ (sg neg (AP l))):=by
 refine Ak.walk w1 Zy rfl λF=>?_
 rw[vQ];have ct:=LW l h (by omega);generalize AP l=n at*;have et:=We n;unfold rD at ct⊢;unfold rL at ct⊢;refine sR 0 ?_;refine sR 100 ?_;refine cI ct ?_;refine AC.seq ?_;cases neg
 ·refine Aq w1 200 (by kernel_rfl) ?_
  refine AE et ?_;refine Al ?_;exact AN (by simp) (T3 _ n)
 ·refine Aq w1 200 (by kernel_rfl) ?_
  refine AE et ?_;refine Al ?_;exact AN (by simp) (T3 _ n)
theorem LJ (neg:Bool)(n:Nat)(h:(Aa n).length<1000000000):AK C0 177 [As neg,rD n] (rZ (sg neg n)):=by
 have:=XZ neg (Aa n) (Ea n) h
 rwa [D3]at this
theorem X6 (z:Int)(h:Ge z):AK C0 174 [rZ z] (rZ (-z)):=by
 have cs:=LJ (!decide (z<0)) z.natAbs (Ft h (by decide));have e:rZ (sg (!decide (z<0)) z.natAbs)=rZ (-z):=by
  congr 1
  unfold sg
  by_cases hz:z<0
  ·rw[AY hz];simp;omega
  ·rw[Ah hz];simp;omega
 rw[e]at cs;refine Ak.walk w1 ox rfl λF=>?_
 refine sR 0 ?_;refine sR 100 ?_;refine cI cs ?_;refine Al ?_;exact AN rfl AA.out
theorem TF (x y:Int)(hx:Ge x)(hy:Ge y):AK C0 125 [rZ x,rZ y] (rZ (x*y)):=by
 have cm:=UO x.natAbs y.natAbs hx hy;have hl:(Aa (x.natAbs*y.natAbs)).length<1000000000:=DW (Rx _ _) (by unfold Ge at hx hy;omega);have cs:=λb=>LJ b (x.natAbs*y.natAbs) hl
 have e:sg (decide (x<0) != decide (y<0)) (x.natAbs*y.natAbs)=x*y:=by
  conv=>rhs;rw[<-Qs x,<-Qs y]
  generalize decide (x<0)=a;generalize decide (y<0)=b;unfold sg;cases a<;>cases b<;>simp[Int.neg_mul,Int.mul_neg]
 rw[<-e];refine Ak.walk w1 qC rfl λF=>?_
 refine sR 0 ?_;refine AC.seq ?_;refine B8 w1 100 [0,1,2,3,4,5,6,7,8,9] [10,11] (by kernel_rfl) ?_;refine AE kN ?_;refine BX.same _ cm AJ ?_;refine AE kN ?_;refine BF.same _ (cs _) AJ ?_;refine BO ?_;refine Al ?_;exact AN rfl AA.out
theorem jg {a b:Nat}(h:b<=a):decide (Du (a:Int) (b:Int)>=0)=true:=AY (by unfold Du;split<;>(try split)<;>omega)
theorem jh {a b:Nat}(h:a<b):decide (Du (a:Int) (b:Int)>=0)=false:=Ah (by unfold Du;split<;>(try split)<;>omega)
theorem sS (x y:Int)(hx:Ge x)(hy:Ge y):AK C0 225 [rZ x,rZ y] (rZ (x+y)):=by
 refine Ak.walk w1 rE rfl λF=>?_
 unfold Ge at hx hy;cases hs:(decide (x<0)==decide (y<0))
 ·have hs':decide (x<0)≠decide (y<0):=by simpa using hs
  have hs2:(x<0/\¬y<0)\/(¬x<0/\y<0):=by
   by_cases h1:x<0<;>by_cases h2:y<0<;>simp_all
  have cc:=Q0 x.natAbs y.natAbs (by omega) (by omega);refine sR 0 ?_;refine AC.seq ?_;refine sZ 100 ?_;refine AV hs ?_;refine AO ?_;refine Ap ?_;refine AC.seq ?_;refine sR 300 ?_;refine cI cc ?_;rcases BG x.natAbs y.natAbs with h|h
  ·have cb:=bz y.natAbs x.natAbs (Jr h) hy
   have cs:=LJ (decide (y<0)) (y.natAbs-x.natAbs) (DW (VX _ _) (by omega));have e:sg (decide (y<0)) (y.natAbs-x.natAbs)=x+y:=by
    unfold sg
    by_cases hy0:y<0
    ·rw[AY hy0,AH rfl];omega
    ·rw[Ah hy0,AG (by decide)];omega
   rw[e]at cs;rw[jh h];refine AO ?_;refine Ap ?_;refine AC.seq ?_;refine B8 w1 500 [0,1,2,3,4,5,6] [7,8] (by kernel_rfl) ?_;refine AE kN ?_;refine BX.same _ cb AJ ?_;refine AE kN ?_;refine BF.same _ cs AJ ?_;refine BO ?_;refine Al ?_;exact AN rfl AA.out
  ·have cb:=bz x.natAbs y.natAbs h hx
   have cs:=LJ (decide (x<0)) (x.natAbs-y.natAbs) (DW (VX _ _) (by omega));have e:sg (decide (x<0)) (x.natAbs-y.natAbs)=x+y:=by
    unfold sg
    by_cases hx0:x<0
    ·rw[AY hx0,AH rfl];omega
    ·rw[Ah hx0,AG (by decide)];omega
   rw[e]at cs;rw[jg h];refine AO ?_;refine AC.seq ?_;refine B8 w1 400 [0,1,2,3,4,5,6] [7,8] (by kernel_rfl) ?_;refine AE kN ?_;refine BX.same _ cb AJ ?_;refine AE kN ?_;refine BF.same _ cs AJ ?_;refine BO ?_;refine Al ?_;exact AN rfl AA.out
 ·have hs':decide (x<0)=decide (y<0):=by simpa using hs
  have ca:=tR x.natAbs y.natAbs hx hy;have cs:=LJ (decide (x<0)) (x.natAbs+y.natAbs) (DW (VW _ _) (by omega));have e:sg (decide (x<0)) (x.natAbs+y.natAbs)=x+y:=by
   unfold sg
   by_cases hx0:x<0
   ·have hy0:y<0:=DA (hs'.symm.trans (AY hx0))
    rw[AY hx0,AH rfl];omega
   ·have hy0:¬y<0:=DN (hs'.symm.trans (Ah hx0))
    rw[Ah hx0,AG (by decide)];omega
  rw[e]at cs;refine sR 0 ?_;refine AC.seq ?_;refine sZ 100 ?_;refine AV hs ?_;refine AO ?_;refine AC.seq ?_;refine B8 w1 200 [0,1,2,3,4,5,6] [7,8] (by kernel_rfl) ?_;refine AE kN ?_;refine BX.same _ ca AJ ?_;refine AE kN ?_;refine BF.same _ cs AJ ?_;refine BO ?_;refine Al ?_;exact AN rfl AA.out
theorem fV (k m:Nat):Eo (k+1) m []=Eo k (m/10) []++[UInt8.ofNat (48+m%10)]:=by
 rw[<-VQ (k+1) m [] (.inr (Nat.succ_pos k))];unfold Eo Lt
 by_cases h:m/10=0
 ·rw[AH h,AH h];simp
 ·rw[AG h,AG h]
  rw[DX,Bk,GQ,Nat.add_sub_add_right,Do]
theorem TJ:∀(k hi d:Nat),hi≠0->d<10^k->Lib.decDigits (hi*10^k+d)=Lib.decDigits hi++Eo k d []
 | 0,hi,d,_,hd=>by
  have h0:d=0:=by simpa using hd
  subst h0;rw[L6,EB,DY];simp[Eo,Lt]
 |k+1,hi,d,hh,hd=>by
  have e1:hi*10^(k+1)=10*(hi*10^k):=by rw[CL,<-Bw,BS]
  have h1:1<=10^k:=Nat.pow_pos (by decide);have h2:1<=hi*10^k:=HI (Dy hh) h1;have h3:¬hi*10^(k+1)+d<10:=by omega
  have h4:d/10<10^k:=by rw[CL]at hd;omega
  rw[fV,<-Do,<-TJ k hi (d/10) hh h4];rw[Lib.decDigits,dif_neg h3,e1]
  congr 2
  ·omega
  ·congr 1;omega
theorem oG (hi d:Nat)(h:hi≠0)(hd:d<RB):Lib.decDigits (d+RB*hi)=Lib.decDigits hi++Eo 9 d []:=by
 have:=TJ 9 hi d h (CV hd (by decide))
 rw[<-this]
 congr 1
 rw[BS,Kp]
theorem N4 {l:List Nat}(h:Rd l):(Lib.decDigits (AP l)).length<=9*l.length+1:=by
 have h1:=F5 h;have e:RB^l.length=10^(9*l.length):=by rw[Nat.pow_mul]
 rw[e]at h1;refine MC _ _ (Ft h1 ?_);exact Nat.pow_lt_pow_right (by decide) (HF _)
theorem YJ (neg:Bool)(n:Nat)(h:neg=true->n≠0):Lib.itoa (sg neg n)=if neg then 45::Lib.decDigits n else Lib.decDigits n:=by
 unfold Lib.itoa sg;cases neg
 ·simp only[Hi,if_false]
  rw[AG (by omega)];rfl
 ·have:=h rfl
  simp only[if_true];rw[AH (by omega),L2];rfl
theorem tZ (neg:Bool)(n:Nat)(h:neg=true->n≠0)(hl:(Aa n).length<1000000):AK C0 126 [.agg [As neg,rD n]] (str (sb (Lib.itoa (sg neg n)))):=by
 refine Ak.walk w1 qD rfl λF=>?_
 rw[YJ neg n h];change AC C0 F none F _ ⟨DJ 0 [.agg [As neg,.sl false 1 ((Aa n).map Ad)]],[],0⟩ _;have vn:=D3 n;have wn:=Ea n;have tp:=λk a=>PT n (k:=k) (a:=a)
 generalize Aa n=l at*;subst vn;rcases hc:l.length with _|m
 ·have e0:l=[]:=ET hc
  subst e0;have hn:neg=false:=by cases neg;rfl;exact AZ rfl (h rfl)
  subst hn;have e1:Lib.decDigits (AP [])=[48]:=by unfold Lib.decDigits AP;rw[dif_pos (by decide)];rfl
  rw[AG (by decide),e1];refine sR 0 ?_;refine AC.seq ?_;refine sR 100 ?_;refine AO ?_;refine sR 200 ?_;refine Al ?_;exact AN rfl AA.out
 ·obtain⟨y,hy⟩:=CS (l:=l) (i:=m) (by omega)
  have yl:=wn y (A0 hy);have y0:=tp m y hc hy;have hy':=Dl hy;have el:(((l.map Ad).length:Nat):Int)=((m+1:Nat):Int):=by rw[Am,hc]
  have et:(((m+1:Nat):Int)==0)=false:=Bq.2 (by omega);have w0:IntKind.i64.wrap (((m+1:Nat):Int)-1)=(m:Int):=by rw[wI (by omega) (by omega)];omega
  have w2:IntKind.i64.wrap (((m+1:Nat):Int)-2)=(m:Int)-1:=by rw[wI (by omega) (by omega)];omega
  have cd:=PY y 1 (by unfold RB at yl;omega);rw[Xy]at cd;have wr0:IntKind.i64.wrap ((((l.map Ad).length:Nat):Int)-1)=(m:Int):=by rw[el,w0]
  have ed:l.drop m=[y]:=by
   rw[EI (by omega),HG (by omega)];rw[BI (by omega)]at hy;rw[Fc hy]
  refine sR 0 ?_;refine AC.seq ?_;refine sZ 100 ?_;refine AV (Ac el et) ?_;refine AO ?_;refine Ap ?_;refine sZ 300 ?_;refine AE (BW el w0 wr0 kN) ?_;refine Br kT hy' ?_;refine AE kN ?_;refine BF.same _ cd AJ ?_;refine BO ?_;have ev:AP (l.drop m)=y:=by rw[ed];simp[AP]
  refine AC.seq ?_;refine sZ 400 ?_;refine AV (Ac el w2) ?_;refine AC.block ?_;refine AC.loop (α:=Nat×Nat) (λp=>⟨[(1,.optr 0 0 2 0 0),(3,str (sb (Lib.decDigits (AP (l.drop p.1))))),(4,i64 ((p.1:Int)-1))],[⟨0,0,165,2,[.agg [As neg,.sl false 1 (l.map Ad)]]⟩],p.2⟩) (λp=>p.1)
   (λp=>p.1<=m/\AP (l.drop p.1)≠0) (m,_) ⟨Ai _,by dsimp only;rw[ev];exact y0⟩ (by dsimp only;rw[ev];exact AL) ?_
  rintro⟨k,n1⟩ F ⟨h1,h2⟩;dsimp only at h1 h2⊢;clear cd;refine AC.seq ?_;refine sR 500 ?_;refine AO ?_
  (refine Bv (λh20=>?_) (λh20=>?_))<;>(try simp only[Bi,Bs]at h20)<;>(try simp only[h20])
  ·obtain⟨j,rfl⟩:∃j,k=j+1:=⟨k-1,by
    have:(k:Int)-1>=0:=by simpa using h20
    omega⟩
   have wj:((j+1:Nat):Int)-1=(j:Int):=by omega
   obtain⟨d,hd⟩:=CS (l:=l) (i:=j) (by omega);have hd':=Dl hd;have dl:=wn d (A0 hd);have c9:=PY d 9 (by unfold RB at dl;omega);have eD:Lib.decDigits (AP (l.drop (j+1)))++Eo 9 d []=Lib.decDigits (AP (l.drop j)):=by rw[Pb hd,oG _ _ h2 dl]
   have hlen:=N4 (l:=l.drop j) λa ha=>wn a (Kr ha)
   rw[<-eD,Bk,Dz]at hlen;have h3:AP (l.drop j)≠0:=by
    rw[Pb hd]
    have:0<RB*AP (l.drop (j+1)):=HI (by decide) (Dy h2)
    omega
   have z1:=Ce (Lib.decDigits (AP (l.drop (j+1))));have z2:=Nz (Eo 9 d []);have wi:IntKind.i64.wrap ((j:Int)-1)=(j:Int)-1:=wI (by omega) (by omega);rw[wj];refine Ap ?_;refine AC.seq ?_;refine AC.block ?_;refine Aq w1 700 (by kernel_rfl) ?_;refine AE kN ?_;refine Br kT hd' ?_;refine AE kN ?_;refine BF.same _ c9 AJ ?_;refine BO ?_;rw[Il,eD];refine Aq w1 600 (by kernel_rfl) ?_;refine AV wi ?_;exact⟨(j,_),⟨by dsimp only;omega,h3⟩,by dsimp only;omega,AL⟩
  ·have hk:k=0:=by
    have:¬((k:Int)-1>=0):=by simpa using h20
    omega
   subst hk;rw[Fd]at h2⊢;have hlen:=N4 wn;have z1:=Ce (Lib.decDigits (AP l));have z2:(⟨#[45]⟩:ByteArray).size=1:=rfl;refine CA ?_;refine AC.seq ?_;refine AC.seq ?_;cases neg
   ·refine rI 800 ?_
    refine AO ?_;refine Ap ?_;rw[AG (by decide)];refine sR 1000 ?_;refine Al ?_;exact AN rfl AA.out
   ·refine rI 800 ?_
    refine AO ?_;rw[AH rfl];refine sR 900 ?_;refine Al ?_;refine AN ?_ AA.out;show str ((⟨([45]:List UInt8).toArray⟩:ByteArray)++⟨(Lib.decDigits (AP l)).toArray⟩)=_;rw[Il];rfl
theorem aR (z:Int)(h:Ge z):AK C0 126 [rZ z] (str (sb (Lib.itoa z))):=by
 have:=tZ (decide (z<0)) z.natAbs (λh=>by have:=DA h;omega) h
 rwa [Qs]at this
theorem CO.give {C:A8}{f:Nat}{ds ds':List D}{Φ:D->Prop}{H:Hp}{n:Nat}(Hf:Hp)(hc:Ak C f ds' Φ)(hH:Cb H Hf H Hf)(hv:EY H Hf ds ds')
  (hp:Aj ds'):CO C f ds H n (λd' H' n'=>Φ d'/\H'=Hf/\n'=n+1):=by
 refine⟨hc.1,λF ρ w vs m hfr hg hvs hr=>?_⟩;obtain⟨m',hO,hN⟩:=hH.mem m;obtain⟨l1,l2⟩:=hv.spec;refine(hc.2 (AM F.X ρ Hf) w vs m.g (BR m.gn m.size) (λb hb=>m'.own_lt hb) (by omega) λi x hx=>?_).mono ?_
 ·have hi:i<ds'.length:=(List.getElem?_eq_some_iff.1 hx).1
  have hd0:ds[i]?=some ds[i]:=BI (by omega);exact hp.out x (A0 hx) _ _ _ _ _ ((l2 i _ x hd0 hx).rep m hO hN (hr i _ hd0))
 ·rintro e w' ⟨v,d',rfl,hb,hd',rep⟩
  have hb2:∀(b:Nat) (cs:Array Value) (T:Nat) (fz:Nat×Nat),w.heap[b]?=some (.cells cs T fz)->∃(cs':Array Value) (fz':Nat×Nat),w'.heap[b]?=some (.cells cs' T fz')/\cs'.size=cs.size:=λb cs T fz hh=>⟨cs,_,by
   rw[hb.block b (Array.getElem?_eq_some_iff.1 hh).1];exact hh,rfl⟩
  have x:BQ ρ (AM F.X ρ H) w ρ (AM F.X ρ Hf) w':=⟨hb.size,λ_ _ _ h=>h,λb hb' hO2=>⟨λh=>hO2 (hO b h),hb.block b hb'⟩,hb2⟩
  have x':BQ ρ (AM F.X ρ Hf) w ρ (AM F.X ρ Hf) w':=⟨hb.size,λ_ _ _ h=>h,λb hb' hO2=>⟨hO2,hb.block b hb'⟩,hb2⟩
  refine⟨v,_,Hf,n+1,ρ,rfl,⟨hd',rfl,rfl⟩,m'.same x' hb.os hb.tape hb.output hb.block,x,λk g hg'=>hfr k g (by omega),λe he=>?_,rep.mono ⟨Ai _,λ_ _ _ h=>(by cases h),λb _ hO2=>⟨hO2,rfl⟩,λb cs T fz h=>⟨cs,_,h,rfl⟩⟩⟩;obtain⟨e',h1,h2,h3,_⟩:=hH.names e he
  have:=hg e' h1
  omega
theorem gl {l:List UInt8}{i:Nat}{c:UInt8}(hc:l[i]?=some c)(hi:i<=BJ l):(((c.toNat:Nat):Int)==47)=decide (i=BJ l):=by
 have e1:(((c.toNat:Nat):Int)==47)=(c==47):=by
  rw[Fu,EA,EA,<-UInt8.toNat_inj];exact⟨λh=>(show c.toNat=47 by omega),λh=>by rw[h];rfl⟩
 rw[e1];unfold BJ at hi⊢;clear e1
 induction l generalizing i with
 |nil=>cases hc
 |cons a l ih=>
  rw[O0]at hi⊢;cases i with
  |zero=>
   cases hc
   by_cases h:c=47
   ·subst h;rfl
   ·have h1:(c != 47)=true:=by simpa using h
    have h2:(c==47)=false:=by simpa using h
    rw[AH h1,h2,Bo,Ah (by omega)]
  |succ i=>
   by_cases h:a=47
   ·subst h
    exact AZ hi (by simp)
   ·have h1:(a != 47)=true:=by simpa using h
    rw[AH h1,Bo]at hi⊢;rw[ih hc (by omega)];exact Cz.2 (by omega)
theorem QU (l:List UInt8)(h:l.all Be=true)(hl:l.length<=18):AK C0 170 [str (sb l)] (i64 (dv l:Int)):=by
 refine Ak.walk w1 ot rfl λF=>?_
 have hsz:=Ce l;refine sR 0 ?_;refine sR 100 ?_;refine AC.seq ?_;refine sR 200 ?_;refine AC.block ?_;refine AC.loop (α:=Nat×Nat) (λp=>⟨[(0,str (sb l)),(3,i64 (dv (l.take p.1):Int)),(4,i64 (p.1:Int))],[],p.2⟩) (λp=>l.length-p.1) (λp=>p.1<=l.length) (0,_) (BU _) AL ?_;rintro⟨i,n⟩ F hi;dsimp only at hi⊢;refine AC.seq ?_;refine sZ 300 ?_;refine AV hsz ?_;refine AO ?_
 (refine Bv (λhlt=>?_) (λhlt=>?_))<;>(try simp only[Bi,Bs]at hlt)<;>(try simp only[hlt])
 ·have hi2:i<l.length:=by
   have:=DA hlt
   omega
  obtain⟨c,hc⟩:∃c,l[i]?=some c:=⟨l[i],BI hi2⟩
  have hcd:Be c=true:=CQ.1 h c (A0 hc);obtain⟨c1,c2⟩:=K6 hcd;have hg:(sb l).data.toList.getD i 0=c:=by
   show(l.toArray.toList).getD i 0=c;simp[hc]
  have hdl:dv (l.take i)<10^17:=by
   have:=GB (l.take i) (CQ.2 λa ha=>CQ.1 h a (IT ha))
   rw[Bf,E4 hi]at this;exact CV this (FN (by decide) (by omega))
  have hnx:dv (l.take (i+1))=dv (l.take i)*10+(c.toNat-48):=by
   rw[Dh,hc];show dv (l.take i++[c])=_;rw[Np];simp[dv,Gh]
  have k1:IntKind.i64.wrap (10*(dv (l.take i):Int))=((10*dv (l.take i):Nat):Int):=by rw[wI (by omega) (by omega)];omega
  have k2:IntKind.i64.wrap ((c.toNat:Nat):Int)=((c.toNat:Nat):Int):=wI (by omega) (by omega);have k3:IntKind.i64.wrap (((10*dv (l.take i):Nat):Int)+((c.toNat:Nat):Int))=((10*dv (l.take i)+c.toNat:Nat):Int):=by rw[wI (by omega) (by omega)];omega
  have k4:IntKind.i64.wrap (((10*dv (l.take i)+c.toNat:Nat):Int)-48)=((dv (l.take (i+1)):Nat):Int):=by rw[hnx,wI (by omega) (by omega)];omega
  have wi:IntKind.i64.wrap ((i:Int)+1)=((i+1:Nat):Int):=wI (by omega) (by omega);refine Ap ?_;refine AC.seq ?_;refine AC.block ?_;refine Aq w1 500 (by kernel_rfl) ?_;refine AV (D2 kN hg k1 k2 k3 k4) ?_;refine Aq w1 400 (by kernel_rfl) ?_;refine AV wi ?_;exact⟨(i+1,_),hi2,by dsimp only;omega,AL⟩
 ·have hi2:i=l.length:=by
   have:=DN hlt
   omega
  subst hi2;rw[B9 (Ai _)];refine CA ?_;refine sR 600 ?_;refine Al ?_;exact AN rfl AA.out
theorem TC (l:List UInt8)(hl:l.length<=1000000000):AK C0 169 [str (sb l)] (i64 (BJ l:Int)):=by
 refine Ak.walk w1 oq rfl λF=>?_
 have hsz:=Ce l;refine sR 0 ?_;refine AC.seq ?_;refine sR 100 ?_;refine AC.block ?_;refine AC.loop (α:=Nat×Nat) (λp=>⟨[(0,str (sb l)),(3,i64 (p.1:Int))],[],p.2⟩) (λp=>l.length-p.1) (λp=>p.1<=BJ l) (0,_) (BU _) AL ?_;rintro⟨i,n⟩ F hi;dsimp only at hi⊢;have hsl:=K9 l;refine AC.seq ?_;refine sZ 200 ?_;refine AV hsz ?_;refine AO ?_
 (refine Bv (λhlt=>?_) (λhlt=>?_))<;>(try simp only[Bi,Bs]at hlt)<;>(try simp only[hlt])
 ·have hi2:i<l.length:=by
   have:=DA hlt
   omega
  obtain⟨c,hc⟩:∃c,l[i]?=some c:=⟨l[i],BI hi2⟩
  have hg:(sb l).data.toList.getD i 0=c:=by
   show(l.toArray.toList).getD i 0=c;simp[hc]
  have wi:IntKind.i64.wrap ((i:Int)+1)=((i+1:Nat):Int):=wI (by omega) (by omega);have ht:(((c.toNat:Nat):Int)==47)=decide (i=BJ l):=gl hc hi;refine Ap ?_;refine AC.seq ?_;refine AC.block ?_;refine sZ 400 ?_;refine AV (At kN hg ht) ?_
  by_cases he:i=BJ l
  ·rw[AY he]
   refine AO ?_;refine sR 500 ?_;refine Al ?_;exact AN (by rw[he]) AA.out
  ·rw[Ah he]
   refine AO ?_;refine Ap ?_;refine Aq w1 300 (by kernel_rfl) ?_;refine AV wi ?_;exact⟨(i+1,_),by dsimp only;omega,by dsimp only;omega,AL⟩
 ·have hi2:i=l.length:=by
   have:=DN hlt
   omega
  refine CA ?_;refine sZ 600 ?_;refine AV hsz ?_;refine Al ?_;exact AN (by congr 3;omega) AA.out
theorem Wy {H Hf:Hp}{K g T:Nat}{l:List Nat}{N:Nat}(hl:l.length=N)(he:Hp.get H K=some ⟨K,g,T,1,l.map Ad⟩:=by exact rfl)(hn:Hp.get Hf K=none:=by exact rfl):Fz H Hf (.osl K g 1 0 N) (.sl false 1 (l.map Ad)):=by
 subst hl;have key:∀(j:Nat) (d d':D),(l.map Ad)[0+j]?=some d->(l.map Ad)[j]?=some d'->d=d':=λj d d' h1 h2=>by
  rw[BP]at h1;rw[h1]at h2;exact Fc h2
 refine .osl (e:=⟨K,g,T,1,l.map Ad⟩) he hn rfl rfl (by simp) (by simp) (λj d d' h1 h2=>by rw[key j d d' h1 h2]) λj d d' q c c' h1 h2 h3 h4=>?_
 rw[key j d d' h1 h2]at h3;rw[h3]at h4;cases h4;exact Fz.refl _
theorem Px (c:UInt8)(l:List UInt8):(((c.toNat:Nat):Int)==45)=DK (c::l):=by
 show _=(c==45);rw[Fu,EA,EA,<-UInt8.toNat_inj];exact⟨λh=>(show c.toNat=45 by omega),λh=>by rw[h];rfl⟩
abbrev Ms:Au:=⟨0,0,165,2,[.agg [As false,CK]]⟩
theorem oJ {x:List UInt8}(h:9<x.length):dv x=dv (x.take (x.length-9))*RB+dv (x.drop (x.length-9)):=by
 conv=>lhs;rw[<-Ez (x.length-9) x,Np,Dz,show x.length-(x.length-9)=9 by omega]
theorem sU (A B t n v:Nat):(A*B+t)*B^n+v=A*B^(n+1)+(v+B^n*t):=by
 rw[Bu,Bw,CL,BS B,BS t];omega
theorem V6 {x x0:List UInt8}{w:List Nat}(h9:9<x.length)(g1:x.all Be=true)(g2:x.length+w.length*9=x0.length)(g3:Rd w)(g4:dv x0=dv x*RB^w.length+AP w):
  (x.take (x.length-9)).all Be=true/\(x.take (x.length-9)).length+(w++[dv (x.drop (x.length-9))]).length*9=x0.length/\Rd (w++[dv (x.drop (x.length-9))]) /\
  dv x0=dv (x.take (x.length-9))*RB^(w++[dv (x.drop (x.length-9))]).length+AP (w++[dv (x.drop (x.length-9))]):=by
 refine⟨CQ.2 λa ha=>CQ.1 g1 a (IT ha),?_,Rd.append g3 λa ha=>?_,?_⟩
 ·rw[Bf,Bk,GQ];omega
 ·simp only[BA,DM,or_false]at ha
  subst ha
  have:=GB (x.drop (x.length-9)) (CQ.2 λa ha=>CQ.1 g1 a (Kr ha))
  rwa [Dz,show x.length-(x.length-9)=9 by omega]at this
 ·rw[g4,oJ h9,Gr rfl,Bk,GQ]
  exact sU _ _ _ _ _
theorem jH {x x0:List UInt8}{w:List Nat}(h9:x.length<=9)(g1:x.all Be=true)(g3:Rd w)(g4:dv x0=dv x*RB^w.length+AP w):Rd (w++[dv x])/\AP (w++[dv x])=dv x0:=by
 refine⟨Rd.append g3 λa ha=>?_,?_⟩
 ·simp only[BA,DM,or_false]at ha
  subst ha;exact CV (GB x g1) (FN (by decide) h9)
 ·rw[g4,Gr rfl,BS,Kp]
theorem Xi {w:List Nat}{a:Nat}:List.take w.length (w.map Ad)++[i64 (a:Int)]=(w++[a]).map Ad:=by
 rw[B9 (by rw[Am];exact Ai _),Cv];rfl
theorem YW (l:List UInt8)(hd:(Bn l).all Be=true)(hl:l.length<=1000000):AK C0 173 [str (sb l)] (rZ (rv l)):=by
 have er:rv l=sg (DK l) (dv (Bn l)):=rfl;rw[er];refine Ak.walk w1 ow rfl λF=>?_
 have hsz:=Ce l;have hdl:(Bn l).length<=l.length:=by
  unfold Bn;split
  ·rw[Dz];omega
  ·exact Ai _
 refine sR 0 ?_;refine Cu (α:=Nat) (λn=>⟨[(0,str (sb l)),(2,.optr 0 0 2 0 0),(3,As (DK l))],[Ms],n⟩) (λ_=>True) ?_ ?_
 ·cases l with
  |nil=>
   have e0:(sb []).size=0:=rfl;have e1:decide (((0:Nat):Int)>0)=false:=rfl;refine Aq w1 100 (by kernel_rfl) ?_;refine AE (Ac e0 e1) ?_;refine AE (Ac kF e1) ?_;exact⟨trivial,_,trivial,AL⟩
  |cons c l=>
   have hpos:(sb (c::l)).size=l.length+1:=hsz;have e0:decide (((sb (c::l)).size:Int)>0)=true:=AY (by omega);have e1:((((c::l).getD (Int.toNat 0) 0).toNat:Int)==45)=DK (c::l):=Px c l;refine Aq w1 100 (by kernel_rfl) ?_;refine AE e0 ?_;refine AE (At kT e0 e1) ?_;exact⟨trivial,_,trivial,AL⟩
 rintro n0 -;refine Cu (α:=Nat) (λn=>⟨[(0,str (sb (Bn l))),(2,.optr 0 0 2 0 0),(3,As (DK l))],[Ms],n⟩) (λ_=>True) ?_ ?_
 ·refine sR 200 ?_
  cases hb:DK l
  ·have ed:Bn l=l:=by unfold Bn;rw[hb];rfl
   rw[ed];refine AO ?_;refine Ap ?_;exact⟨rfl,_,trivial,AL⟩
  ·have ed:Bn l=l.drop 1:=by unfold Bn;rw[hb];rfl
   have hl0:1<=l.length:=by
    cases l with
    |nil=>cases hb
    |cons c l=>rw[Bo];omega
   have ee:(sb l).extract (Int.toNat 1) l.length=sb (Bn l):=by
    rw[Ep,B9 (Ai _),ed];rfl
   refine AO ?_;refine Aq w1 300 (by kernel_rfl) ?_;refine AE (Ac hsz kN) ?_;rw[ee];exact⟨trivial,_,trivial,AL⟩
 rintro n1 -;generalize DK l=neg at*;generalize Bn l=x0 at*;clear er hsz;have hx0:x0.length<=1000000:=BR hdl hl;clear hdl hl l;refine sR 400 ?_;refine AC.seq ?_;refine AC.block ?_;refine AC.loop (α:=Bool×List UInt8×List Nat×Nat×Nat) (λp=>match p with
  |(false,x,_,_,n)=>⟨[(0,str (sb x)),(2,.optr 0 0 2 0 0),(3,As neg),(4,CK)],[Ms],n⟩
  |(true,x,w,g,n)=>⟨[(0,str (sb x)),(2,.optr 0 0 2 0 0),(3,As neg),(4,.osl 608 g 1 0 w.length)],[⟨608,g,3,1,w.map Ad⟩,Ms],n⟩) (λp=>p.2.1.length)
  (λp=>p.2.1.all Be=true/\p.2.1.length+p.2.2.1.length*9=x0.length/\Rd p.2.2.1/\dv x0=dv p.2.1*RB^p.2.2.1.length+AP p.2.2.1/\(p.1=false->p.2.2.1=[]))
  (false,x0,[],0,_) ⟨hd,rfl,(λa ha=>by cases ha),by simp[AP],λ_=>rfl⟩ AL ?_
 rintro⟨t,x,w,g,n2⟩ F ⟨g1,g2,g3,g4,g5⟩;dsimp only at g1 g2 g3 g4 g5;have hsz:=Ce x
 by_cases h9:9<x.length
 ·have ht:decide ((x.length:Int)>9)=true:=AY (by omega)
  have cv:=QU (x.drop (x.length-9)) (CQ.2 λa ha=>CQ.1 g1 a (Kr ha)) (by rw[Dz];omega);have wk:IntKind.i64.wrap ((x.length:Int)-9)=((x.length-9:Nat):Int):=by rw[wI (by omega) (by omega)];omega
  have wr:IntKind.i64.wrap (((sb x).size:Int)-9)=((x.length-9:Nat):Int):=by rw[hsz,wk]
  have e1:(sb x).extract (x.length-9) x.length=sb (x.drop (x.length-9)):=by rw[Ep,B9 (Ai _)]
  have e2:(sb x).extract 0 (x.length-9)=sb (x.take (x.length-9)):=by rw[Ep,Fd]
  cases t
  ·dsimp only
   obtain rfl:=g5 rfl;refine AC.seq ?_;refine sZ 500 ?_;refine AV (Ac hsz ht) ?_;refine AO ?_;refine Ap ?_;refine AC.block ?_;refine sZ 600 ?_;refine AE (CM hsz wk wr kN e1) ?_;refine BF.same _ cv AJ ?_;refine BO ?_;have J:=V6 h9 g1 g2 g3 g4;rw[FM]at J;refine Aq w1 700 (by kernel_rfl) ?_;refine AE (BW hsz wk wr kN) ?_;refine AE e2 ?_;exact⟨(true,x.take (x.length-9),[dv (x.drop (x.length-9))],n2+11,_),⟨J.1,J.2.1,J.2.2.1,J.2.2.2,λh=>by cases h⟩,by dsimp only;rw[Bf];omega,AL⟩
  ·dsimp only
   clear g5;have J:=V6 h9 g1 g2 g3 g4;have ew:(w.map Ad).length=w.length:=Am _;have el:w.length+1=(w++[dv (x.drop (x.length-9))]).length:=by rw[Bk];rfl
   refine AC.seq ?_;refine sZ 500 ?_;refine AV (Ac hsz ht) ?_;refine AO ?_;refine Ap ?_;refine AC.block ?_;refine sZ 600 ?_;refine AE (CM hsz wk wr kN e1) ?_;refine BF.same _ cv AJ ?_;refine BO ?_;rw[Xi,el];refine Aq w1 700 (by kernel_rfl) ?_;refine AE (BW hsz wk wr kN) ?_;refine AE e2 ?_;exact⟨(true,x.take (x.length-9),w++[dv (x.drop (x.length-9))],n2+11,_),⟨J.1,J.2.1,J.2.2.1,J.2.2.2,λh=>by cases h⟩,by dsimp only;rw[Bf];omega,AL⟩
 ·have ht:decide ((x.length:Int)>9)=false:=Ah (by omega)
  have cv:=QU x g1 (by omega);obtain⟨r1,r2⟩:=jH (by omega) g1 g3 g4;have cs:=XZ neg (w++[dv x]) r1 (by rw[Bk,GQ];omega);rw[r2]at cs;cases t
  ·dsimp only
   obtain rfl:=g5 rfl;refine AC.seq ?_;refine sZ 500 ?_;refine AV (Ac hsz ht) ?_;refine AO ?_;refine CA ?_;refine sR 800 ?_;refine BF.same _ cv AJ ?_;refine BO ?_;refine BF.own _ (CO.give [Ms] cs (.drop (.keep .nil)) ⟨.refl _,Wy rfl,trivial⟩ AJ) ?_;rintro d H' n' ⟨rfl,rfl,rfl⟩;refine BO ?_;refine Al ?_;exact AN rfl AA.out
  ·dsimp only
   clear g5;have ew:(w.map Ad).length=w.length:=Am _;have el:w.length+1=(w++[dv x]).length:=by rw[Bk];rfl
   refine AC.seq ?_;refine sZ 500 ?_;refine AV (Ac hsz ht) ?_;refine AO ?_;refine CA ?_;refine sR 800 ?_;refine BF.same _ cv AJ ?_;refine BO ?_;rw[Xi,el];refine BF.own _ (CO.give [Ms] cs (.drop (.keep .nil)) ⟨.refl _,Wy rfl,trivial⟩ AJ) ?_;rintro d H' n' ⟨rfl,rfl,rfl⟩;refine BO ?_;refine Al ?_;exact AN rfl AA.out
def U4 (o:Option D):Bool:=match o with
 |some (.agg [.prim (.bool false),.sl false 1 [.prim (.int .i64 1)]])=>true
 |_=>false
theorem jv {o:Option D}(h:U4 o=true):o=some (rZ 1):=by
 have h1:Aa 1=[1]:=PS (by decide) (by decide);unfold U4 at h;split at h
 ·show _=some (D.agg [As (decide ((1:Int)<0)),rL (Aa 1)])
  rw[h1];rfl
 ·cases h
theorem gL:U4 ((GR X1 1000 60).1 127 [i64 1])=true:=by kernel_rfl
theorem jp:AK C0 127 [i64 1] (rZ 1):=CE DV 1000 60 (jv gL)
def Ol (l:List UInt8):Int:=rv (Bz l)
def Ob (l:List UInt8):Int:=if Cr l then rv (BY l)else 1
instance  (x y:Int):AA (.tup [rZ x,rZ y]):=⟨.tup λd hd=>by
 simp only[BA,DM,or_false]at hd;rcases hd with rfl|rfl
 ·exact AA.out
 ·exact AA.out⟩
theorem S7 (l:List UInt8)(hn:(Bn (Bz l)).all Be=true)(hd:(Bn (BY l)).all Be=true)(hl:l.length<=1000000):AK C0 123 [str (sb l)] (.tup [rZ (Ol l),rZ (Ob l)]):=by
 refine Ak.walk w1 py rfl λF=>?_
 have hsz:=Ce l;have cs:=TC l (by omega);have hsl:=K9 l;have c1:=YW (Bz l) hn (by unfold Bz;rw[Bf];omega);have c2:=YW (BY l) hd (by unfold BY;rw[Dz];omega);have cw:=jp;unfold Ol Ob;refine sR 0 ?_;refine sR 100 ?_;refine sR 200 ?_;refine cI cs ?_;cases hh:Cr l
 ·have he:BJ l=l.length:=by
   unfold Cr at hh
   have:=DN hh
   omega
  have e0:(((BJ l:Nat):Int)==(l.length:Int))=true:=EA.2 (by omega);have en:Bz l=l:=by unfold Bz;rw[he,B9 (Ai _)]
  rw[en]at c1⊢;refine AC.seq ?_;refine sZ 300 ?_;refine AV (Ac hsz e0) ?_;refine AO ?_;refine sR 400 ?_;refine cI c1 ?_;refine BF.same _ cw AJ ?_;refine BO ?_;refine Al ?_;exact AN rfl AA.out
 ·have he:BJ l<l.length:=DA hh
  have e0:(((BJ l:Nat):Int)==(l.length:Int))=false:=Bq.2 (by omega);have x1:(sb l).extract 0 (BJ l)=sb (Bz l):=by rw[Ep,Fd];rfl
  have x2:(sb l).extract (BJ l+1) l.length=sb (BY l):=by rw[Ep,B9 (Ai _)];rfl
  have wk:IntKind.i64.wrap (((BJ l:Nat):Int)+1)=((BJ l+1:Nat):Int):=wI (by omega) (by omega);refine AC.seq ?_;refine sZ 300 ?_;refine AV (Ac hsz e0) ?_;refine AO ?_;refine Ap ?_;refine AC.seq ?_;refine B8 w1 500 [0,1,2,3,4,5,6,7] [8,9,10] (by kernel_rfl) ?_;refine AE (CM hsz wk kN x1 x2) ?_;refine BX.same _ c1 AJ ?_;refine AE (CM hsz wk kN x1 x2) ?_;refine BF.same _ c2 AJ ?_;refine BO ?_;refine Al ?_;exact AN rfl AA.out
def BN (r:Rat):List UInt8:=if r.den=1 then Lib.itoa r.num else Lib.itoa r.num++47::Lib.decDigits r.den
def qZ (x y:Int):Rat:=mkRat (if y<0 then -x else x) y.natAbs
theorem Sr {x:Int}{d:Nat}(hd:d≠0):(mkRat x d).num=sg (decide (x<0)) (x.natAbs/Nat.gcd x.natAbs d)/\(mkRat x d).den=d/Nat.gcd x.natAbs d:=by
 rw[mkRat,dif_neg hd,Rat.normalize_eq];refine⟨?_,rfl⟩;dsimp only;have hg:0<Nat.gcd x.natAbs d:=O6 _ (Dy hd);obtain⟨p,hp⟩:=Nat.gcd_dvd_left x.natAbs d;have e1:x.natAbs/Nat.gcd x.natAbs d=p:=by
  refine Nat.div_eq_of_eq_mul_right hg hp
 have e2:x=(Nat.gcd x.natAbs d:Int)*sg (decide (x<0)) p:=by
  have h0:(x.natAbs:Int)=(Nat.gcd x.natAbs d:Int)*(p:Int):=by rw[<-Fv,<-hp]
  unfold sg
  by_cases hx:x<0
  ·rw[AY hx,AH rfl,Int.mul_neg,<-h0];omega
  ·rw[Ah hx,AG (by decide),<-h0];omega
 rw[e1]
 conv=>lhs;arg 1;rw[e2]
 rw[Int.mul_ediv_cancel_left _ (by omega)]
theorem W6 (q:Nat):((((((Aa q).map Ad).length:Nat):Int)==1)=true/\∃a,(Aa q)[0]?=some a/\(((a:Nat):Int)==1)=decide (q=1))\/((((((Aa q).map Ad).length:Nat):Int)==1)=false/\q≠1):=by
 rw[Am]
 by_cases h:(Aa q).length=1
 ·refine .inl ⟨EA.2 (by omega),?_⟩
  obtain⟨a,ha⟩:=CS (l:=Aa q) (i:=0) (by omega);refine⟨a,ha,?_⟩;have e:Aa q=[a]:=by
   obtain⟨b,hb⟩:=List.length_eq_one_iff.1 h;rw[hb]at ha⊢;cases ha;rfl
  have e2:q=a:=by rw[<-D3 q,e];simp[AP]
  rw[e2];rw[Fu,EA,decide_eq_true_iff];omega
 ·refine .inr ⟨Bq.2 (by omega),λhq=>h ?_⟩
  rw[hq,PS (by decide) (by decide)];rfl
theorem gF (x y:Int)(hy0:y≠0)(hx:Ge x)(hy:Ge y):AK C0 124 [rZ x,rZ y] (str (sb (BN (qZ x y)))):=by
 refine Ak.walk w1 qA rfl λF=>?_
 unfold qZ;refine sR 0 ?_;refine Cu (α:=Nat) (λn=>⟨[(2,.optr 0 0 2 0 0),(3,.optr 1 1 2 0 0)],[⟨1,1,165,2,[.agg [As false,rD y.natAbs]]⟩,⟨0,0,165,2,[rZ (if y<0 then -x else x)]⟩],n⟩) (λ_=>True) ?_ ?_
 ·by_cases h:y<0
  ·have cx:=X6 x hx
   have cy:=X6 y hy;have e1:rZ (-y)=.agg [As false,rD y.natAbs]:=by
    show D.agg [As (decide (-y<0)),rD (-y).natAbs]=_;rw[Ah (by omega),L2]
   rw[e1]at cy;rw[AH h];refine sZ 100 ?_;refine AV (AY h) ?_;refine AO ?_;refine B8 w1 200 [0,1,2] [3,4,5] (by kernel_rfl) ?_;refine AE kN ?_;refine BX.same _ cx AJ ?_;refine AE kN ?_;refine BF.same _ cy AJ ?_;refine BO ?_;exact⟨trivial,_,trivial,AL⟩
  ·have e1:rZ y=.agg [As false,rD y.natAbs]:=by
    show D.agg [As (decide (y<0)),rD y.natAbs]=_;rw[Ah h]
   rw[AG h];refine sZ 100 ?_;refine AV (Ah h) ?_;refine AO ?_;refine Ap ?_;refine⟨rfl,5,trivial,?_⟩;rw[<-e1];exact AL
 rintro n0 -;obtain⟨z,hz⟩:∃z,z=(if y<0 then -x else x):=⟨_,rfl⟩
 have hza:z.natAbs=x.natAbs:=by rw[hz];split<;>omega
 obtain⟨d,hd⟩:∃d,d=y.natAbs:=⟨_,rfl⟩
 have hd0:d≠0:=by omega
 unfold Ge at hx hy;rw[<-hza]at hx;rw[<-hd]at hy;rw[<-hz,<-hd];clear hz hza hd hy0;clear x y;have cg:=XE z.natAbs d hx hy;obtain⟨qn,qd⟩:=Sr (x:=z) hd0;have hg:0<Nat.gcd z.natAbs d:=O6 _ (Dy hd0);have hgl:(Aa (Nat.gcd z.natAbs d)).length<1000000:=DW (Ia _ _ (Nat.gcd_le_right _ (Dy hd0))) hy;have c4:=Us z.natAbs (Nat.gcd z.natAbs d) (by omega) hx hgl;have c5:AK C0 176 [rD d,rD (Nat.gcd z.natAbs d)] (.tup [.sl false 1 ((Aa (d/Nat.gcd z.natAbs d)).map Ad),rD (d%Nat.gcd z.natAbs d)]):=Us d (Nat.gcd z.natAbs d) (by omega) hy hgl;have hpl:(Aa (z.natAbs/Nat.gcd z.natAbs d)).length<1000000:=DW (Ia _ _ (Gi _ _)) hx;have hql:(Aa (d/Nat.gcd z.natAbs d)).length<1000000:=DW (Ia _ _ (Gi _ _)) hy;have etx:BN (mkRat z d)=if d/Nat.gcd z.natAbs d=1 then Lib.itoa (sg (decide (z<0)) (z.natAbs/Nat.gcd z.natAbs d))else Lib.itoa (sg (decide (z<0)) (z.natAbs/Nat.gcd z.natAbs d))++47::Lib.decDigits (d/Nat.gcd z.natAbs d):=by
  unfold BN;rw[qn,qd]
 rw[etx];clear etx qn qd hg hgl;generalize z.natAbs/Nat.gcd z.natAbs d=p at*;generalize d/Nat.gcd z.natAbs d=q at*;generalize z.natAbs%Nat.gcd z.natAbs d=r1 at*;generalize d%Nat.gcd z.natAbs d=r2 at*;generalize Nat.gcd z.natAbs d=gg at*;have c6:=LJ (decide (z<0)) p (by omega);have hab:(sg (decide (z<0)) p).natAbs=p:=by unfold sg;split<;>omega
 have c7:=aR (sg (decide (z<0)) p) (by unfold Ge;rw[hab];exact hpl);have c8:=LJ false q (by omega);have c9:=aR (sg false q) (by unfold Ge;show(Aa q).length<1000000;exact hql);have e9:Lib.itoa (sg false q)=Lib.decDigits q:=by rw[YJ false q (by simp)];rfl
 rw[e9]at c9;have l1:=N4 (Ea p);rw[D3]at l1;have l2:=N4 (Ea q);rw[D3]at l2;have l3:(Lib.itoa (sg (decide (z<0)) p)).length<=(Lib.decDigits p).length+1:=by
  unfold Lib.itoa;split
  ·rw[hab,Bo];exact Ai _
  ·rw[show(sg (decide (z<0)) p).toNat=p by omega];omega
 generalize sg (decide (z<0)) p=pz at*;have s1:=Ce (Lib.itoa pz);have s2:=Ce (Lib.decDigits q);have s3:(⟨#[47]⟩:ByteArray).size=1:=rfl;have s4:(sb (Lib.itoa pz)++(⟨#[47]⟩:ByteArray)).size=(sb (Lib.itoa pz)).size+(⟨#[47]⟩:ByteArray).size:=ByteArray.size_append;generalize Lib.itoa pz=t1 at*;generalize Lib.decDigits q=t2 at*;refine sR 300 ?_;refine cI cg ?_;refine sR 400 ?_;refine cI c4 ?_;refine sR 500 ?_;refine cI c5 ?_;refine sR 600 ?_;refine cI c6 ?_;refine cI c7 ?_;have ht:=W6 q;rcases ht with⟨h1,a,ha,h2⟩|⟨h1,h2⟩
 ·have ha':=Dl ha
  refine AC.seq ?_;refine sZ 700 ?_;refine AE h1 ?_;refine Br kT ha' ?_;refine AE (Ac h1 h2) ?_
  by_cases hq:q=1
  ·rw[AY hq,AH hq]
   refine AO ?_;refine sR 800 ?_;refine Al ?_;exact AN rfl AA.out
  ·rw[Ah hq,AG hq]
   refine AO ?_;refine Ap ?_;refine sR 900 ?_;refine BF.same _ c8 AJ ?_;refine BO ?_;refine BF.same _ c9 AJ ?_;refine BO ?_;refine Al ?_;refine AN ?_ AA.out;show str ((⟨t1.toArray⟩++⟨([47]:List UInt8).toArray⟩:ByteArray)++⟨t2.toArray⟩)=_;rw[Il,Il,Do];rfl
 ·rw[AG h2]
  refine AC.seq ?_;refine sZ 700 ?_;refine AV h1 ?_;refine AE kF ?_;refine AO ?_;refine Ap ?_;refine sR 900 ?_;refine BF.same _ c8 AJ ?_;refine BO ?_;refine BF.same _ c9 AJ ?_;refine BO ?_;refine Al ?_;refine AN ?_ AA.out;show str ((⟨t1.toArray⟩++⟨([47]:List UInt8).toArray⟩:ByteArray)++⟨t2.toArray⟩)=_;rw[Il,Il,Do];rfl
set_option maxHeartbeats 2000000
theorem P8 (k:Nat)(h:k<10):(UInt8.ofNat (48+k)).toNat=48+k:=by
 rw[UInt8.toNat_ofNat'];omega
theorem EQ:∀n:Nat,(Lib.decDigits n).all Be=true/\dv (Lib.decDigits n)=n/\(Lib.decDigits n)≠[]:=λn=>by
 induction n using Nat.strongRecOn with
 |_ n ih=>
  have one:∀k,k<10->Be (UInt8.ofNat (48+k))=true:=λk hk=>by
   unfold Be;rw[P8 k hk,Ba];exact⟨Nat.ble_eq_true_of_le (by omega),Nat.ble_eq_true_of_le (by omega)⟩
  have vone:∀k,k<10->dv [UInt8.ofNat (48+k)]=k:=λk hk=>by
   show 0*10+((UInt8.ofNat (48+k)).toNat-48)=k;rw[P8 k hk];omega
  rw[Lib.decDigits];split
  ·rename_i h
   exact⟨by rw[Fs,one n h];rfl,vone n h,by simp⟩
  ·rename_i h
   obtain⟨h1,h2,h3⟩:=ih (n/10) (by omega);refine⟨by rw[Ks,h1,Fs,one _ (B5 _ (by decide))];rfl,?_,by simp⟩;rw[Np,h2,vone _ (B5 _ (by decide)),GQ];omega
theorem kU {n:Nat}(h:n≠0):∃c l,Lib.decDigits n=c::l/\c≠48:=by
 induction n using Nat.strongRecOn with
 |_ n ih=>
  rw[Lib.decDigits];split
  ·rename_i h1
   refine⟨_,_,rfl,λhh=>?_⟩
   have:=congrArg UInt8.toNat hh
   rw[P8 n h1]at this
   have:48+n=48:=this
   omega
  ·rename_i h1
   obtain⟨c,l,e,hc⟩:=ih (n/10) (by omega) (by omega);rw[e];exact⟨c,l++_,rfl,hc⟩
theorem oI {c:UInt8}(h:Be c=true):c≠47/\c≠45:=by
 obtain⟨h1,h2⟩:=K6 h;exact⟨λhh=>by subst hh;simp at h1,λhh=>by subst hh;simp at h1⟩
theorem MK (z:Int):DK (Lib.itoa z)=decide (z<0)/\Bn (Lib.itoa z)=Lib.decDigits z.natAbs:=by
 unfold Lib.itoa
 by_cases h:z<0
 ·rw[AH h,AY h]
  exact⟨rfl,rfl⟩
 ·rw[AG h,Ah h,show z.toNat=z.natAbs by omega]
  have h1:=SB (EQ z.natAbs).1;exact⟨h1,J4 (EQ z.natAbs).1⟩
theorem YP (z:Int):rv (Lib.itoa z)=z:=by
 unfold rv;rw[(MK z).1,(MK z).2,(EQ z.natAbs).2.1]
 by_cases h:z<0
 ·rw[AY h,AH rfl];omega
 ·rw[Ah h,AG (by decide)];omega
theorem VK (z:Int):∀c∈Lib.itoa z,(c != 47)=true:=λc hc=>by
 have hd:∀n,∀c∈Lib.decDigits n,(c != 47)=true:=λn c h=>by
  have:=(oI (CQ.1 (EQ n).1 c h)).1
  simpa using this
 unfold Lib.itoa at hc;split at hc
 ·rcases BA.1 hc with rfl|h
  ·rfl
  ·exact hd _ c h
 ·exact hd _ c hc
theorem Ru {p:UInt8->Bool}:∀ {l:List UInt8} (m:List UInt8),(∀c∈l,p c=true)->(l++m).takeWhile p=l++m.takeWhile p
 | [],_,_=>rfl
 |a::l,m,h=>by
  rw[ES,O0,AH (h a Cg),Ru m λc hc=>h c (Cn _ hc)];rfl
theorem Ni (r:Rat):BJ (BN r)=(Lib.itoa r.num).length:=by
 unfold BJ BN;split
 ·have:=Ru (p:=(· != 47)) [] (VK r.num)
  rw[DX]at this;rw[this];simp
 ·rw[Ru (p:=(· != 47)) _ (VK r.num)]
  simp
theorem OB (r:Rat):Bz (BN r)=Lib.itoa r.num:=by
 unfold Bz;rw[Ni];unfold BN;split
 ·exact B9 (Ai _)
 ·exact List.take_left' rfl
theorem MS (r:Rat):BY (BN r)=if r.den=1 then[]else Lib.decDigits r.den:=by
 unfold BY;rw[Ni];unfold BN;split
 ·exact HG (Nat.le_succ _)
 ·rw[List.drop_append]
  rw[HG (Nat.le_succ _),Ko];rfl
theorem QT (r:Rat):Cr (BN r) = !decide (r.den=1):=by
 unfold Cr;rw[Ni];unfold BN
 by_cases h:r.den=1
 ·rw[AH h,AY h,Ah (by omega)];rfl
 ·rw[AG h,Ah h,Bk,Bo,AY (by omega)];rfl
theorem Xf (r:Rat):Ol (BN r)=r.num:=by unfold Ol;rw[OB,YP]
theorem lR (r:Rat):Ob (BN r)=r.den:=by
 unfold Ob;rw[QT,MS]
 by_cases h:r.den=1
 ·rw[AY h,h];rfl
 ·rw[Ah h,AG h,AH (show(!false)=true from rfl),Mk (EQ _).1,(EQ _).2.1]
theorem Xe (r:Rat):(Bn (Bz (BN r))).all Be=true:=by rw[OB,(MK _).2];exact(EQ _).1
theorem Xd (r:Rat):(Bn (BY (BN r))).all Be=true:=by
 rw[MS];split
 ·rfl
 ·rw[J4 (EQ _).1];exact(EQ _).1
theorem YI (z:Int):Lib.itoa z≠[]:=by
 unfold Lib.itoa;split
 ·simp
 ·exact(EQ _).2.2
theorem aT (r:Rat):BN r≠[]:=by
 unfold BN;split
 ·exact YI _
 ·simp
theorem TW (r:Rat):DK (BN r)=decide (r.num<0):=by
 rw[<-(MK r.num).1];unfold BN;split
 ·rfl
 ·have:=YI r.num
  cases h:Lib.itoa r.num with
  |nil=>exact AZ h this
  |cons c l=>rfl
theorem Xg (r:Rat):decide (BN r=[48])=decide (r.num=0):=by
 refine Cz.2 ⟨λh=>?_,λh=>?_⟩
 ·have h1:=Xf r
  rw[h]at h1;rw[<-h1];decide
 ·have:r.den=1:=by
   have:=r.reduced
   rw[h]at this;simpa using this
  unfold BN;rw[AH this,h];show Lib.decDigits 0=[48];rw[Lib.decDigits,dif_pos (by decide)];rfl
abbrev rR (r:Rat):D:=str (sb (BN r))
def Ly (r:Rat):Prop:=(BN r).length<=1000000
theorem aK (r:Rat)(hl:Ly r):AK C0 166 [rR r] (i64 (Gf r)):=by
 refine Ak.walk w1 qQ rfl λF=>?_
 have hsz:=Ce (BN r);unfold Ly at hl;have ez:=Et (BN r) [48];rw[Xg]at ez;have en:=TW r;refine sR 0 ?_;refine AC.seq ?_;refine AC.seq ?_;have ez2:BK (sb (BN r)) ⟨#[48]⟩=decide (r.num=0):=ez;have hne:=aT r;refine Aq w1 100 (by kernel_rfl) ?_;refine AV ez2 ?_
 by_cases h0:r.num=0
 ·rw[AY h0]
  refine AO ?_;refine sR 200 ?_;refine Al ?_;exact AN (by unfold Gf;rw[h0];rfl) AA.out
 ·rw[Ah h0]
  have hpos:0<(BN r).length:=List.length_pos_iff.2 hne;have e0:decide (((sb (BN r)).size:Int)>0)=true:=AY (by omega);have e1:((((BN r).getD (Int.toNat 0) 0).toNat:Int)==45)=decide (r.num<0):=by
   rw[<-en];cases ht:BN r with
   |nil=>exact AZ ht hne
   |cons c l=>exact Px c l
  refine AO ?_;refine Ap ?_;refine AC.seq ?_;refine sZ 300 ?_;refine AE e0 ?_;refine AE (At kT e0 e1) ?_
  by_cases hn:r.num<0
  ·rw[AY hn]
   refine AO ?_;refine sR 400 ?_;refine Al ?_;exact AN (by unfold Gf;congr 3;omega) AA.out
  ·rw[Ah hn]
   refine AO ?_;refine Ap ?_;refine sR 500 ?_;refine Al ?_;exact AN (by unfold Gf;congr 3;omega) AA.out
theorem Yh {r:Rat}(h:r.num<0):(BN r).drop 1=BN (-r)/\(BN (-r)).length+1=(BN r).length:=by
 have e:Lib.itoa r.num=45::Lib.itoa (-r.num):=by
  unfold Lib.itoa;rw[AH h,AG (by omega),show(-r.num).toNat=r.num.natAbs by omega]
 have e2:BN r=45::BN (-r):=by
  unfold BN;rw[Rat.neg_den,Rat.neg_num,e];split<;>rfl
 rw[e2];exact⟨rfl,rfl⟩
def DD (r:Rat):Rat:=if r.num<0 then -r else r
theorem P4 (r:Rat):(DD r).num=r.num.natAbs/\(DD r).den=r.den:=by
 unfold DD;split
 ·rw[Rat.neg_num,Rat.neg_den];exact⟨by omega,rfl⟩
 ·exact⟨by omega,rfl⟩
def qk (r:Rat):Bool:=!decide (20<(BN r).length) && !(decide (9<BJ (BN (DD r)))||decide (10<(BN (DD r)).length-BJ (BN (DD r))))
theorem j0 (r:Rat):(BN (DD r)).length<=(BN r).length:=by
 unfold DD;split
 ·rename_i h
  have:=(Yh h).2
  omega
 ·exact Ai _
theorem SC (r:Rat):Lib.itoa (DD r).num=Lib.decDigits r.num.natAbs:=by
 rw[(P4 r).1];unfold Lib.itoa;rw[AG (by omega)];rfl
theorem Ss {r:Rat}(h:qk r=true):r.num.natAbs<10^9/\r.den<10^9:=by
 unfold qk at h;simp only[Ba,Bi,Ix,IR]at h;obtain⟨h1,h2,h3⟩:=h;have hs:=Ni (DD r);rw[SC]at hs;have hd:=MS (DD r);rw[(P4 r).2]at hd;have hdl:(BY (BN (DD r))).length=(BN (DD r)).length-(BJ (BN (DD r))+1):=by unfold BY;rw[Dz]
 have d1:=GB _ (EQ r.num.natAbs).1;have d2:=GB _ (EQ r.den).1;rw[(EQ _).2.1]at d1 d2;refine⟨CV d1 (FN (by decide) (by omega)),?_⟩
 by_cases h1:r.den=1
 ·rw[h1];decide
 ·rw[AG h1]at hd
  rw[hd]at hdl;exact CV d2 (FN (by decide) (by omega))
theorem YY (r:Rat)(hl:Ly r):AK C0 121 [rR r] (.tup [i64 (if qk r then r.num else 0),i64 (if qk r then(r.den:Int)else 0),As (qk r)]):=by
 refine Ak.walk w1 pu rfl λF=>?_
 have hsz:=Ce (BN r);unfold Ly at hl;have hne:=aT r;have hpos:0<(BN r).length:=List.length_pos_iff.2 hne;refine sR 0 ?_;refine sR 100 ?_;refine AC.seq ?_;refine AC.seq ?_
 by_cases h20:20<(BN r).length
 ·have e2:decide (((BN r).length:Int)>20)=true:=AY (by omega)
  have eq:qk r=false:=by unfold qk;rw[AY h20];rfl
  rw[eq];refine Aq w1 200 (by kernel_rfl) ?_;refine AV (Ac hsz e2) ?_;refine AO ?_;refine sR 300 ?_;refine Al ?_;exact AN rfl AA.out
 ·have e2:decide (((BN r).length:Int)>20)=false:=Ah (by omega)
  have eq:qk r = !(decide (9<BJ (BN (DD r)))||decide (10<(BN (DD r)).length-BJ (BN (DD r)))):=by unfold qk;rw[Ah h20];rfl
  have en:=TW r;refine Aq w1 200 (by kernel_rfl) ?_;refine AV (Ac hsz e2) ?_;refine AO ?_;refine Ap ?_;refine Cu (α:=Nat) (λn=>⟨[(5,rR r),(6,As (decide (r.num<0)))],[],n⟩) (λ_=>True) ?_ ?_
  ·have e0:decide (((sb (BN r)).size:Int)>0)=true:=AY (by omega)
   have e1:((((BN r).getD (Int.toNat 0) 0).toNat:Int)==45)=decide (r.num<0):=by
    rw[<-en];cases ht:BN r with
    |nil=>exact AZ ht hne
    |cons c l=>exact Px c l
   refine Aq w1 400 (by kernel_rfl) ?_;refine AE e0 ?_;refine AE (At kT e0 e1) ?_;exact⟨trivial,_,trivial,AL⟩
  rintro n0 -;refine Cu (α:=Nat) (λn=>⟨[(5,rR (DD r)),(6,As (decide (r.num<0)))],[],n⟩) (λ_=>True) ?_ ?_
  ·refine sR 500 ?_
   by_cases h:r.num<0
   ·obtain⟨t1,t2⟩:=Yh h
    have ea:DD r = -r:=by unfold DD;rw[AH h]
    have ee:(sb (BN r)).extract (Int.toNat 1) (BN r).length=sb (BN (DD r)):=by
     rw[ea,Ep,B9 (Ai _),<-t1];rfl
    rw[AY h];refine AO ?_;refine Aq w1 600 (by kernel_rfl) ?_;refine AE (Ac hsz kN) ?_;rw[ee];exact⟨trivial,_,trivial,AL⟩
   ·have ea:DD r=r:=by unfold DD;rw[AG h]
    rw[Ah h,ea];refine AO ?_;refine Ap ?_;exact⟨rfl,_,trivial,AL⟩
  rintro n1 -;have hal:=j0 r;have hsa:=Ni (DD r);rw[SC]at hsa;have hn:=OB (DD r);rw[SC]at hn;have hd:=MS (DD r);rw[(P4 r).2]at hd;have hh:=QT (DD r);rw[(P4 r).2]at hh;unfold Cr at hh;have hle:=K9 (BN (DD r));have cs:=TC (BN (DD r)) (by omega);have hszA:=Ce (BN (DD r));clear hsz hne hpos e2 en;generalize hT:BN (DD r)=T at*;have eR:rR (DD r)=str (sb T):=by rw[<-hT]
  rw[eR];clear hT eR;refine sR 700 ?_;refine cI cs ?_;have w8:IntKind.i64.wrap ((T.length:Int)-(BJ T:Int))=((T.length-BJ T:Nat):Int):=by rw[wI (by omega) (by omega)];omega
  have eb:decide (((T.length-BJ T:Nat):Int)>10)=decide (10<T.length-BJ T):=Cz.2 (by omega)
  by_cases h9:9<BJ T
  ·have e8:decide ((BJ T:Int)>9)=true:=AY (by omega)
   rw[AY h9]at eq;have eq2:qk r=false:=eq;rw[eq2];refine AC.seq ?_;refine sZ 800 ?_;refine AV e8 ?_;refine AE kT ?_;refine AO ?_;refine sR 900 ?_;refine Al ?_;exact AN rfl AA.out
  have e8:decide ((BJ T:Int)>9)=false:=Ah (by omega);rw[Ah h9]at eq
  by_cases h10:10<T.length-BJ T
  ·rw[AY h10]at eq eb
   have eq2:qk r=false:=eq;rw[eq2];refine AC.seq ?_;refine sZ 800 ?_;refine AV e8 ?_;refine AE (BW kF hszA w8 eb) ?_;refine AO ?_;refine sR 900 ?_;refine Al ?_;exact AN rfl AA.out
  rw[Ah h10]at eq eb;have eq2:qk r=true:=eq;rw[eq2];refine AC.seq ?_;refine sZ 800 ?_;refine AV e8 ?_;refine AE (BW kF hszA w8 eb) ?_;refine AO ?_;refine Ap ?_;have hd1:=EQ r.num.natAbs;have hd2:=EQ r.den;have c1:=QU (Lib.decDigits r.num.natAbs) hd1.1 (by omega);rw[hd1.2.1]at c1;have e10:(sb T).extract 0 (BJ T)=sb (Lib.decDigits r.num.natAbs):=by
   rw[Ep,Fd,<-hn];rfl
  refine sZ 1000 ?_;refine AE (Ac hszA kN) ?_;refine AE e10 ?_;refine BF.same _ c1 AJ ?_;refine BO ?_;refine Cu (α:=Nat) (λn=>⟨[(6,As (decide (r.num<0))),(8,i64 (r.num.natAbs:Int)),(9,i64 (r.den:Int))],[],n⟩) (λ_=>True) ?_ ?_
  ·by_cases hden:r.den=1
   ·rw[AY hden]at hh
    have e11:decide ((BJ T:Int)<(T.length:Int))=false:=Ah (by have:=DN (p:=BJ T<T.length) hh;omega);rw[hden];refine sZ 1100 ?_;refine AV (Ac hszA e11) ?_;refine AO ?_;refine Ap ?_;exact⟨rfl,_,trivial,AL⟩
   ·rw[Ah hden]at hh
    rw[AG hden]at hd;have hlt:=DA (p:=BJ T<T.length) hh;have e11:decide ((BJ T:Int)<(T.length:Int))=true:=AY (by omega);have wk:IntKind.i64.wrap (((BJ T:Nat):Int)+1)=((BJ T+1:Nat):Int):=wI (by omega) (by omega);have e12:(sb T).extract (BJ T+1) T.length=sb (Lib.decDigits r.den):=by
     rw[Ep,B9 (Ai _),<-hd];rfl
    have hdl:(Lib.decDigits r.den).length<=18:=by
     rw[<-hd];unfold BY;rw[Dz];omega
    have c2:=QU (Lib.decDigits r.den) hd2.1 hdl;rw[hd2.2.1]at c2;refine sZ 1100 ?_;refine AV (Ac hszA e11) ?_;refine AO ?_;refine Aq w1 1200 (by kernel_rfl) ?_;refine AE (At hszA wk kN) ?_;refine AE e12 ?_;refine BF.same _ c2 AJ ?_;refine BO ?_;exact⟨trivial,_,trivial,AL⟩
  rintro n2 -;obtain⟨b1,b2⟩:=Ss eq2;refine Cu (α:=Nat) (λn=>⟨[(8,i64 r.num),(9,i64 (r.den:Int))],[],n⟩) (λ_=>True) ?_ ?_
  ·refine sR 1300 ?_
   by_cases h:r.num<0
   ·have wn:IntKind.i64.wrap (0-(r.num.natAbs:Int))=r.num:=by rw[wI (by omega) (by omega)];omega
    rw[AY h];refine AO ?_;refine Aq w1 1400 (by kernel_rfl) ?_;refine AV wn ?_;exact⟨trivial,_,trivial,AL⟩
   ·have en:(r.num.natAbs:Int)=r.num:=by omega
    rw[Ah h,en];refine AO ?_;refine Ap ?_;exact⟨rfl,_,trivial,AL⟩
  rintro n3 -;refine sR 1500 ?_;refine Al ?_;exact AN rfl AA.out
theorem iq (b:Bool)(n:Nat):(sg b n).natAbs=n:=by unfold sg;split<;>omega
theorem vT (z:Int)(d:Nat)(hz:z.natAbs<=4000000000000000000)(hd0:0<d)(hd:d<=4000000000000000000):AK C0 122 [i64 z,i64 (d:Int)] (rR (mkRat z d)):=by
 refine Ak.walk w1 pv rfl λF=>?_
 have hg:0<Nat.gcd z.natAbs d:=O6 _ hd0;have hgl:Nat.gcd z.natAbs d<=d:=Nat.gcd_le_right _ hd0;obtain⟨qn,qd⟩:=Sr (x:=z) (d:=d) (by omega);have etx:BN (mkRat z d)=if d/Nat.gcd z.natAbs d=1 then Lib.itoa (mkRat z d).num else Lib.itoa (mkRat z d).num++47::Lib.decDigits (d/Nat.gcd z.natAbs d):=by
  unfold BN;rw[qd]
 have q1:z.tdiv (Nat.gcd z.natAbs d:Nat)=(mkRat z d).num:=by
  rw[qn];obtain⟨p,hp⟩:=Nat.gcd_dvd_left z.natAbs d;have e1:z.natAbs/Nat.gcd z.natAbs d=p:=Nat.div_eq_of_eq_mul_right hg hp;have e2:z=(Nat.gcd z.natAbs d:Int)*sg (decide (z<0)) p:=by
   have h0:(z.natAbs:Int)=(Nat.gcd z.natAbs d:Int)*(p:Int):=by rw[<-Fv,<-hp]
   unfold sg
   by_cases hx:z<0
   ·rw[AY hx,AH rfl,Int.mul_neg,<-h0];omega
   ·rw[Ah hx,AG (by decide),<-h0];omega
  rw[e1]
  conv=>lhs;arg 1;rw[e2]
  rw[Int.mul_tdiv_cancel_left _ (by omega)]
 have q2:(d:Int).tdiv (Nat.gcd z.natAbs d:Nat)=((d/Nat.gcd z.natAbs d:Nat):Int):=rfl;have q5:(mkRat z d).num.natAbs<=4000000000000000000:=by
  rw[qn];rw[iq];exact BR (Gi _ _) hz
 have q4:d/Nat.gcd z.natAbs d<=4000000000000000000:=BR (Gi _ _) hd;have hx:0<d/Nat.gcd z.natAbs d:=Nat.div_pos hgl hg;have ert:rR (mkRat z d)=str (sb (if d/Nat.gcd z.natAbs d=1 then Lib.itoa (mkRat z d).num else Lib.itoa (mkRat z d).num++47::Lib.decDigits (d/Nat.gcd z.natAbs d))):=by rw[<-etx]
 rw[ert];clear etx ert qn qd;generalize(mkRat z d).num=pz at*;refine fR 0 ?_;refine Dg ⟨[(0,i64 z),(1,i64 d),(4,str ⟨#[]⟩)],[],50⟩ ?_ ?_
 ·refine AC.seq ?_
  have l1:(decide (z < -4000000000000000000))=false:=by apply Ah;omega
  have l2:(decide (z>4000000000000000000))=false:=by apply Ah;omega
  have l3:(decide ((d:Int) < -4000000000000000000))=false:=by apply Ah;omega
  have l4:(decide ((d:Int)>4000000000000000000))=false:=by apply Ah;omega
  refine Aq w1 100 (by kernel_rfl) ?_
  repeat'(first|(refine And.intro (by exact B6) ?_;(refine Aw ?_);(try simp only[Mr,Qz,l1,l2,l3,l4]))|((refine Bv (λhb=>?_) (λhb=>?_))<;>(try simp only[Bi,Bs]at hb)<;>(try simp only[hb])<;>(refine Aw ?_)))
  refine AO ?_;refine Ap ?_;exact And.intro (by trivial) (AL)
 refine Dg ⟨[(0,i64 z),(1,i64 d),(4,str ⟨#[]⟩)],[],100⟩ ?_ ?_
 ·refine fR 300 ?_
  refine AO ?_;have e27:(decide ((d:Int)<0))=false:=by simp
  rw[e27];refine Ap ?_;exact And.intro (by trivial) (AL)
 refine AC.seq ?_;have m1:max z (IntKind.i64.wrap (0-z))=(z.natAbs:Int):=by rw[wI (by omega) (by omega)];omega
 refine Aq w1 500 (by kernel_rfl) ?_;refine Jw m1 ?_;refine dI (nU z.natAbs d (by omega) (by omega)) ?_;refine AC.seq ?_;refine B8 w1 600 [0,1,2,3,4,5,6] [7] (by kernel_rfl) ?_;refine CC ?_;have w1p:IntKind.i64.wrap pz=pz:=wI (by omega) (by omega);rw[q1,q2,w1p,wN (BR q4 (by decide))];clear q1 q2 hg hgl;generalize d/Nat.gcd z.natAbs d=y at*;refine fR 700 ?_;have c1:=PY pz.natAbs 1 (by omega);have c2:=PY y 1 (by omega);rw[Xy]at c1 c2;have s1:=MC 18 pz.natAbs (DW q5 (by decide));have s2:=MC 18 y (DW q4 (by decide));have z1:=Nz (Lib.decDigits pz.natAbs);have z2:=Nz (Lib.decDigits y);have m1:max pz (IntKind.i64.wrap (0-pz))=(pz.natAbs:Int):=by rw[wI (by omega) (by omega)];omega
 refine Cu (α:=Nat) (λn=>⟨[(0,i64 pz),(1,i64 (y:Int)),(4,str ⟨#[]⟩),(6,str (sb (if pz<0 then[45]else[])))],[],n⟩) (λ_=>True) ?_ ?_
 ·refine fR 800 ?_
  by_cases h:pz<0
  ·rw[AY h,AH h]
   refine AO ?_;refine fI 900 ?_;exact⟨rfl,_,trivial,AL⟩
  ·rw[Ah h,AG h]
   refine AO ?_;refine Ap ?_;exact⟨rfl,_,trivial,AL⟩
 rintro n0 -;have ei:(if pz<0 then[45]else[])++Lib.decDigits pz.natAbs=Lib.itoa pz:=by
  unfold Lib.itoa;split
  ·rfl
  ·rw[show pz.toNat=pz.natAbs by omega];rfl
 have z3:=Ce (if pz<0 then[45]else[]);have z4:(if pz<0 then[45]else[]:List UInt8).length<=1:=by split<;>simp
 have z5:(Lib.itoa pz).length<=20:=by rw[<-ei,Bk];omega
 refine sZ 1000 ?_;refine Jw m1 ?_;refine dI c1 ?_;rw[Il,ei];have z6:=Nz (Lib.itoa pz);generalize Lib.itoa pz=t1 at*;clear ei z3 z4;refine Cu (α:=Nat) (λn=>⟨[(6,str (sb (if y=1 then t1 else t1++47::Lib.decDigits y)))],[],n⟩) (λ_=>True) ?_ ?_
 ·refine fR 1100 ?_
  by_cases hy:y=1
  ·rw[AH hy]
   have e54:(decide ((y:Int)>1))=false:=by apply Ah;omega
   rw[e54];refine AO ?_;refine Ap ?_;exact⟨rfl,_,trivial,AL⟩
  ·rw[AG hy]
   have e54:(decide ((y:Int)>1))=true:=by apply AY;omega
   have s3:(⟨#[47]⟩:ByteArray).size=1:=rfl;have sc:((⟨t1.toArray⟩:ByteArray)++(⟨#[47]⟩:ByteArray)).size=(⟨t1.toArray⟩:ByteArray).size+(⟨#[47]⟩:ByteArray).size:=ByteArray.size_append;rw[e54];refine AO ?_;refine fI 1200 ?_;refine dI c2 ?_;have e47:(⟨#[47]⟩:ByteArray)=⟨([47]:List UInt8).toArray⟩:=rfl;rw[e47,Il,Il,Do,ES,FM];exact⟨rfl,_,trivial,AL⟩
 rintro n1 -;refine fR 1300 ?_;refine Al ?_;exact AN rfl AA.out
theorem S2 {n k:Nat}(h:(Ag n).length<=k):(Aa n).length<=3*k:=by
 refine K3 (CV (JF n) ?_);rw[Nat.pow_mul];exact BR (FN (by decide) h) (NK (by decide) k)
theorem Mh {n k:Nat}(h:(Ag n).length<=k):(Lib.decDigits n).length<=27*k+1:=by
 have h1:=N4 (Ea n);rw[D3]at h1
 have:=S2 h
 omega
theorem mv {z:Int}{k:Nat}(h:(Ag z.natAbs).length<=k):(Lib.itoa z).length<=27*k+2:=by
 have:=Mh h
 unfold Lib.itoa;split
 ·rw[Bo];omega
 ·rw[show z.toNat=z.natAbs by omega];omega
theorem TE {r:Rat}{k:Nat}(h:rk r k)(hk:k<=10000):Ly r:=by
 have h1:=mv h.1;have h2:=Mh h.2;unfold Ly BN;split
 ·omega
 ·rw[Bk,Bo];omega
def LZ (x:Int)(p:Nat):Prop:=(Aa x.natAbs).length<=p
theorem LZ.mul {x y:Int}{p q:Nat}(hx:LZ x p)(hy:LZ y q):LZ (x*y) (p+q):=by
 unfold LZ at*;rw[NE]
 have:=Rx x.natAbs y.natAbs
 omega
theorem LZ.add {x y:Int}{p q:Nat}(hx:LZ x p)(hy:LZ y q):LZ (x+y) (p+q+1):=by
 unfold LZ at*;have h1:=Ia (x+y).natAbs (x.natAbs+y.natAbs) (Int.natAbs_add_le x y);have h2:=VW x.natAbs y.natAbs;omega
theorem LZ.few {x:Int}{p:Nat}(h:LZ x p)(hp:p<1000000):Ge x:=DW h hp
theorem LZ.num {r:Rat}{k:Nat}(h:rk r k):LZ r.num (3*k):=S2 h.1
theorem LZ.den {r:Rat}{k:Nat}(h:rk r k):LZ (r.den:Int) (3*k):=S2 h.2
theorem sW (a b:Rat):qZ (a.num*b.den+b.num*a.den) ((a.den:Int)*b.den)=a+b:=by
 unfold qZ;have h:¬((a.den:Int)*b.den<0):=by
  rw[<-Fv];omega
 rw[AG h,<-Fv,EO,Rat.add_def',]
theorem SM {x y:Int}(hx:x.natAbs<10^9)(hy:y.natAbs<10^9):(x*y).natAbs<10^18:=by
 rw[NE];exact CV (Nat.mul_lt_mul'' hx hy) (by decide)
theorem cr (a b:Rat)(i j:Nat)(ha:rk a i)(hb:rk b j)(hij:i+j<=10000):AK C0 167 [rR a,rR b] (rR (a+b)):=by
 refine Ak.walk w1 qR rfl λF=>?_
 have ta:=TE ha (by omega);have tb:=TE hb (by omega);have qa:=YY a ta;have qb:=YY b tb
 by_cases hq:qk a=true/\qk b=true
 ·obtain⟨h1,h2⟩:=hq
  obtain⟨n1,d1⟩:=Ss h1;obtain⟨n2,d2⟩:=Ss h2;rw[h1,AH rfl,AH rfl]at qa;rw[h2,AH rfl,AH rfl]at qb;have p1:=SM n1 (y:=(b.den:Int)) (by omega);have p2:=SM n2 (y:=(a.den:Int)) (by omega);have p3:=SM (x:=(a.den:Int)) (y:=(b.den:Int)) (by omega) (by omega);have m1:IntKind.i64.wrap (a.num*(b.den:Int))=a.num*b.den:=wI (by omega) (by omega);have m2:IntKind.i64.wrap (b.num*(a.den:Int))=b.num*a.den:=wI (by omega) (by omega);have m3:IntKind.i64.wrap (a.num*(b.den:Int)+b.num*(a.den:Int))=a.num*b.den+b.num*a.den:=wI (by omega) (by omega);have m4:IntKind.i64.wrap ((a.den:Int)*(b.den:Int))=((a.den*b.den:Nat):Int):=by rw[wI (by omega) (by omega),Fv]
  have p4:a.den*b.den<10^18:=by rw[<-Fv,EO]at p3;exact p3
  have cf:=vT (a.num*b.den+b.num*a.den) (a.den*b.den) (by omega) (HI a.den_pos b.den_pos) (by omega);rw[<-Rat.add_def']at cf;refine sR 0 ?_;refine sR 100 ?_;refine cI qa ?_;refine sR 200 ?_;refine cI qb ?_;refine AC.seq ?_;refine sZ 300 ?_;refine AE kT ?_;refine AO ?_;refine sZ 400 ?_;refine AV (BW m1 m2 m3 m4) ?_;refine cI cf ?_;refine Al ?_;exact AN rfl AA.out
 ·refine sR 0 ?_
  refine sR 100 ?_;refine cI qa ?_;refine sR 200 ?_;refine cI qb ?_;refine Cu (α:=Nat) (λn=>⟨[(0,rR a),(1,rR b)],[],n⟩) (λ_=>True) ?_ ?_
  ·cases h1:qk a
   ·refine sZ 300 ?_
    refine AE h1 ?_;refine AE kF ?_;refine AO ?_;refine Ap ?_;exact⟨rfl,_,trivial,AL⟩
   ·have h2:qk b=false:=by
     cases h2:qk b
     ·rfl
     ·exact AZ ⟨h1,h2⟩ hq
    rw[h2];refine sZ 300 ?_;refine AE h1 ?_;refine AE kT ?_;refine AO ?_;refine Ap ?_;exact⟨rfl,_,trivial,AL⟩
  rintro n0 -;clear qa qb hq;have pa:=S7 (BN a) (Xe a) (Xd a) ta;have pb:=S7 (BN b) (Xe b) (Xd b) tb;rw[Xf,lR]at pa pb;have lan:=LZ.num ha;have lad:=LZ.den ha;have lbn:=LZ.num hb;have lbd:=LZ.den hb;have da:=a.den_pos;have db:=b.den_pos;have c1:=TF a.num b.den (lan.few (by omega)) (lbd.few (by omega));have c2:=TF b.num a.den (lbn.few (by omega)) (lad.few (by omega));have c3:=sS (a.num*b.den) (b.num*a.den) ((lan.mul lbd).few (by omega)) ((lbn.mul lad).few (by omega));have c4:=TF (a.den:Int) b.den (lad.few (by omega)) (lbd.few (by omega));have c5:=gF (a.num*b.den+b.num*a.den) ((a.den:Int)*b.den) (by rw[<-Fv];have:=HI da db;omega) (((lan.mul lbd).add (lbn.mul lad)).few (by omega)) ((lad.mul lbd).few (by omega));rw[sW]at c5;refine sR 500 ?_;refine cI pa ?_;refine sR 600 ?_;refine cI pb ?_;refine AC.seq ?_;refine B8 w1 700 [0,1,2,3,4,5,6,7,8] [9,10,11] (by kernel_rfl) ?_;refine AE kN ?_
  first|refine BX.same _ c1 AJ ?_|refine BF.same _ c1 AJ ?_
  refine AE kN ?_
  first|refine BX.same _ c2 AJ ?_|refine BF.same _ c2 AJ ?_
  refine AE kN ?_
  first|refine BX.same _ c3 AJ ?_|refine BF.same _ c3 AJ ?_
  refine AE kN ?_
  first|refine BX.same _ c4 AJ ?_|refine BF.same _ c4 AJ ?_
  refine AE kN ?_
  first|refine BX.same _ c5 AJ ?_|refine BF.same _ c5 AJ ?_
  refine AE kN ?_;refine Al ?_;exact AN rfl AA.out
theorem ju (c:UInt8):Be c=(!decide ((c.toNat:Int)<48) && !decide ((c.toNat:Int)>57)):=by
 unfold Be;rw[Fu,Ba,Ba];simp only[Bi,IR,Nat.ble_eq];omega
theorem eH {l:List UInt8}{i:Nat}{c:UInt8}(hc:l[i]?=some c)(h:(l.take i).all Be=true):(l.take (i+1)).all Be=Be c:=by
 rw[Dh,hc,Ks,h];simp
theorem oZ {l:List UInt8}{i:Nat}{c:UInt8}(hc:l[i]?=some c)(h:Be c=false):l.all Be=false:=by
 cases ha:l.all Be
 ·rfl
 ·have:=CQ.1 ha c (A0 hc)
  rw[h]at this;cases this
theorem kZ (l:List UInt8)(hl:l.length<=1000000000):AK C0 268 [str (sb l)] (As (l.all Be)):=by
 refine Ak.walk w1 qW rfl λF=>?_
 have hsz:=Ce l;refine sR 0 ?_;refine AC.seq ?_;refine sR 100 ?_;refine AC.block ?_;refine AC.loop (α:=Nat×Nat) (λp=>⟨[(0,str (sb l)),(3,i64 (p.1:Int))],[],p.2⟩) (λp=>l.length-p.1) (λp=>p.1<=l.length/\(l.take p.1).all Be=true) (0,_) ⟨BU _,rfl⟩ AL ?_;rintro⟨i,n⟩ F ⟨hi,ha⟩;dsimp only at hi ha⊢;refine AC.seq ?_;refine sZ 200 ?_;refine AV hsz ?_;refine AO ?_
 (refine Bv (λhlt=>?_) (λhlt=>?_))<;>(try simp only[Bi,Bs]at hlt)<;>(try simp only[hlt])
 ·have hi2:i<l.length:=by
   have:=DA hlt
   omega
  obtain⟨c,hc⟩:∃c,l[i]?=some c:=⟨l[i],BI hi2⟩
  have hg:l.getD i 0=c:=by simp[hc]
  have wi:IntKind.i64.wrap ((i:Int)+1)=((i+1:Nat):Int):=wI (by omega) (by omega);have hid:=ju c;have hat:=eH hc ha;have hno:=oZ hc;refine Ap ?_;refine AC.seq ?_;refine AC.block ?_;refine sZ 400 ?_;refine AV (Ac kN hg) ?_
  by_cases c1:(c.toNat:Int)<48
  ·rw[AY c1]at hid
   have e4:=AY c1;simp only[e4];refine AE kT ?_;refine AO ?_;refine sR 500 ?_;refine Al ?_;exact AN (by rw[hno hid]) AA.out
  ·rw[Ah c1]at hid
   have e4:=Ah c1;simp only[e4];refine AE (At kF kN hg) ?_
   by_cases c2:(c.toNat:Int)>57
   ·rw[AY c2]at hid⊢
    refine AO ?_;refine sR 500 ?_;refine Al ?_;exact AN (by rw[hno hid]) AA.out
   ·rw[Ah c2]at hid⊢
    refine AO ?_;refine Ap ?_;refine Aq w1 300 (by kernel_rfl) ?_;refine AV wi ?_;exact⟨(i+1,_),⟨hi2,hat.trans hid⟩,by dsimp only;omega,AL⟩
 ·have hi2:i=l.length:=by
   have:=DN hlt
   omega
  subst hi2;rw[B9 (Ai _)]at ha;refine CA ?_;refine sR 600 ?_;refine Al ?_;exact AN (by rw[ha]) AA.out
theorem ib (c:UInt8):(((c.toNat:Nat):Int)==48)=decide (c=48):=by
 rw[Fu,EA,decide_eq_true_iff,<-UInt8.toNat_inj];exact⟨λh=>(show c.toNat=48 by omega),λh=>by rw[h];rfl⟩
theorem ah (l:List UInt8)(hl:l.length<=1000000000):AK C0 224 [str (sb l)] (As (C4 l)):=by
 refine Ak.walk w1 rC rfl λF=>?_
 have hsz:=Ce l;have cd:=kZ l hl;refine sR 0 ?_;refine AC.seq ?_;refine AC.seq ?_
 match l,hl,hsz,cd with
 | [],_,hsz,_=>
  have e1:((((sb []).size:Nat):Int)==0)=true:=rfl;refine Aq w1 100 (by kernel_rfl) ?_;refine AV e1 ?_;refine AE kT ?_;refine AO ?_;refine sR 200 ?_;refine Al ?_;exact AN rfl AA.out
 | [c],hl,hsz,cd=>
  have e1:((((sb [c]).size:Nat):Int)==0)=false:=rfl;have e2:decide ((((sb [c]).size:Nat):Int)>1)=false:=rfl;have ep:C4 [c]=[c].all Be:=by
   unfold C4 Kc
   by_cases h:c=48
   ·subst h;rfl
   ·simp[h]
  rw[ep];refine Aq w1 100 (by kernel_rfl) ?_;refine AV e1 ?_;refine AE kF ?_;simp only[e2];refine AE kF ?_;refine AO ?_;refine Ap ?_;refine sR 300 ?_;refine cI cd ?_;refine Al ?_;exact AN rfl AA.out
 |c::d::l,hl,hsz,cd=>
  have hs2:(sb (c::d::l)).size=l.length+2:=hsz;have e1:((((sb (c::d::l)).size:Nat):Int)==0)=false:=Bq.2 (by omega);have e2:decide ((((sb (c::d::l)).size:Nat):Int)>1)=true:=AY (by omega);have e3:((((c::d::l).getD (Int.toNat 0) 0).toNat:Int)==48)=decide (c=48):=ib c;have ep:C4 (c::d::l)=if c=48 then false else(c::d::l).all Be:=by
   unfold C4 Kc
   by_cases h:c=48
   ·subst h;simp
   ·simp[h]
  rw[ep];refine Aq w1 100 (by kernel_rfl) ?_;refine AV e1 ?_;refine AE (Ac kF e2) ?_;refine AE (BW kT e2 e3 kF) ?_
  by_cases h:c=48
  ·rw[AY h,AH h]
   refine AO ?_;refine sR 200 ?_;refine Al ?_;exact AN rfl AA.out
  ·rw[Ah h,AG h]
   refine AO ?_;refine Ap ?_;refine sR 300 ?_;refine cI cd ?_;refine Al ?_;exact AN rfl AA.out
def Dk (r:Rat):Bool:=decide (600<(Lib.decDigits r.num.natAbs).length)||decide (600<(Lib.decDigits r.den).length)
theorem iz (l:List UInt8):BJ l=(Bz l).length:=by
 have:=K9 l
 unfold Bz;rw[Bf];omega
theorem R1 (l:List UInt8):Bz (Bn l)=B1 l/\BY (Bn l)=BY l/\Cr (Bn l)=Cr l/\decide (Bz l=[45,48])=(DK l&&decide (B1 l=[48])):=by
 cases hb:DK l
 ·have ed:Bn l=l:=by unfold Bn;rw[hb];rfl
  have en:DK (Bz l)=false:=by
   unfold Bz;cases l with
   |nil=>rfl
   |cons c l=>
    cases hk:BJ (c::l)with
    |zero=>rfl
    |succ k=>exact hb
  have es:B1 l=Bz l:=by unfold B1 Bn;rw[en];rfl
  rw[ed,es];refine⟨rfl,rfl,rfl,?_⟩;rw[I1];refine Ah λh=>?_
  rw[h]at en;cases en
 ·cases l with
  |nil=>cases hb
  |cons c m=>
   have hc:c=45:=by simpa[DK]using hb
   subst hc;have ed:Bn (45::m)=m:=rfl;have e1:BJ (45::m)=BJ m+1:=by
    unfold BJ;rw[O0,AH (by decide),Bo]
   have e2:Bz (45::m)=45::Bz m:=by unfold Bz;rw[e1,List.take_succ_cons]
   have e3:BY (45::m)=BY m:=by unfold BY;rw[e1,Rf]
   have e4:Cr (45::m)=Cr m:=by unfold Cr;rw[e1,Bo];exact Cz.2 (by omega)
   have e5:B1 (45::m)=Bz m:=by unfold B1;rw[e2];rfl
   rw[ed,e2,e3,e4,e5];refine⟨rfl,rfl,rfl,?_⟩;rw[Hj];exact Cz.2 (by simp)
theorem PX (l:List UInt8):JJ l=((!C4 (B1 l)||(DK l&&decide (B1 l=[48])))||(Cr l&&(!C4 (BY l)||decide (BY l=[48])||decide (BY l=[49])))):=by
 unfold JJ;rw[(R1 l).2.2.2]
theorem kP {l:List UInt8}(h:C4 l=true):l≠[]:=(J6 h).1
theorem Z7 {l:List UInt8}(h:0<l.length):(((l.getD (Int.toNat 0) 0).toNat:Int)==45)=DK l:=by
 cases l with
 |nil=>cases h
 |cons c l=>exact Px c l
theorem s7 (l:List UInt8)(hl:l.length<=100000):AK C0 165 [str (sb l)] (i64 (Ca l)):=by
 refine Ak.walk w1 qP rfl λF=>?_
 have hsz:=Ce l;obtain⟨p1,p2,p3,-⟩:=R1 l;have hdl:(Bn l).length<=l.length:=by
  unfold Bn;split
  ·rw[Dz];omega
  ·exact Ai _
 have hbf:=PX l;have hchk1:(!C4 (B1 l)||(DK l&&decide (B1 l=[48])))=true->Ca l=1:=λh=>by
  unfold Ca;rw[hbf,h,Bool.true_or,AH rfl]
 have hchk2:(Cr l&&(!C4 (BY l)||decide (BY l=[48])||decide (BY l=[49])))=true->Ca l=1:=λh=>by
  unfold Ca;rw[hbf,h,Bool.or_true,AH rfl]
 have hne:C4 (B1 l)=true->0<l.length:=λh=>by
  cases l with
  |nil=>exact AZ rfl (kP h)
  |cons c l=>rw[Bo];omega
 refine sR 0 ?_;refine sR 100 ?_;refine Cu (α:=Nat) (λn=>⟨[(0,str (sb l)),(3,str (sb (Bn l)))],[],n⟩) (λ_=>True) ?_ ?_
 ·rcases Db l.length with h0|h0
  ·have e0:l=[]:=ET h0
   have e1:decide (((sb []).size:Int)>0)=false:=rfl;have ed:Bn l=l:=by rw[e0];rfl
   rw[ed,e0];refine sZ 200 ?_;refine AV e1 ?_;refine AE kF ?_;refine AO ?_;refine Ap ?_;exact⟨rfl,_,trivial,AL⟩
  ·have e0:decide (((sb l).size:Int)>0)=true:=AY (by omega)
   have e1:=Z7 h0;refine sZ 200 ?_;refine AE e0 ?_;refine AE (At kT e0 e1) ?_;cases hb:DK l
   ·have ed:Bn l=l:=by unfold Bn;rw[hb];rfl
    rw[ed];refine AO ?_;refine Ap ?_;exact⟨rfl,_,trivial,AL⟩
   ·have ed:Bn l=l.drop 1:=by unfold Bn;rw[hb];rfl
    have ee:(sb l).extract (Int.toNat 1) l.length=sb (Bn l):=by
     rw[Ep,B9 (Ai _),ed];rfl
    refine AO ?_;refine Aq w1 300 (by kernel_rfl) ?_;refine AE (Ac hsz kN) ?_;rw[ee];exact⟨trivial,_,trivial,AL⟩
 rintro n0 -;have cs:=TC (Bn l) (by omega);have hle:=K9 (Bn l);have hszS:=Ce (Bn l);have hhs:Cr l=decide (BJ (Bn l)<(Bn l).length):=p3.symm;have e10:(sb (Bn l)).extract 0 (BJ (Bn l))=sb (B1 l):=by rw[<-p1,Ep,Fd];rfl
 have e11:(sb (Bn l)).extract (BJ (Bn l)+1) (Bn l).length=sb (BY l):=by rw[<-p2,Ep,B9 (Ai _)];rfl
 have hNl:BJ (Bn l)=(B1 l).length:=by rw[<-p1];exact iz _
 have hDl:(BY l).length=(Bn l).length-(BJ (Bn l)+1):=by rw[<-p2];unfold BY;rw[Dz]
 have pp:=λh1 h2=>S7 (Bn l) h1 h2 (by omega)
 unfold Ol Ob at pp;rw[p1,p2,p3]at pp;have edef:Ca l=if JJ l then 1 else if 600<(B1 l).length\/600<(BY l).length then 4 else if Cr l=true/\Nat.gcd (dv (B1 l)) (dv (BY l))≠1 then 1 else 0:=rfl
 rw[hbf]at edef;generalize hN:B1 l=Nn at*;generalize hD:BY l=Dn at*;generalize hH:Cr l=hv at*;generalize hK:Ca l=KnV at*;generalize Bn l=Sn at*;generalize BJ Sn=k at*;clear p1 p2 p3 hbf hN hD hH hK;have cf:=ah Nn (by omega);have cf2:=ah Dn (by omega);have q0:=Et Nn [48];have q1:=Et Dn [48];have q2:=Et Dn [49];refine sR 400 ?_;refine cI cs ?_;refine Cu (α:=Nat) (λn=>⟨[(0,str (sb l)),(3,str (sb Sn)),(4,i64 (k:Int))],[],n⟩) (λ_=>(!C4 Nn||(DK l&&decide (Nn=[48])))=false) ?_ ?_
 ·refine sZ 500 ?_
  refine AE (Ac hszS kN) ?_;refine AE e10 ?_;cases hp:C4 Nn
  ·rw[hp]at cf
   refine BF.same _ cf AJ ?_;refine BO ?_;simp only[RU];refine AE kT ?_;refine AO ?_;refine sR 600 ?_;refine Al ?_;exact AN (by rw[hchk1 (by rw[hp];rfl)];rfl) AA.out
  ·rw[hp]at cf
   have hl0:=hne hp;have e1:=Z7 hl0;refine BF.same _ cf AJ ?_;refine BO ?_;simp only[O9];refine AE (At kF hsz e1) ?_;have q0':BK (sb Nn) ⟨#[48]⟩=decide (Nn=[48]):=q0;cases hb:DK l
   ·refine AE kF ?_
    refine AO ?_;refine Ap ?_;exact⟨rfl,_,rfl,AL⟩
   ·refine AE (BW kT kF hszS kN) ?_
    refine AE (BW kT kF e10 q0') ?_
    by_cases h0:Nn=[48]
    ·rw[AY h0]
     refine AO ?_;refine sR 600 ?_;refine Al ?_;exact AN (by rw[hchk1 (by simp[hp,hb,h0])];rfl) AA.out
    ·rw[Ah h0]
     refine AO ?_;refine Ap ?_;exact⟨rfl,_,by simp,AL⟩
 rintro n1 hb1;clear hchk1 hne cf q0;refine Cu (α:=Nat) (λn=>⟨[(0,str (sb l)),(3,str (sb Sn)),(4,i64 (k:Int))],[],n⟩) (λ_=>(hv&&(!C4 Dn||decide (Dn=[48])||decide (Dn=[49])))=false) ?_ ?_
 ·cases hv
  ·have e40:decide ((k:Int)<(Sn.length:Int))=false:=Ah (by have:=DN hhs.symm;omega)
   refine sZ 700 ?_;refine AV (Ac hszS e40) ?_;refine AE kF ?_;refine AO ?_;refine Ap ?_;exact⟨rfl,_,rfl,AL⟩
  ·have hkl:=DA hhs.symm
   have e40:decide ((k:Int)<(Sn.length:Int))=true:=AY (by omega);have wk:IntKind.i64.wrap ((k:Int)+1)=((k+1:Nat):Int):=wI (by omega) (by omega);have q1':BK (sb Dn) ⟨#[48]⟩=decide (Dn=[48]):=q1;have q2':BK (sb Dn) ⟨#[49]⟩=decide (Dn=[49]):=q2;refine sZ 700 ?_;refine AV (Ac hszS e40) ?_;refine AE (BW kT wk hszS kN) ?_;simp only[e11];refine NR kT ?_;cases hp:C4 Dn
   ·rw[hp]at cf2
    refine BF.same _ cf2 AJ ?_;refine AE kB ?_;refine AE kT ?_;refine AO ?_;refine sR 800 ?_;refine Al ?_;exact AN (by rw[hchk2 (by simp[hp])];rfl) AA.out
   ·rw[hp]at cf2
    have e12:(sb Sn).extract (IntKind.i64.wrap ((k:Int)+1)).toNat (sb Sn).size=sb Dn:=by rw[wk,hszS,Int.toNat_natCast];exact e11
    refine BF.same _ cf2 AJ ?_;refine AE kB ?_;simp only[e12,q1']
    by_cases h48:Dn=[48]
    ·rw[AY h48]
     refine AE kT ?_;refine AO ?_;refine sR 800 ?_;refine Al ?_;exact AN (by rw[hchk2 (by simp[h48])];rfl) AA.out
    ·rw[Ah h48]
     refine AE kB ?_;simp only[e12,q2']
     by_cases h49:Dn=[49]
     ·rw[AY h49]
      refine AO ?_;refine sR 800 ?_;refine Al ?_;exact AN (by rw[hchk2 (by simp[h49])];rfl) AA.out
     ·rw[Ah h49]
      refine AO ?_;refine Ap ?_;exact⟨rfl,_,by simp,AL⟩
 rintro n2 hb2;clear hchk2 cf2 q1 q2 e10 e11 hsz;have hpN:C4 Nn=true:=by
  cases h:C4 Nn
  ·rw[h]at hb1;simp at hb1
  ·rfl
 have hpD:hv=true->C4 Dn=true:=λh0=>by
  cases h:C4 Dn
  ·rw[h,h0]at hb2;simp at hb2
  ·rfl
 rw[hb1,hb2]at edef;rw[AG (by decide)]at edef;have wl1:IntKind.i64.wrap ((Sn.length:Int)-(k:Int))=(Sn.length:Int)-(k:Int):=wI (by omega) (by omega);have wl2:IntKind.i64.wrap ((Sn.length:Int)-(k:Int)-1)=(Sn.length:Int)-(k:Int)-1:=wI (by omega) (by omega);have e91:decide ((Sn.length:Int)-(k:Int)-1>600)=decide (600<Dn.length):=Cz.2 (by omega);refine Cu (α:=Nat) (λn=>⟨[(3,str (sb Sn)),(4,i64 (k:Int))],[],n⟩) (λ_=>Nn.length<=600/\Dn.length<=600) ?_ ?_
 ·by_cases g1:600<k
  ·have e9:decide ((k:Int)>600)=true:=AY (by omega)
   rw[AH (.inl (by omega))]at edef;refine sZ 900 ?_;refine AV e9 ?_;refine AE kT ?_;refine AO ?_;refine sR 1000 ?_;refine Al ?_;exact AN (by rw[edef];rfl) AA.out
  ·have e9:decide ((k:Int)>600)=false:=Ah (by omega)
   refine sZ 900 ?_;refine AV e9 ?_;refine AE (CM kF hszS wl1 wl2 e91) ?_
   by_cases g2:600<Dn.length
   ·rw[AH (.inr g2)]at edef
    rw[AY g2];refine AO ?_;refine sR 1000 ?_;refine Al ?_;exact AN (by rw[edef];rfl) AA.out
   ·rw[Ah g2]
    refine AO ?_;refine Ap ?_;exact⟨rfl,_,⟨by omega,by omega⟩,AL⟩
 rintro n3 ⟨g1,g2⟩;rw[AG (by omega)]at edef;clear e91 wl1 wl2 hb1 hb2;obtain⟨-,dN⟩:=J6 hpN;refine Cu (α:=Nat) (λn=>⟨[],[],n⟩) (λ_=>KnV=0) ?_ ?_
 ·cases hv
  ·have e40:decide ((k:Int)<(Sn.length:Int))=false:=Ah (by have:=DN hhs.symm;omega)
   rw[AG (by simp)]at edef;refine sZ 1100 ?_;refine AV (Ac hszS e40) ?_;refine AO ?_;refine Ap ?_;exact⟨rfl,_,edef,AL⟩
  ·have hkl:=DA hhs.symm
   have e40:decide ((k:Int)<(Sn.length:Int))=true:=AY (by omega);obtain⟨-,dD⟩:=J6 (hpD rfl);have pa:=pp (by rw[J4 dN];exact dN) (by rw[J4 dD];exact dD);rw[AH rfl,Mk dN,Mk dD]at pa;have lN:(Aa (dv Nn)).length<1000000:=DW (K3 (CV (GB Nn dN) (NK (by decide) Nn.length))) (by omega);have lD:(Aa (dv Dn)).length<1000000:=DW (K3 (CV (GB Dn dD) (NK (by decide) Dn.length))) (by omega);have cg:AK C0 175 [rD ((dv Nn:Int)).natAbs,rD ((dv Dn:Int)).natAbs] (.sl false 1 ((Aa (Nat.gcd (dv Nn) (dv Dn))).map Ad)):=XE (dv Nn) (dv Dn) lN lD;have ht:=W6 (Nat.gcd (dv Nn) (dv Dn));have ed1:Nat.gcd (dv Nn) (dv Dn)≠1->KnV=1:=λh=>by rw[AH ⟨rfl,h⟩]at edef;exact edef
   have ed0:Nat.gcd (dv Nn) (dv Dn)=1->KnV=0:=λh=>by rw[AG (λhh=>hh.2 h)]at edef;exact edef
   clear edef;generalize Nat.gcd (dv Nn) (dv Dn)=gg at*;refine sZ 1100 ?_;refine AV (Ac hszS e40) ?_;refine AO ?_;refine sR 1200 ?_;refine cI pa ?_;refine sR 1300 ?_;refine cI cg ?_;rcases ht with⟨t1,a,ha,t2⟩|⟨t1,t2⟩
   ·have ha':=Dl ha
    have t1n:((((Aa gg).map Ad).length:Int) != 1)=false:=by unfold bne;rw[t1];rfl
    have t2n:((a:Int) != 1) = !decide (gg=1):=by unfold bne;rw[t2]
    refine sZ 1400 ?_;refine AV t1n ?_;refine AE kF ?_;refine Br kF ha' ?_;refine AE (Ac kF t2n) ?_
    by_cases hg1:gg=1
    ·rw[AY hg1]
     refine AO ?_;refine Ap ?_;exact⟨rfl,_,ed0 hg1,AL⟩
    ·rw[Ah hg1]
     refine AO ?_;refine sR 1500 ?_;refine Al ?_;exact AN (by rw[ed1 hg1];rfl) AA.out
   ·have edf:=ed1 t2
    have t1n:((((Aa gg).map Ad).length:Int) != 1)=true:=by unfold bne;rw[t1];rfl
    refine sZ 1400 ?_;refine AV t1n ?_;refine AE kT ?_;refine AO ?_;refine sR 1500 ?_;refine Al ?_;exact AN (by rw[edf];rfl) AA.out
 rintro n4 h0;refine sR 1600 ?_;refine Al ?_;exact AN (by rw[h0];rfl) AA.out
theorem kX {n k:Nat}(hn:n≠0)(hk:k<10):Lib.decDigits (n*10+k)=Lib.decDigits n++[UInt8.ofNat (48+k)]:=by
 rw[Lib.decDigits,dif_neg (by omega)]
 congr 2
 ·omega
 ·congr 2;omega
theorem XG {c:UInt8}(h:Be c=true):UInt8.ofNat (48+(c.toNat-48))=c:=by
 obtain⟨h1,h2⟩:=K6 h;rw[<-UInt8.toNat_inj,P8 _ (by omega)];omega
theorem lg (l:List UInt8)(c:UInt8):dv (l++[c])=dv l*10+(c.toNat-48):=by
 rw[Np];simp[dv,Gh]
theorem oH:∀(n:Nat) (l:List UInt8),l.length=n->l≠[]->l.all Be=true->l.head? ≠ some 48->dv l≠0/\Lib.decDigits (dv l)=l:=λn=>by
 induction n with
 |zero=>intro l h0 h1;exact AZ (ET h0) h1
 |succ n ih=>
  intro l h0 h1 h2 h3;rcases Ra l with rfl|⟨m,c,rfl⟩
  ·exact AZ rfl h1
  ·rw[RZ]at h0 h1 h2 h3⊢
   rw[Ks,Ba]at h2;have hc:Be c=true:=by simpa using h2.2
   obtain⟨c1,c2⟩:=K6 hc;rw[lg]
   by_cases hm:m=[]
   ·subst hm
    have hc48:c≠48:=λh=>h3 (by rw[h];rfl)
    have hcn:c.toNat≠48:=λh=>hc48 (UInt8.toNat_inj.1 h)
    have e0:dv []*10+(c.toNat-48)=c.toNat-48:=by simp[dv,Gh]
    rw[e0];refine⟨by omega,?_⟩;rw[Lib.decDigits,dif_pos (by omega),XG hc];rfl
   ·have hh:m.head? ≠ some 48:=by
     cases m with
     |nil=>exact AZ rfl hm
     |cons a m=>exact h3
    obtain⟨i1,i2⟩:=ih m (by rw[Bk,GQ]at h0;omega) hm h2.1 hh;refine⟨by omega,?_⟩;rw[kX i1 (by omega),i2,XG hc]
theorem SF {l:List UInt8}(h:C4 l=true):Lib.decDigits (dv l)=l/\(l≠[48]->dv l≠0):=by
 obtain⟨h1,h2⟩:=J6 h
 by_cases h0:l=[48]
 ·subst h0
  refine⟨?_,λhh=>AZ rfl hh⟩;show Lib.decDigits 0=[48];rw[Lib.decDigits,dif_pos (by decide)];rfl
 ·have h3:l.head? ≠ some 48:=by
   unfold C4 at h;rw[Ba,Ah h0,Bool.false_or]at h
   have:=h.2
   simpa using this
  obtain⟨a,b⟩:=oH _ l rfl h1 h2 h3;exact⟨b,λ_=>a⟩
theorem Xa:∀ {l:List UInt8},BJ l<l.length->l.drop (BJ l)=47::l.drop (BJ l+1)
 | [],h=>by cases h
 |c::l,h=>by
  by_cases hc:c=47
  ·subst hc;rfl
  ·have e1:BJ (c::l)=BJ l+1:=by
    unfold BJ;rw[O0,AH (by simpa using hc),Bo]
   rw[e1,Bo]at h;rw[e1,Rf,Rf];exact Xa (by omega)
def Gd (l:List UInt8):Nat:=if Cr l then dv (BY l)else 1
def CR (l:List UInt8):Rat:=mkRat (rv (Bz l)) (Gd l)
theorem iV {n:Int}{d:Nat}(hd:d≠0)(h:Nat.gcd n.natAbs d=1):(mkRat n d).num=n/\(mkRat n d).den=d:=by
 obtain⟨q1,q2⟩:=Sr (x:=n) hd;rw[h,Nat.div_one]at q1 q2;rw[Qs]at q1;exact⟨q1,q2⟩
theorem P7 {l:List UInt8}(h:Ca l=0):JJ l=false/\(B1 l).length<=600/\(BY l).length<=600/\(Cr l=true->Nat.gcd (dv (B1 l)) (dv (BY l))=1):=by
 unfold Ca at h;cases hb:JJ l
 ·rw[hb,AG (by decide)]at h
  split at h
  ·cases h
  ·rename_i h1
   split at h
   ·cases h
   ·rename_i h2
    refine⟨rfl,by omega,by omega,λh3=>?_⟩;rcases Nat.decEq (Nat.gcd (dv (B1 l)) (dv (BY l))) 1 with h4|h4
    ·exact AZ ⟨h3,h4⟩ h2
    ·exact h4
 ·rw[hb,AH rfl]at h;cases h
theorem No {l:List UInt8}(h:Ca l=0):(CR l).num=rv (Bz l)/\(CR l).den=Gd l/\BN (CR l)=l/\(rv (Bz l)).natAbs=dv (B1 l):=by
 obtain⟨h1,h2,h3,h4⟩:=P7 h;rw[PX]at h1;simp only[Ix]at h1;obtain⟨⟨b1,b2⟩,b3⟩:=h1;have p1:C4 (B1 l)=true:=by simpa using b1
 obtain⟨d1,d2⟩:=SF p1;have hab:(rv (Bz l)).natAbs=dv (B1 l):=by
  show(rv (Bz l)).natAbs=dv (Bn (Bz l));unfold rv;split<;>omega
 have hdd:Cr l=true->C4 (BY l)=true/\BY l≠[48]/\BY l≠[49]:=λhs=>by
  rw[hs,Hj]at b3;simp only[Ix]at b3;exact⟨by simpa using b3.1.1,DN b3.1.2,DN b3.2⟩
 have hd0:Gd l≠0:=by
  unfold Gd;cases hs:Cr l
  ·simp
  ·obtain⟨e1,e2,e3⟩:=hdd hs
   simpa using(SF e1).2 e2
 have hg:Nat.gcd (rv (Bz l)).natAbs (Gd l)=1:=by
  rw[hab];unfold Gd;cases hs:Cr l
  ·simp
  ·simpa using h4 hs
 obtain⟨m1,m2⟩:=iV hd0 hg;refine⟨m1,m2,?_,hab⟩;have hi:Lib.itoa (rv (Bz l))=Bz l:=by
  cases hb:DK (Bz l)
  ·have e1:B1 l=Bz l:=by unfold B1 Bn;rw[hb];rfl
   rw[e1]at d1;have e2:rv (Bz l)=(dv (Bz l):Int):=by unfold rv Bn;rw[hb];rfl
   rw[e2];unfold Lib.itoa;rw[AG (by omega)];exact d1
  ·obtain⟨m,hm⟩:∃m,Bz l=45::m:=by
    cases hn:Bz l with
    |nil=>rw[hn]at hb;cases hb
    |cons c m=>
     rw[hn]at hb;exact⟨m,by rw[show c=45 by simpa[DK]using hb]⟩
   have e1:B1 l=m:=by unfold B1;rw[hm];rfl
   have hne:B1 l≠[48]:=λh=>by
    have:=(R1 l).2.2.2
    rw[b2,hm]at this;have h2:=DN this;rw[e1]at h;exact h2 (by rw[h])
   have hpos:=d2 hne;rw[e1]at d1 hpos;have e2:rv (Bz l) = -(dv m:Int):=by rw[hm];rfl
   rw[e2];unfold Lib.itoa;rw[AH (by omega),L2,EO,d1,hm]
 unfold BN;rw[show(CR l).num=rv (Bz l)from m1,show(CR l).den=Gd l from m2,hi];have hle:=K9 l;cases hs:Cr l
 ·have e1:Gd l=1:=by unfold Gd;rw[hs];rfl
  have e2:=DN (p:=BJ l<l.length) hs;rw[AH e1];unfold Bz;exact B9 (by omega)
 ·obtain⟨e1,e2,e3⟩:=hdd hs
  have e4:Gd l=dv (BY l):=by unfold Gd;rw[hs];rfl
  have e5:=(SF e1).1;have e6:dv (BY l)≠1:=λh=>by
   rw[h,Lib.decDigits,dif_pos (by decide)]at e5;exact e3 e5.symm
  rw[e4,AG e6,e5];unfold Bz BY;rw[<-Xa (DA hs),Ez]
theorem PR {l:List UInt8}(h:Ca l=0):(B1 l).all Be=true/\(Cr l=true->(BY l).all Be=true):=by
 obtain⟨h1,-,-,-⟩:=P7 h;rw[PX]at h1;simp only[Ix]at h1;obtain⟨⟨b1,-⟩,b3⟩:=h1;refine⟨(J6 (by simpa using b1)).2,λhs=>?_⟩;rw[hs,Hj]at b3;simp only[Ix]at b3;exact(J6 (by simpa using b3.1.1)).2
theorem Mg {l:List UInt8}(h:Ca l=0):rk (CR l) 600:=by
 obtain⟨m1,m2,-,m4⟩:=No h;obtain⟨-,h2,h3,-⟩:=P7 h;obtain⟨p1,p2⟩:=PR h;have hb:∀k,(10:Nat)^k<=BB^k:=λk=>NK (by decide) k
 refine⟨?_,?_⟩
 ·rw[m1,m4]
  exact BR (Gq (CV (GB _ p1) (hb _))) h2
 ·rw[m2]
  unfold Gd;cases hs:Cr l
  ·exact BR (Gq (n:=1) (k:=1) (by decide)) (by decide)
  ·exact BR (Gq (CV (GB _ (p2 hs)) (hb _))) h3
theorem Qn {l:List UInt8}(h:Ca l=0):FR (CR l) (GC l) 600:=by
 obtain⟨m1,m2,-,-⟩:=No h;refine⟨⟨Cf _,?_,?_⟩,Mg h⟩
 ·show(AX (rv (Bz l))).z=_
  rw[Di,m1]
 ·show(if Cr l then dv (BY l)else 1)=_
  rw[m2];rfl
theorem Qa {l:List UInt8}(hl:l.length<=100000)(h:Ca l=0):AK C0 103 [str (sb l)] (GC l).D:=mc l hl (PR h).1 (PR h).2
end Go.Ide
