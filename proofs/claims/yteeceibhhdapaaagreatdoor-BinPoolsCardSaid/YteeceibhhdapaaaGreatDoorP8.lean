/- The layer of own lemmas and contracts, part 8. -/
import Derived.Test.YteeceibhhdapaaaGreatDoorP7
set_option linter.unusedVariables false
set_option linter.unusedSimpArgs false
namespace Go.Ide
open Go.Proofs Go.RowKit
set_option maxRecDepth 20000
def Ch (b:Nat):Bool:=((decide (97<=b)&&decide (b<=122))||(decide (65<=b)&&decide (b<=90)))||(decide (48<=b)&&decide (b<=57))||b==45||b==95||b==46
def Co (l:List UInt8):Bool:=l.all (λb=>Ch b.toNat)&&(decide (1<=l.length)&&decide (l.length<=24))
theorem bC (s:ByteArray)(p:Nat)(hp:p<s.size):s.data.toList[p]?=some (s.get! p):=by
 have hp':p<s.data.size:=hp;rw[KN,Bd hp']
 congr 1
 show _=s.data[p]!;rw[getElem!_pos s.data p hp']
theorem Ww (s:ByteArray)(p:Nat)(h:(s.get! p).toNat<128):Utf8.decode s p=((s.get! p).toNat,1):=by
 unfold Utf8.decode;exact AF h
theorem jP (s:ByteArray)(p:Nat)(h:¬(s.get! p).toNat<128):128<=(Utf8.decode s p).1:=by
 unfold Utf8.decode;dsimp only;simp only[DM];rw[AE h];have hv:128<=Utf8.runeError:=by decide
 repeat' split
 all_goals first|exact hv|(rename_i h1;simp only[ge_iff_le,BZ,Gw]at h1;dsimp only;omega)
theorem gF (s:ByteArray):AK C0 56 [str s] (Aq (Co s.data.toList)):=by
 refine Ai.walk w1 aH rfl λB=>?_
 have hsz:s.data.toList.length=s.size:=HT;refine fR 0 ?_;refine AC.seq ?_;refine AC.seq ?_;refine vI w1 100 [0] 1 rfl (by kernel_rfl) rfl ?_;refine B8 ?_;intro F hF;refine As ?_;refine AC.block ?_;refine Fr (α:=Nat×Nat) (λp=>⟨[(0,str s),(7,.optr 101 2 0 0 0)],[],p.2⟩) (λp=>s.size-p.1) (λp F=>L3 C0 B F 101 2 s p.1/\p.1<=s.size/\(s.data.toList.take p.1).all (λb=>Ch b.toNat)=true) (0,3) ⟨hF,BR _,rfl⟩ AI ?_;rintro⟨p,n⟩ F ⟨hIt,hp,hall⟩;dsimp only at hIt hp hall⊢;refine AC.seq ?_;refine vH w1 200 0 [1] rfl (by kernel_rfl) s p ?_;refine And.intro hIt (And.intro (λhlt F hIt=>?_) (λhge=>?_))
 ·refine B8 ?_
  generalize hc:(Utf8.decode s p).1=c;refine AC.seq ?_;refine AL ?_;refine Aj ?_;refine AC.block ?_;refine fR 300 ?_;refine FU ⟨[(0,str s),(7,.optr 101 2 0 0 0),(4,.prim (.int .i32 c)),(5,Aq ((decide ((c:Int)>=97)&&decide ((c:Int)<=122))||(decide ((c:Int)>=65)&&decide ((c:Int)<=90))))],[],n+30⟩ (An w1 400 (by kernel_rfl) ?_) ?_
  ·repeat'(first|(refine And.intro (by exact B4) ?_;refine As ?_)|((refine Br (λhb=>?_) (λhb=>?_))<;>(try simp only[Bf,Bp]at hb)<;>(try simp only[hb])<;>(refine As ?_)))
   all_goals exact AI
  generalize hL:((decide ((c:Int)>=97)&&decide ((c:Int)<=122))||(decide ((c:Int)>=65)&&decide ((c:Int)<=90)))=L;refine FU ⟨[(0,str s),(7,.optr 101 2 0 0 0),(47,Aq ((((!L && !(decide ((c:Int)>=48)&&decide ((c:Int)<=57)))&&((c:Int) != 45))&&((c:Int) != 95))&&((c:Int) != 46)))],[],n+60⟩ (An w1 500 (by kernel_rfl) ?_) ?_
  ·repeat'(first|(refine And.intro (by exact B4) ?_;refine As ?_)|((refine Br (λhb=>?_) (λhb=>?_))<;>(try simp only[Bf,Bp]at hb)<;>(try simp only[hb])<;>(refine As ?_)))
   all_goals exact AI
  have hbad:((((!L && !(decide ((c:Int)>=48)&&decide ((c:Int)<=57)))&&((c:Int) != 45))&&((c:Int) != 95))&&((c:Int) != 46)) = !(Ch c):=by
   subst hL;rw[GW];simp only[Ch,BZ,Bf,JO,Bool.and_eq_false_iff,KM,bne_iff_ne,ne_eq,B6];omega
  rw[hbad];refine AL ?_
  (refine Br (λhb=>?_) (λhb=>?_))<;>(try simp only[Bf,Bp]at hb)<;>(try simp only[hb])
  ·have hbf:Ch c=false:=by simpa using hb
   refine fR 600 ?_;refine Ab ?_;refine AO ?_ AA.out;have hb8:Ch (s.get! p).toNat=false:=by
    by_cases hlow:(s.get! p).toNat<128
    ·rw[Ww s p hlow]at hc
     rw[show(s.get! p).toNat=c from hc];exact hbf
    ·unfold Ch;simp;omega
   have:Co s.data.toList=false:=by
    unfold Co
    have:s.data.toList.all (λb=>Ch b.toNat)=false:=by
     rw[List.all_eq_false];exact⟨_,A8 (bC s p hlt),by rw[hb8];simp⟩
    rw[this];rfl
   rw[this]
  ·have hbt:Ch c=true:=by simpa using hb
   have hclt:c<128:=by
    unfold Ch at hbt;simp only[Me,BZ,Gw,Dw]at hbt;omega
   have hlow:(s.get! p).toNat<128:=by
    apply Ct;intro h
    have:=jP s p h
    omega
   rw[Ww s p hlow]at hc hIt;refine Aj ?_;refine⟨(p+1,n+60),⟨hIt,hlt,?_⟩,by dsimp only;omega,AI⟩;rw[Dv,bC s p hlt,LS,hall];simp;rw[show(s.get! p).toNat=c from hc];exact hbt
 ·have hpe:p=s.size:=by omega
  refine B8 ?_;refine AC.seq ?_;refine AL ?_;refine B7 ?_;refine FU ⟨[(2,Aq (decide (1<=(s.size:Int))&&decide ((s.size:Int)<=24)))],[],n+60⟩ (An w1 700 (by kernel_rfl) ?_) ?_
  ·repeat'(first|(refine And.intro (by exact B4) ?_;refine As ?_)|((refine Br (λhb=>?_) (λhb=>?_))<;>(try simp only[Bf,Bp]at hb)<;>(try simp only[hb])<;>(refine As ?_)))
   all_goals exact AI
  refine Ab ?_;refine AO ?_ AA.out;have hall':s.data.toList.all (λb=>Ch b.toNat)=true:=by rw[<-hall,hpe,<-hsz,DL]
  unfold Co;rw[hall',If,hsz];have e:(decide (1<=(s.size:Int))&&decide ((s.size:Int)<=24))=(decide (1<=s.size)&&decide (s.size<=24)):=by
   rw[GW];simp only[BZ,Gw];omega
  rw[<-e]
def Tf:Value->Value->Bool
 | .int .i64 a,.int .i64 b=>a==b
 | .string a,.string b=>a.data.toList==b.data.toList
 | .bool a,.bool b=>a==b
 | .slice none 0 0,.slice none 0 0=>true
 |_,_=>false
theorem ig {a b:Value}(h:Tf a b=true):a=b:=by
 unfold Tf at h;split at h
 ·rw[eq_of_beq h]
 ·rename_i a b
  have:=eq_of_beq h
  congr 1
  exact ByteArray.ext (Array.toList_inj.1 this)
 ·rw[eq_of_beq h]
 ·rfl
 ·cases h
def KT (f:D->D->Bool):List D->List D->Bool
 | [],[]=>true
 |a::l,b::m=>f a b&&KT f l m
 |_,_=>false
theorem QJ {f:D->D->Bool}(hf:∀a b,f a b=true->a=b):∀ {l m:List D},KT f l m=true->l=m
 | [],[],_=>rfl
 |a::l,b::m,h=>by
  simp only[KT,BZ]at h;rw[hf a b h.1,QJ hf h.2]
 | [],_::_,h=>by simp[KT]at h
 |_::_,[],h=>by simp[KT]at h
def Mo:Nat->D->D->Bool
 | 0,_,_=>false
 |n+1,a,b=>match a,b with
  | .prim a,.prim b=>Tf a b
  | .agg l,.agg m=>KT (Mo n) l m
  | .sl x y l,.sl x' y' m=>(x==x')&&Nat.beq y y'&&KT (Mo n) l m
  |_,_=>false
theorem Sv:∀(n:Nat) (a b:D),Mo n a b=true->a=b
 | 0,_,_,h=>by simp[Mo]at h
 |n+1,a,b,h=>by
  unfold Mo at h;split at h
  ·rw[ig h]
  ·rw[QJ (Sv n) h]
  ·simp only[BZ]at h
   rw[eq_of_beq h.1.1,Bz h.1.2,QJ (Sv n) h.2]
  ·cases h
def vm:Nat->Nat->List UInt8
 | 0,_=>[]
 |k+1,u=>match Nat.blt u 10 with
  |true=>[UInt8.ofNat (48+u)]
  |false=>vm k (u/10)++[UInt8.ofNat (48+u%10)]
def RI (t:Nat)(name:String):Option Nat:=match Nat.beq t 141 with
 |true=>match decide (name = "Cmp")with
  |true=>some 232
  |false=>none
 |false=>none
theorem Y9 (t:Nat)(name:String)(f:Nat)(h:RI t name=some f)(v:Value)(w:World):(method (C0.P.types.size+Made.depth) t v name).run C0.P w=.ok (f,v) w:=by
 unfold RI at h;split at h<;>try(cases h;done)
 rename_i ht;split at h<;>try(cases h;done)
 rename_i hn;obtain rfl:=Bz ht;obtain rfl:=Cz hn;cases h
 kernel_rfl
def vM:Ay:=⟨.arr 256 1 false,256,256,true,.agg (Array.replicate 256 (.bool false))⟩
noncomputable def Ol (t:Nat):Option Ay:=match Nat.beq t 323 with
 |true=>some vM
 |false=>Oi.get t
theorem UB:Cb C0.P Ol:=λt i h=>by
 unfold Ol at h;split at h
 ·rename_i ht
  obtain rfl:=Bz ht;cases h
  kernel_rfl
 ·exact bh t i h
set_option maxHeartbeats 2000000
def Ba (c:UInt8):Bool:=Nat.ble 48 c.toNat&&Nat.ble c.toNat 57
def Gs:D:=.agg ((List.range 256).map λi=>Aq (Nat.ble 48 i&&Nat.ble i 57))
abbrev RO:List UInt8:=[48,49,50,51,52,53,54,55,56,57]
noncomputable def X4:EV:=⟨Ol,LY.get,Mr.get,λ_=>false,λ_ _=>none,λ_ _=>none,KF⟩
theorem Tw:FB C0 X4:=⟨UB,Qo,JU,λ_ _ _ h=>by simp[X4]at h,by kernel_rfl,λ_ _ _ h=>by simp[X4]at h,Pp⟩
theorem w4:C7 C0 X4:=Tw.w
theorem dh:AK C0 310 [str (sb RO)] (.tup [Gs,Aq true]):=CD Tw 1000 40 (by kernel_rfl)
def T8 (o:Option D)(b:Bool):Bool:=match o with
 |some (.prim (.bool c))=>c==b
 |_=>false
theorem g8 {o:Option D}{b:Bool}(h:T8 o b=true):o=some (Aq b):=by
 unfold T8 at h;split at h
 ·rw[Dw]at h;subst h;rfl
 ·cases h
theorem cY:((List.range 256).all λc=>T8 ((GL X4 1000 40).1 319 [.pptr Gs,.prim (.int .u8 (c:Nat))]) (Nat.ble 48 c&&Nat.ble c 57))=true:=by kernel_rfl
theorem Ug (c:UInt8):AK C0 319 [.pptr Gs,.prim (.int .u8 (c.toNat:Nat))] (Aq (Ba c)):=by
 refine CD Tw 1000 40 ?_;have h:=CI.1 cY c.toNat (List.mem_range.2 c.toNat_lt);exact g8 h
instance:Ak Gs:=⟨λc hc=>by
 change c∈(List.range 256).map (λi=>Aq (Nat.ble 48 i&&Nat.ble i 57))at hc;obtain⟨i,_,rfl⟩:=List.mem_map.1 hc;exact .prim _⟩
def F7 (l:List UInt8):List UInt8:=(l.reverse.dropWhile Ba).reverse
theorem eF (m:List UInt8)(c:UInt8):F7 (m++[c])=if Ba c then F7 m else m++[c]:=by
 unfold F7;rw[List.reverse_append,List.reverse_singleton,List.singleton_append,Mj];split
 ·rfl
 ·rw[List.reverse_cons,List.reverse_reverse]
theorem jX (l:List UInt8):((F7 l).dropWhile Ba=[])↔l.all Ba=true:=by
 constructor
 ·intro h
  have h1:∀m:List UInt8,m.dropWhile Ba=[]->m.all Ba=true:=λm=>by
   induction m with
   |nil=>intro _;rfl
   |cons c m ih=>
    intro hm;rw[Mj]at hm;split at hm
    ·rename_i hc
     rw[GJ,hc,ih hm];rfl
    ·cases hm
  have h2:(l.reverse.dropWhile Ba).all Ba=true:=by
   have:=h1 _ h
   unfold F7 at this
   rwa [List.all_reverse]at this
  have h3:∀m:List UInt8,(m.dropWhile Ba).all Ba=true->m.all Ba=true:=λm=>by
   induction m with
   |nil=>intro _;rfl
   |cons c m ih=>
    intro hm;rw[Mj]at hm;split at hm
    ·rename_i hc
     rw[GJ,hc,ih hm];rfl
    ·exact hm
  have:=h3 _ h2
  rwa [List.all_reverse]at this
 ·intro h
  have h1:∀m:List UInt8,m.all Ba=true->m.dropWhile Ba=[]:=λm=>by
   induction m with
   |nil=>intro _;rfl
   |cons c m ih=>
    intro hm;rw[GJ,BZ]at hm;rw[Mj,AF hm.1];exact ih hm.2
  have hx:=h1 l.reverse (by rw[List.all_reverse];exact h);unfold F7;rw[hx];rfl
theorem dL (l:List UInt8)(hl:l.length<=1000000000):AK C0 311 [str (sb l),.pptr Gs] (str (sb (l.dropWhile Ba))):=by
 refine Ai.walk w1 Zm rfl λF=>?_
 have hps:Ak Gs:=AH;have hcc:=Ug;generalize Gs=sd at*;refine sR 0 ?_;refine AC.seq ?_;refine AC.block ?_;refine AC.loop (α:=List UInt8×Nat) (λp=>⟨[(0,str (sb p.1)),(1,.pptr sd)],[],p.2⟩) (λp=>p.1.length) (λp=>p.1.dropWhile Ba=l.dropWhile Ba/\p.1.length<=l.length) (l,_) ⟨rfl,Ag _⟩ AI ?_;rintro⟨m,n⟩ F ⟨h1,h2⟩;dsimp only at h1 h2⊢;refine AC.seq ?_;refine AC.seq ?_;cases m with
 |nil=>
  have e1:decide (((sb []).size:Int)>0)=false:=rfl;refine An w1 100 (by kernel_rfl) ?_;refine AT e1 ?_;refine AL ?_;refine B7 ?_;refine sR 400 ?_;refine Ab ?_;exact AO (by rw[<-h1];rfl) AA.out
 |cons c m=>
  have hsz:=CN (c::m);have e1:decide (((sb (c::m)).size:Int)>0)=true:=AX (by rw[hsz,Bl];omega);have hx:(((sb (c::m)).data.toList.getD ((0:Int)).toNat 0).toNat:Int)=(c.toNat:Int):=rfl;have b1:(0:Int)<((sb (c::m)).size:Int):=by rw[hsz,Bl];omega
  have b2:(1:Int)<=((sb (c::m)).size:Int):=by omega
  have e3:(sb (c::m)).extract ((1:Int)).toNat (sb (c::m)).size=sb m:=by
   rw[EH,hsz,B1 (Ag _)];rfl
  have cc:=hcc c;refine An w1 100 (by kernel_rfl) ?_;refine AT e1 ?_;refine AL ?_;refine Aj ?_;refine AC.block ?_;refine AC.seq ?_;refine sZ 200 ?_;refine AT hx ?_;refine cI cc ?_;rcases hb:Ba c with _|_
  ·refine AL ?_
   refine B7 ?_;refine sR 400 ?_;refine Ab ?_;refine AO ?_ AA.out;rw[<-h1,Mj,AE (by rw[hb];simp)]
  ·refine AL ?_
   refine Aj ?_;refine An w1 300 (by kernel_rfl) ?_;refine AT e3 ?_;refine⟨(m,_),⟨?_,?_⟩,?_,AI⟩
   ·rw[<-h1,Mj,AF hb]
   ·rw[Bl]at h2;dsimp only;omega
   ·show m.length<m.length+1;omega
theorem dH (l:List UInt8)(hl:l.length<=1000000000):AK C0 312 [str (sb l),.pptr Gs] (str (sb (F7 l))):=by
 refine Ai.walk w1 Zn rfl λF=>?_
 have hps:Ak Gs:=AH;have hcc:=Ug;generalize Gs=sd at*;refine sR 0 ?_;refine AC.seq ?_;refine AC.block ?_;refine AC.loop (α:=List UInt8×Nat) (λp=>⟨[(0,str (sb p.1)),(1,.pptr sd)],[],p.2⟩) (λp=>p.1.length) (λp=>F7 p.1=F7 l/\p.1.length<=l.length) (l,_) ⟨rfl,Ag _⟩ AI ?_;rintro⟨m,n⟩ F ⟨h1,h2⟩;dsimp only at h1 h2⊢;refine AC.seq ?_;refine AC.seq ?_;rcases Q3 m with rfl|⟨m,c,rfl⟩
 ·have e1:decide (((sb []).size:Int)>0)=false:=rfl
  refine An w1 100 (by kernel_rfl) ?_;refine AT e1 ?_;refine AL ?_;refine B7 ?_;refine sR 400 ?_;refine Ab ?_;exact AO (by rw[<-h1];rfl) AA.out
 ·rw[Q1]at h1 h2⊢
  have hsz:=CN (m++[c]);rw[B3,Ga]at hsz h2;have e1:decide (((sb (m++[c])).size:Int)>0)=true:=AX (by rw[hsz];omega);have wk1:IntKind.i64.wrap (((sb (m++[c])).size:Int)-1)=(m.length:Int):=by rw[hsz,wI (by omega) (by omega)];omega
  have hx:(((sb (m++[c])).data.toList.getD (((m.length:Nat):Int)).toNat 0).toNat:Int)=(c.toNat:Int):=by
   show(((m++[c]).getD m.length 0).toNat:Int)=_;simp
  have b1:((m.length:Nat):Int)<((sb (m++[c])).size:Int):=by rw[hsz];omega
  have e3:(sb (m++[c])).extract 0 (((m.length:Nat):Int)).toNat=sb m:=by
   rw[EH];simp
  have cc:=hcc c;have ht:=eF m c;refine An w1 100 (by kernel_rfl) ?_;refine AT e1 ?_;refine AL ?_;refine Aj ?_;refine AC.block ?_;refine AC.seq ?_;refine sZ 200 ?_;refine AT (Ac wk1 hx) ?_;refine cI cc ?_;rcases hb:Ba c with _|_
  ·rw[AE (by rw[hb];simp)]at ht
   refine AL ?_;refine B7 ?_;refine sR 400 ?_;refine Ab ?_;exact AO (by rw[<-h1,ht]) AA.out
  ·rw[AF hb]at ht
   refine AL ?_;refine Aj ?_;refine An w1 300 (by kernel_rfl) ?_;refine AT (Ac wk1 e3) ?_;refine⟨(m,_),⟨by rw[<-h1,ht],by dsimp only;omega⟩,?_,AI⟩;dsimp only;rw[B3,Ga];omega
namespace TrimW
theorem w1:C7 C0 X4:=w4
theorem trim_ok (l:List UInt8)(hl:l.length<=1000000000):AK C0 296 [str (sb l),str (sb RO)] (str (sb ((F7 l).dropWhile Ba))):=by
 refine Ai.walk w1 Zl rfl λF=>?_
 have cm:=dh;have c1:=dH l hl;have hlr:(F7 l).length<=1000000000:=by
  unfold F7;rw[List.length_reverse];exact BO (List.dropWhile_sublist _).length_le (by rw[List.length_reverse];exact hl)
 have c2:=dL (F7 l) hlr;have hps:Ak Gs:=AH;have eS:=EN l [];have e2:(((sb RO).size:Int)==1)=false:=rfl;have e4:Bj (sb RO) (sb [])=false:=by rw[EN];exact Af (by simp)
 have hfit:Bn true 256 Gs:=by
  have h:((List.range 256).map λi=>Aq (Nat.ble 48 i&&Nat.ble i 57)).length=256:=by rw[Ap,List.length_range]
  have:=Bn.agg (ds:=(List.range 256).map λi=>Aq (Nat.ble 48 i&&Nat.ble i 57))
  rw[h]at this;exact this
 refine sR 0 ?_
 by_cases h0:l=[]
 ·subst h0
  have eS':Bj (sb []) (sb [])=true:=by rw[EN];exact AX rfl
  refine AC.seq ?_;refine sZ 100 ?_;refine AT eS' ?_;refine AD (Ac eS' kT) ?_;refine AL ?_;refine sR 200 ?_;refine Ab ?_;exact AO rfl AA.out
 ·rw[Af h0]at eS
  refine AC.seq ?_;refine sZ 100 ?_;refine AT eS ?_;refine AD (At eS e4 kF) ?_;refine AD (At eS e4 kF) ?_;refine AL ?_;refine Aj ?_;refine AC.seq ?_;refine sZ 300 ?_;refine AT e2 ?_;refine AD e2 ?_;refine AD e2 ?_;refine AL ?_;refine Aj ?_;refine AC.seq ?_;refine sR 500 ?_;refine Az.same _ cm AH ?_;refine As ?_;generalize Gs=sd at*
  repeat(refine D1 rfl rfl ?_;refine Hk (λ_ _=>rfl) ?_)
  refine NC (And.intro (by repeat'(first|exact hfit|refine And.intro ?_ ?_|exact B4)) ?_);refine As ?_;refine sR 600 ?_;refine AL ?_;refine sR 700 ?_;refine Az.own _ (Ic c1 rfl ?_ AH (JF.prim _)) ?_
  ·intro i x y hx hy
   match i with
   | 0=>simp at hx hy;subst hx;subst hy;exact DG.refl _ _
   | 1=>simp at hx hy;subst hx;subst hy;exact DG.ptr rfl rfl rfl rfl
   |i+2=>simp at hx
  rintro d H' n' ⟨rfl,rfl,rfl⟩;refine BL ?_;refine Az.own _ (Ic c2 rfl ?_ AH (JF.prim _)) ?_
  ·intro i x y hx hy
   match i with
   | 0=>simp at hx hy;subst hx;subst hy;exact DG.refl _ _
   | 1=>simp at hx hy;subst hx;subst hy;exact DG.ptr rfl rfl rfl rfl
   |i+2=>simp at hx
  rintro d H' n' ⟨rfl,rfl,rfl⟩;refine BL ?_;refine Ab ?_;exact AO rfl AA.out
end TrimW
def Gd (a:Nat)(l:List UInt8):Nat:=l.foldl (λa c=>a*10+(c.toNat-48)) a
def dv (l:List UInt8):Nat:=Gd 0 l
theorem X9 (l:List UInt8):∀a,Gd a l=a*10^l.length+dv l:=by
 induction l with
 |nil=>intro a;simp[Gd,dv]
 |cons c l ih=>
  intro a;have h1:∀b,Gd b (c::l)=Gd (b*10+(c.toNat-48)) l:=λb=>rfl
  have h2:dv (c::l)=Gd (0*10+(c.toNat-48)) l:=rfl;rw[h1,h2,ih,ih (0*10+(c.toNat-48)),Bl,CG];rw[Bq,GZ,BQ,Bs,BP 10];omega
theorem NF (l m:List UInt8):dv (l++m)=dv l*10^m.length+dv m:=by
 have:dv (l++m)=Gd (dv l) m:=by unfold dv Gd;rw[List.foldl_append]
 rw[this,X9]
theorem dB (l:List UInt8):∀a,l.all Ba=true->Lib.decFrom a l=some (Gd a l):=by
 induction l with
 |nil=>intro a _;rfl
 |cons c l ih=>
  intro a h;rw[GJ,BZ]at h;have hd:Lib.digitVal c=some (c.toNat-48):=by
   have h1:=h.1;unfold Ba at h1;rw[BZ]at h1;unfold Lib.digitVal;rw[AF ⟨Be h1.1,Be h1.2⟩]
  rw[Lib.decFrom,hd];exact ih _ h.2
theorem Ke {c:UInt8}(h:Ba c=true):48<=c.toNat/\c.toNat<=57:=by
 unfold Ba at h;rw[BZ]at h;exact⟨Be h.1,Be h.2⟩
theorem jG {l:List UInt8}(h0:l≠[])(h:l.all Ba=true):Lib.atoi l=some (dv l:Int):=by
 cases l with
 |nil=>exact AY rfl h0
 |cons c l=>
  have hc:Ba c=true:=by rw[GJ,BZ]at h;exact h.1
  obtain⟨c1,c2⟩:=Ke hc;have e1:(c==45)=false:=by
   rw[B6];intro hh;subst hh;simp at c1
  have e2:(c==43)=false:=by
   rw[B6];intro hh;subst hh;simp at c1
  unfold Lib.atoi;dsimp only;rw[e1,e2];simp only[HS,if_false];unfold Lib.decNat;simp only[List.isEmpty_cons,HS,if_false];rw[dB _ _ h];rfl
theorem F8 (l:List UInt8)(h:l.all Ba=true):dv l<10^l.length:=by
 induction l with
 |nil=>decide
 |cons c l ih=>
  rw[GJ,BZ]at h;have h1:dv (c::l)=Gd (0*10+(c.toNat-48)) l:=rfl;have h2:=ih h.2;obtain⟨c1,c2⟩:=Ke h.1;rw[h1,X9,GZ,BQ,Bl,CG,BP _ 10];have h3:(c.toNat-48)*10^l.length<=9*10^l.length:=CF _ (by omega);omega
def T9 (o:Option D)(z:Int):Bool:=match o with
 |some (.agg [.prim (.int .i64 a),.prim (.slice none 0 0)])=>a==z
 |_=>false
theorem g9 {o:Option D}{z:Int}(h:T9 o z=true):o=some (Cs z):=by
 unfold T9 at h;split at h
 ·rw[Dw]at h;subst h;rfl
 ·cases h
theorem kZ:((List.range 19).all λk=>T9 ((GL X1 1000 60).1 192 [Cs 10,i64 (k:Nat)]) ((10^k:Nat):Int))=true:=by kernel_rfl
theorem r7 (k:Nat)(h:k<19):AK C0 192 [Cs 10,i64 k] (Cs ((10^k:Nat):Int)):=by
 refine CD DO 1000 60 ?_;exact g9 (CI.1 kZ k (List.mem_range.2 h))
theorem Tt {n:Nat}(h:n<9223372036854775808):Cs (n:Int)=(AV (n:Int)).D:=by
 rw[I1 ⟨by omega,by omega⟩];rfl
theorem u7 (a b:Nat)(ha:(Ae a).length<1000000)(hb:(Ae b).length<1000000):AK C0 154 [(AV (a:Int)).D,(AV (b:Int)).D] (AV ((a+b:Nat):Int)).D:=by
 have:=Nu (AV (a:Int)) (AV (b:Int)) (CY _) (CY _) (Hc ha) (Hc hb)
 have e:D5 (AV (a:Int)) (AV (b:Int))=AV ((a+b:Nat):Int):=by
  have h1:=L7 (AV (a:Int)) (AV (b:Int));rw[De,De]at h1;rw[Nr (Lv _ _) (by rw[h1];omega),h1]
  congr 1
 rw[e]at this;exact this
theorem Lf {n k:Nat}(h:n<10^k):(Ae n).length<=k:=GN (CP h (Mm (by decide) k))
def rv (l:List UInt8):Int:=if DA l then -(dv (Bk l):Int)else dv (Bk l)
theorem ke (k:Nat)(h:k<19):AK C0 192 [Cs 10,i64 k] (AV ((10^k:Nat):Int)).D:=by
 have:=r7 k h
 have h2:10^k<9223372036854775808:=DF (FJ (by decide) (show k<=18 by omega)) (by decide)
 rwa [Tt h2]at this
theorem rV (n:Nat)(h:n<9223372036854775808):AK C0 152 [i64 n] (AV (n:Int)).D:=by
 have:=Nz (n:Int)
 rwa [Tt h]at this
theorem Pu (l:List UInt8)(hd:(Bk l).all Ba=true)(hl:l.length<=100000):AK C0 149 [str (sb l)] (AV (rv l)).D:=by
 refine Ai.walk w1 YC rfl λF=>?_
 have c1:=cJ l (by omega);have c2:=RU l (by omega);have hml:(Bk l).length<=100000:=by
  unfold Bk;split
  ·rw[DY];omega
  ·exact hl
 unfold rv;generalize hm0:Bk l=m0 at*;generalize DA l=ng at*;generalize sb l=sl at*;have ez:Cs 0=(AV ((0:Nat):Int)).D:=Tt (by decide);have hpm:∀n:Nat,AA (AV (n:Int)).w:=λn=>AH
 refine sR 0 ?_;refine sR 100 ?_;refine cI c1 ?_;refine sR 200 ?_;refine cI c2 ?_;refine sR 300 ?_;refine Cp (α:=Nat) (λn=>⟨[(2,.optr 0 0 2 0 0),(3,Aq ng),(4,.optr 301 8 2 0 0)],[⟨301,8,139,2,[(AV (dv m0:Int)).D]⟩,⟨0,0,139,2,[Cs 0]⟩],n⟩) (λ_=>True) ?_ ?_
 ·refine AC.block ?_
  refine Fr (α:=List UInt8×Nat×Nat) (λp=>⟨[(0,str (sb p.1)),(2,.optr 0 0 2 0 0),(3,Aq ng),(4,.optr 301 8 2 0 0)],[⟨301,8,139,2,[(AV (p.2.1:Int)).D]⟩,⟨0,0,139,2,[Cs 0]⟩],p.2.2⟩) (λp=>p.1.length)
   (λp F'=>F'=F/\p.1.all Ba=true/\p.1.length<=m0.length/\p.2.1<10^(m0.length-p.1.length)/\dv m0=p.2.1*10^p.1.length+dv p.1) (m0,0,20) ⟨rfl,hd,Ag _,by simp,by simp⟩ (by rw[<-ez];exact AI) ?_
  rintro⟨m,A,n⟩ F' ⟨rfl,h1,h2,h3,h4⟩;dsimp only at h1 h2 h3 h4⊢;refine AC.seq ?_;refine AC.seq ?_
  by_cases hm:m=[]
  ·subst hm
   have e1:decide (((sb []).size:Int)>0)=false:=rfl;have hA:dv m0=A:=by simpa[dv,Gd]using h4
   rw[hA];refine An w1 400 (by kernel_rfl) ?_;refine AT e1 ?_;refine AL ?_;refine B7 ?_;exact⟨rfl,_,trivial,AI⟩
  ·have hm1:0<m.length:=List.length_pos_iff.2 hm
   have hsz:=CN m;obtain⟨k,hk⟩:∃k,k=min 18 m.length:=⟨_,rfl⟩
   have e1:decide (((sb m).size:Int)>0)=true:=AX (by rw[hsz];omega);have ek:min (18:Int) ((sb m).size:Int)=(k:Int):=by rw[hsz];omega
   have b1:(k:Int)<=((sb m).size:Int):=by rw[hsz];omega
   have e22:(sb m).extract 0 ((k:Int)).toNat=sb (m.take k):=by rw[EH];rfl
   have e36:(sb m).extract ((k:Int)).toNat (sb m).size=sb (m.drop k):=by
    rw[EH,hsz,B1 (Ag _)];rfl
   have htk:(m.take k).all Ba=true:=CI.2 λc hc=>CI.1 h1 c (HR hc)
   have hdk:(m.drop k).all Ba=true:=CI.2 λc hc=>CI.1 h1 c (KP hc)
   have hlk:(m.take k).length=k:=by rw[BX];omega
   have hv:=F8 _ htk;rw[hlk]at hv;have h18:10^k<=10^18:=FJ (by decide) (by omega);have ca:=js (sb (m.take k)) (dv (m.take k):Int) (by rw[CN,hlk];omega) (jG (by intro h;change m.take k=[]at h;rw[h]at hlk;simp at hlk;omega) htk);have hval:dv m=dv (m.take k)*10^(m.drop k).length+dv (m.drop k):=by
    conv=>lhs;rw[<-Er k m]
    exact NF _ _
   generalize dv (m.take k)=v at*;have hAl:(Ae A).length<=100000:=BO (Lf h3) (by omega);have h10:(Ae (10^k)).length<=19:=Lf (k:=19) (Nat.pow_lt_pow_right (by decide) (by omega));have hmul:=Kn A (10^k);have cp:=ke k (by omega);have c3:=T4 A (10^k) (by omega) (by omega);have cv:=rV v (by omega);have hvl:(Ae v).length<=19:=Lf (k:=19) (CP hv (FJ (by decide) (by omega)));have c4:=u7 (A*10^k) v (by omega) (by omega);refine An w1 400 (by kernel_rfl) ?_;refine AT e1 ?_;refine AL ?_;refine Aj ?_;refine AC.block ?_;refine sZ 500 ?_;refine AT ek ?_;refine sZ 600 ?_;refine AT e22 ?_;refine cI ca ?_;refine AC.seq ?_;refine B5 w1 700 [0,1,2,3,4,5] [6,7,8] (by kernel_rfl) ?_;refine BL ?_;refine BS.same _ (Nz 10) AH ?_;refine BL ?_;refine BS.same _ (cp) AH ?_;refine BL ?_;refine BS.same _ (c3) AH ?_;refine BL ?_;refine cI cv ?_;refine cI c4 ?_;refine An w1 800 (by kernel_rfl) ?_;refine AT e36 ?_;refine⟨(m.drop k,A*10^k+v,_),⟨trivial,hdk,?_,?_,?_⟩,?_,AI⟩
   ·dsimp only;rw[DY];omega
   ·dsimp only
    rw[DY,show m0.length-(m.length-k)=(m0.length-m.length)+k by omega,Ft];have h5:(A+1)*10^k<=10^(m0.length-m.length)*10^k:=CF _ h3;rw[Bq]at h5;omega
   ·dsimp only
    rw[h4,hval,DY];have h6:10^m.length=10^k*10^(m.length-k):=by rw[<-Ft];congr 1;omega
    rw[h6,Bq,Bs];omega
   ·dsimp only;rw[DY];omega
 rintro n -;have hAl:(Ae (dv m0)).length<=100000:=BO (Lf (F8 _ hd)) hml;have cn:=Ny (AV (dv m0:Int)) (CY _) (Hc (by omega));rw[De]at cn;have hpn:AA (AV (-(dv m0:Int))).w:=AH;refine AC.seq ?_;refine sR 900 ?_;cases ng with
 |true=>
  rw[AF rfl];refine AL ?_;refine sR 1000 ?_;refine cI cn ?_;refine Ab ?_;exact AO rfl AA.out
 |false=>
  rw[AE (by simp)];refine AL ?_;refine Aj ?_;refine sR 1100 ?_;refine Ab ?_;exact AO rfl AA.out
def J8 (l:List UInt8):Bool:=!decide (l=[])&&l.all Ba
def Cv (l:List UInt8):Bool:=J8 l&&(decide (l=[48]) || !decide (l.head? = some 48))
def Bw (l:List UInt8):List UInt8:=l.take (BD l)
def BT (l:List UInt8):List UInt8:=l.drop (BD l+1)
def Cj (l:List UInt8):Bool:=decide (BD l<l.length)
def By (l:List UInt8):List UInt8:=Bk (Bw l)
def Iu (l:List UInt8):Bool:=!Cv (By l)||decide (Bw l=[45,48])||(Cj l&&(!Cv (BT l)||decide (BT l=[48])||decide (BT l=[49])))
def CS (l:List UInt8):Nat:=if Iu l then 1 else if 600<(By l).length\/600<(BT l).length then 4
 else if Cj l=true/\Nat.gcd (dv (By l)) (dv (BT l))≠1 then 1 else 0
theorem Jf {l:List UInt8}(h:Cv l=true):l≠[]/\l.all Ba=true:=by
 unfold Cv J8 at h;rw[BZ,BZ]at h;exact⟨by have:=h.1.1;simpa using this,h.1.2⟩
theorem Rm {l:List UInt8}(h:l.all Ba=true):DA l=false:=by
 cases l with
 |nil=>rfl
 |cons c l=>
  rw[GJ,BZ]at h;obtain⟨c1,c2⟩:=Ke h.1;show(c==45)=false;rw[B6];intro hh;subst hh;simp at c1
theorem Jc {l:List UInt8}(h:l.all Ba=true):Bk l=l:=by unfold Bk;rw[Rm h];rfl
theorem L1 {l:List UInt8}(h:l.all Ba=true):rv l=(dv l:Int):=by
 unfold rv;rw[Rm h,Jc h];rfl
theorem fO (l:List UInt8)(hl:l.length<=1000000000):AK C0 271 [str (sb l)] (Aq (J8 l)):=by
 refine Ai.walk w1 Zi rfl λF=>?_
 have ct:=TrimW.trim_ok l hl;have eS:=EN l [];have eT:=EN ((F7 l).dropWhile Ba) [];have hall:decide ((F7 l).dropWhile Ba=[])=l.all Ba:=by
  rw[GW,decide_eq_true_iff];exact jX l
 rw[hall]at eT;unfold J8;rw[<-eS];generalize hb:Bj (sb l) (sb [])=b at*;refine sR 0 ?_;refine AC.seq ?_;cases b with
 |true=>
  have e1:(!Bj (sb l) (sb []))=false:=by rw[hb];rfl
  refine An w1 100 (by kernel_rfl) ?_;refine AT e1 ?_;refine AD e1 ?_;refine Ab ?_;exact AO rfl AA.out
 |false=>
  have e1:(!Bj (sb l) (sb []))=true:=by rw[hb];rfl
  refine An w1 100 (by kernel_rfl) ?_;refine AT e1 ?_;refine AD e1 ?_;refine LU e1 ?_;refine Az.same _ ct AH ?_;refine AD (Ac e1 eT) ?_;refine Ab ?_;exact AO rfl AA.out
theorem WS (l:List UInt8)(hl:l.length<=1000000000):AK C0 230 [str (sb l)] (Aq (Cv l)):=by
 refine Ai.walk w1 ZW rfl λF=>?_
 have cd:=fO l hl;have e0:=EN l [48];unfold Cv;refine sR 0 ?_;refine sR 100 ?_;refine cI cd ?_;rcases hd:J8 l with _|_
 ·refine AD (Ac kT HS) ?_
  refine AD (Ac kT HS) ?_;refine Ab ?_;exact AO rfl AA.out
 ·obtain⟨c,m,rfl⟩:∃c m,l=c::m:=by
   cases l with
   |nil=>cases hd
   |cons c m=>exact⟨c,m,rfl⟩
  have hsz:=CN (c::m);rw[Bl]at hsz;have hx:(((sb (c::m)).data.toList.getD ((0:Int)).toNat 0).toNat:Int)=(c.toNat:Int):=rfl;have b0:(0:Int)<((sb (c::m)).size:Int):=by rw[hsz];omega
  by_cases h0:(c::m)=[48]
  ·rw[AX h0]at e0⊢
   refine AD e0 ?_;refine AD (Ac e0 kT) ?_;refine AD (Ac e0 kT) ?_;refine Ab ?_;exact AO rfl AA.out
  ·rw[Af h0]at e0⊢
   have e1:((c.toNat:Int) != 48) = !decide (c=48):=by
    rw[GW];simp only[bne_iff_ne,ne_eq,Bf,KM];constructor
    ·intro h hc;subst hc;exact h rfl
    ·intro h hc
     apply h
     have:c.toNat=48:=by omega
     exact UInt8.toNat_inj.1 this
   refine AD e0 ?_;refine AD (BV e0 kF hx e1) ?_;refine AD (BV e0 kF hx e1) ?_;refine Ab ?_;exact AO (by simp) AA.out
theorem lx (n:Nat):AK C0 231 [(AV (n:Int)).D] (.tup [i64 (AV (n:Int)).s,Aq (decide (Sm (n:Int)))]):=by
 refine Ai.walk w1 ZX rfl λF=>?_
 by_cases hs:Sm (n:Int)
 ·obtain⟨a1,a2⟩:=Ql hs
  dsimp only[GI.D];rw[a1,a2,AX hs];refine sR 0 ?_;refine AC.seq ?_;refine B5 w1 100 [0,1,2,3,4,5] [6] (by kernel_rfl) ?_;refine BL ?_;refine Ab ?_;exact AO rfl AA.out
 ·obtain⟨a1,a2,a3⟩:=T3 hs
  dsimp only[GI.D];rw[a1,a2,Af hs];generalize(Ae n).map AR=l at*;refine sR 0 ?_;refine AC.seq ?_;refine B5 w1 100 [0,1,2,3,4,5] [6] (by kernel_rfl) ?_;refine AT (At (@ne_eq (List D)) a3 EL) ?_;refine Ab ?_;exact AO rfl AA.out
def F9 (l:List UInt8):GF:=⟨AV (rv (Bw l)),if Cj l then dv (BT l)else 1⟩
theorem lF (l:List UInt8)(hl:l.length<=100000)(h1:(By l).all Ba=true)(h2:Cj l=true->(BT l).all Ba=true):AK C0 103 [str (sb l)] (F9 l).D:=by
 refine Ai.walk w1 Yh rfl λF=>?_
 have cc:=X7 l (by omega);have r1:=Pu (Bw l) h1 (by unfold Bw;rw[BX];omega);have hpw:AA (AV (rv (Bw l))).w:=AH;unfold F9;change AK C0 _ _ (.tup [str (sb (Bw l)),str (sb (BT l)),Aq (Cj l)])at cc;rcases hs:Cj l with _|_
 ·rw[hs]at cc
  have wg:=Xo (AV (rv (Bw l)));have hp1:AA (AV ((1:Nat):Int)).w:=AH;rw[AE (by simp)];dsimp only[GI.D,GF.D]at*;refine sR 0 ?_;refine sR 100 ?_;refine cI cc ?_;refine AC.seq ?_;refine sR 200 ?_;refine AL ?_;refine sR 300 ?_;refine cI r1 ?_;refine cI wg ?_;refine Ab ?_;exact AO rfl AA.out
 ·rw[hs]at cc
  have hd:=h2 hs;have r2:=Pu (BT l) (by rw[Jc hd];exact hd) (by unfold BT;rw[DY];omega);rw[L1 hd]at r2;have hp1:AA (AV (dv (BT l):Int)).w:=AH;rw[AF rfl];dsimp only[GI.D,GF.D]at*;refine sR 0 ?_;refine sR 100 ?_;refine cI cc ?_;refine AC.seq ?_;refine sR 200 ?_;refine AL ?_;refine Aj ?_;refine sR 400 ?_;refine cI r1 ?_;refine cI r2 ?_;refine Ab ?_;exact AO rfl AA.out
set_option maxHeartbeats 4000000
theorem rT (g:Nat):((g:Int) != 1)=decide (g≠1):=by
 rw[GW,bne_iff_ne,decide_eq_true_iff];omega
theorem jI (l:List UInt8)(hl:l.length<=100000):AK C0 182 [str (sb l)] (i64 (CS l)):=by
 refine Ai.walk w1 YL rfl λF=>?_
 have cc:=X7 l (by omega);change AK C0 _ _ (.tup [str (sb (Bw l)),str (sb (BT l)),Aq (Cj l)])at cc;have hnl:(Bw l).length<=100000:=by unfold Bw;rw[BX];omega
 have hdl:(BT l).length<=100000:=by unfold BT;rw[DY];omega
 have hsl:(By l).length<=100000:=by
  unfold By Bk;split
  ·rw[DY];omega
  ·exact hnl
 have ct:=RU (Bw l) (by omega);change AK C0 _ _ (str (sb (By l)))at ct;have p1:=WS (By l) (by omega);have p2:=WS (BT l) (by omega);have en:=EN (Bw l) [45,48];have e0:=EN (BT l) [48];have e1:=EN (BT l) [49];have z1:=CN (By l);have z2:=CN (BT l);have hbf:∃b,b=Iu l:=⟨_,rfl⟩
 obtain⟨bf,hbf⟩:=hbf;unfold CS;rw[<-hbf];unfold Iu at hbf;refine sR 0 ?_;refine sR 100 ?_;refine cI cc ?_;refine sR 200 ?_;refine cI ct ?_;refine AC.seq ?_;refine Cp (α:=Nat) (λn=>⟨[(4,str (sb (BT l))),(5,Aq (Cj l)),(6,str (sb (By l))),(39,Aq bf)],[],n⟩) (λ_=>True) ?_ ?_
 ·refine rI 300 ?_
  refine cI p1 ?_;rcases hp:Cv (By l)with _|_
  ·rw[hp]at hbf
   have hb:bf=true:=by rw[hbf];rfl
   subst hb;simp only[RA];refine AD kT ?_;refine AD kT ?_;exact⟨trivial,_,trivial,AI⟩
  ·rw[hp]at hbf
   simp only[Oa]
   by_cases hn:Bw l=[45,48]
   ·rw[AX hn]at en hbf
    have hb:bf=true:=by rw[hbf];rfl
    subst hb;refine AD (Ac kF en) ?_;refine AD (At kF kT en) ?_;exact⟨trivial,_,trivial,AI⟩
   ·rw[Af hn]at en hbf
    rcases hs:Cj l with _|_
    ·rw[hs]at hbf
     have hb:bf=false:=by rw[hbf];rfl
     subst hb;refine AD (Ac kF en) ?_;refine AD (BV kF kT en hs) ?_;refine AD (BV kF kT en hs) ?_;exact⟨trivial,_,trivial,AI⟩
    ·rw[hs]at hbf
     refine AD (Ac kF en) ?_;refine AD (At kF en hs) ?_;refine LU hs ?_;refine Az.same _ p2 AH ?_;refine As ?_;rcases hq:Cv (BT l)with _|_
     ·rw[hq]at hbf
      have hb:bf=true:=by rw[hbf];rfl
      subst hb;refine AD (At kF kT hq) ?_;refine AD (At kF kT hq) ?_;refine AD (At kF kT hq) ?_;exact⟨trivial,_,trivial,AI⟩
     ·rw[hq]at hbf
      refine AD hq ?_;simp only[Oa];refine AD kF ?_
      by_cases h0:BT l=[48]
      ·rw[AX h0]at e0 hbf
       have hb:bf=true:=by rw[hbf];rfl
       subst hb;simp only[e0,imp_self];refine AD kT ?_;refine Hh rfl rfl rfl (by simp only[RA]) (by simp) (Hk (λ_ _=>rfl) ?_);refine AD kF ?_;exact⟨trivial,_,trivial,AI⟩
      ·rw[Af h0]at e0 hbf
       simp only[e0];refine AD kF ?_
       by_cases h1:BT l=[49]
       ·rw[AX h1]at e1 hbf
        have hb:bf=true:=by rw[hbf];rfl
        subst hb;simp only[e1];exact⟨trivial,_,trivial,AI⟩
       ·rw[Af h1]at e1 hbf
        have hb:bf=false:=by rw[hbf];rfl
        subst hb;simp only[e1];exact⟨trivial,_,trivial,AI⟩
 rintro n -;cases bf with
 |true=>
  rw[AF rfl];refine AL ?_;refine sR 400 ?_;refine Ab ?_;exact AO rfl AA.out
 |false=>
  rw[AE (by simp)];have hbf:=hbf.symm;simp only[JO,Bp,Bool.and_eq_false_iff]at hbf;obtain⟨⟨hp,hn⟩,hd⟩:=hbf;refine AL ?_;refine Aj ?_;have hsd:=(Jf hp).2;refine AC.seq ?_;refine Cp (α:=Nat) (λn=>⟨[(4,str (sb (BT l))),(5,Aq (Cj l)),(6,str (sb (By l))),(47,Aq (decide (600<(By l).length\/600<(BT l).length)))],[],n⟩) (λ_=>True) ?_ ?_
  ·by_cases hA:600<(By l).length
   ·have ea:decide (((sb (By l)).size:Int)>600)=true:=AX (by rw[z1];omega)
    have eb:decide (600<(By l).length\/600<(BT l).length)=true:=AX (Or.inl hA);rw[eb];refine An w1 500 (by kernel_rfl) ?_;refine AT ea ?_;refine AD kT ?_;exact⟨trivial,_,trivial,AI⟩
   ·have ea:decide (((sb (By l)).size:Int)>600)=false:=Af (by rw[z1];omega)
    have eb:decide (((sb (BT l)).size:Int)>600)=decide (600<(By l).length\/600<(BT l).length):=by
     rw[Cr,z2];omega
    refine An w1 500 (by kernel_rfl) ?_;refine AT ea ?_;refine AD kF ?_;simp only[eb];exact⟨trivial,_,trivial,AI⟩
  rintro n -
  by_cases hL:600<(By l).length\/600<(BT l).length
  ·rw[AX hL,AF hL]
   refine AL ?_;refine sR 600 ?_;refine Ab ?_;exact AO rfl AA.out
  ·rw[Af hL,AE hL]
   refine AL ?_;refine Aj ?_;refine AC.seq ?_;refine sR 700 ?_;rcases hs:Cj l with _|_
   ·rw[AE (by simp)]
    refine AL ?_;refine Aj ?_;refine sR 1100 ?_;refine Ab ?_;exact AO rfl AA.out
   ·rw[hs]at hd
    have hd':=hd.resolve_left (by simp);have hdd:=(Jf hd'.1.1).2;have r1:=Pu (By l) (by rw[Jc hsd];exact hsd) hsl;have r2:=Pu (BT l) (by rw[Jc hdd];exact hdd) hdl;rw[L1 hsd]at r1;rw[L1 hdd]at r2;have l1:(Ae (dv (By l))).length<=100000:=BO (Lf (F8 _ hsd)) hsl;have l2:(Ae (dv (BT l))).length<=100000:=BO (Lf (F8 _ hdd)) hdl;have cg:=aX (AV (dv (By l):Int)) (AV (dv (BT l):Int)) (CY _) (CY _) (Hc (by omega)) (Hc (by omega));rw[De,De,Dh,Dh]at cg;have cs:=lx (Nat.gcd (dv (By l)) (dv (BT l)));obtain⟨g,hg0⟩:∃g,g=Nat.gcd (dv (By l)) (dv (BT l)):=⟨_,rfl⟩
    rw[<-hg0]at cg cs;simp only[<-hg0];have hpa:AA (AV (dv (By l):Int)).w:=AH;have hpb:AA (AV (dv (BT l):Int)).w:=AH;have hpg:AA (AV (g:Int)).w:=AH;dsimp only[GI.D]at r1 r2 cg cs;refine AL ?_;refine sR 800 ?_;refine cI r1 ?_;refine cI r2 ?_;refine cI cg ?_;refine cI cs ?_;refine Cp (α:=Nat) (λn=>⟨[(63,Aq (decide (g≠1)))],[],n⟩) (λ_=>True) ?_ ?_
    ·by_cases hg:Sm (g:Int)
     ·obtain⟨a1,a2⟩:=Ql hg
      have eg:=rT g;rw[a1,AX hg];refine rI 900 ?_;simp only[Oa];refine AD kF ?_;simp only[eg];exact⟨trivial,_,trivial,AI⟩
     ·have eg:decide (g≠1)=true:=AX λh=>hg (by rw[h];exact⟨by decide,by decide⟩)
      rw[eg,Af hg];refine rI 900 ?_;simp only[RA];refine AD kT ?_;exact⟨trivial,_,trivial,AI⟩
    rintro n -
    by_cases hg:g=1
    ·rw[Af (λh=>h hg),AE (λh=>h.2 hg)]
     refine AL ?_;refine Aj ?_;refine sR 1100 ?_;refine Ab ?_;exact AO rfl AA.out
    ·rw[AX hg,AF ⟨trivial,hg⟩]
     refine AL ?_;refine sR 1000 ?_;refine Ab ?_;exact AO rfl AA.out
abbrev RB:Nat:=1000000000
def AW (n:Nat):List Nat:=if _h:n=0 then[]else(n%RB)::AW (n/RB)
termination_by n
decreasing_by exact HO (Dt _h) (by decide)
def AN:List Nat->Nat
 | []=>0
 |a::l=>a+RB*AN l
def Rd (l:List Nat):Prop:=∀a∈l,a<RB
theorem GO:AW 0=[]:=by unfold AW;rfl
theorem II {n:Nat}(h:n≠0):AW n=(n%RB)::AW (n/RB):=by rw[AW,dif_neg h]
theorem EX (n:Nat):Rd (AW n):=by
 induction n using Nat.strongRecOn with
 |ind n ih=>
  by_cases h:n=0
  ·subst h;rw[GO];intro a ha;cases ha
  ·rw[II h]
   intro a ha;rcases A7.1 ha with rfl|ha
   ·exact B0 _ (by decide)
   ·exact ih _ (HO (Dt h) (by decide)) a ha
theorem Dz (n:Nat):AN (AW n)=n:=by
 induction n using Nat.strongRecOn with
 |ind n ih=>
  by_cases h:n=0
  ·subst h;rw[GO];rfl
  ·rw[II h,AN,ih _ (HO (Dt h) (by decide))]
   exact Ef n RB
theorem Im (l m:List Nat):AN (l++m)=AN l+RB^l.length*AN m:=by
 induction l with
 |nil=>simp[AN]
 |cons a l ih=>
  simp only[EF,AN,ih,Bl,CG,BK];rw[BP (RB^l.length) RB,Bs,ET]
theorem Rd.tail {a:Nat}{l:List Nat}(h:Rd (a::l)):Rd l:=λb hb=>h b (Cq _ hb)
theorem Rd.head {a:Nat}{l:List Nat}(h:Rd (a::l)):a<RB:=h a Ce
theorem Rd.append {l m:List Nat}(h:Rd l)(k:Rd m):Rd (l++m):=λa ha=>(List.mem_append.1 ha).elim (h a) (k a)
theorem Rd.take {l:List Nat}(h:Rd l)(n:Nat):Rd (l.take n):=λa ha=>h a (HR ha)
theorem F3:∀ {l:List Nat},Rd l->AN l<RB^l.length
 | [],_=>by simp[AN]
 |a::l,h=>by
  have h1:=F3 h.tail;have h2:=h.head;rw[AN,Bl,CG]
  calc a+RB*AN l<RB+RB*AN l:=by omega
   _=RB*(AN l+1):=by rw[BK,D6,KQ]
   _<=RB*RB^l.length:=CU _ h1
   _=_:=BP _ _
theorem Uo:∀ {l:List Nat},Rd l->(∀a∈l.getLast?,a≠0)->AW (AN l)=l
 | [],_,_=>GO
 | [a],h,hl=>by
  have ha:a≠0:=hl a (by simp);have hb:=h.head;rw[show AN [a]=a from by simp[AN],II ha,DZ hb,Gx hb,GO]
 |a::b::l,h,hl=>by
  have ih:=Uo h.tail (λx hx=>hl x (by simpa using hx));have hb:=h.head;have hv:AN (b::l)≠0:=by
   intro h0;rw[h0,GO]at ih;cases ih
  have e1:AN (a::b::l)%RB=a:=by rw[AN,RE,DZ hb]
  have e2:AN (a::b::l)/RB=AN (b::l):=by
   rw[AN,Q6 _ _ (by decide),Gx hb,BQ]
  have hne:AN (a::b::l)≠0:=by
   intro h0;rw[h0]at e2;exact hv (by rw[<-e2];rfl)
  rw[II hne,e1,e2,ih]
theorem Uk:∀(k:Nat),AN (List.replicate k 0)=0
 | 0=>rfl
 |k+1=>by rw[List.replicate_succ,AN,Uk k,EU]
theorem IF (b:Nat):∀a,b<=a->(AW b).length<=(AW a).length:=by
 induction b using Nat.strongRecOn with
 |ind b ih=>
  intro a h
  by_cases hb:b=0
  ·subst hb;rw[GO];exact BR _
  ·rw[II hb,II (n:=a) (by omega),Bl,Bl]
   exact Nat.succ_le_succ (ih _ (HO (Dt hb) (by decide)) _ (Nat.div_le_div_right h))
theorem UY {a b:Nat}(h:(AW a).length<(AW b).length):a<b:=by
 rcases BI a b with h1|h1
 ·exact h1
 ·have:=IF b a h1;omega
theorem M5 {l:List Nat}{k a:Nat}(h:l[k]?=some a):AN l=AN (l.take k)+RB^k*(a+RB*AN (l.drop (k+1))):=by
 have hk:k<l.length:=(List.getElem?_eq_some_iff.1 h).1
 conv=>lhs;rw[<-Er k l]
 rw[Im,BX,Ev (by omega)]
 have:l.drop k=a::l.drop (k+1):=by
  rw[EQ hk]
  congr 1
  exact(List.getElem?_eq_some_iff.1 h).2
 rw[this,AN]
theorem Uj {l m:List Nat}{k a b:Nat}(hl:Rd l)(ha:l[k]?=some a)(hb:m[k]?=some b)(hd:l.drop (k+1)=m.drop (k+1))(hab:a<b):AN l<AN m:=by
 have hk:k<l.length:=(List.getElem?_eq_some_iff.1 ha).1;rw[M5 ha,M5 hb,hd];have h1:=F3 (hl.take k);rw[BX,Ev (by omega)]at h1;generalize AN (m.drop (k+1))=r;have h2:RB^k*(a+RB*r)+RB^k<=RB^k*(b+RB*r):=by
  rw[<-Nat.mul_succ];exact CU _ (by omega)
 omega
theorem Gk {l:List Nat}{i a:Nat}(hi:l.length=i):AN (l++[a])=AN l+RB^i*a:=by rw[Im,hi];simp[AN]
theorem Rd.set {l:List Nat}(h:Rd l){i a:Nat}(ha:a<RB):Rd (l.set i a):=λb hb=>by
 rcases List.mem_or_eq_of_mem_set hb with h1|rfl
 ·exact h b h1
 ·exact ha
theorem Rh (n:Nat):Rd (List.replicate n 0):=λa ha=>by rw[OW ha];decide
theorem M2:∀ {l:List Nat} {k o d:Nat},l[k]?=some o->AN (l.set k d)+RB^k*o=AN l+RB^k*d
 |a::l,0,o,d,h=>by
  simp only[Q0,BJ]at h;subst h;simp only[List.set_cons_zero,AN,LO,Ih];omega
 |a::l,k+1,o,d,h=>by
  simp only[JR]at h;have ih:=M2 (d:=d) h;simp only[List.set_cons_succ,AN];have h1:RB^(k+1)*o=RB*(RB^k*o):=by rw[CG,BP (RB^k) RB,Bs]
  have h2:RB^(k+1)*d=RB*(RB^k*d):=by rw[CG,BP (RB^k) RB,Bs]
  have h3:RB*AN (l.set k d)+RB*(RB^k*o)=RB*AN l+RB*(RB^k*d):=by rw[<-BK,<-BK,ih]
  omega
theorem Je {n k:Nat}(h:n<RB^k):(AW n).length<=k:=by
 induction k generalizing n with
 |zero=>
  have:n=0:=by simpa using h
  subst this;rw[GO];exact Ag _
 |succ k ih=>
  by_cases h0:n=0
  ·subst h0;rw[GO];exact BR _
  ·rw[II h0,Bl]
   exact Nat.succ_le_succ (ih (Es (by rw[BP,<-CG];exact h)))
theorem IG (n:Nat):n<RB^(AW n).length:=by
 have:=F3 (EX n)
 rwa [Dz]at this
theorem Um (a b:Nat):(AW (a+b)).length<=max (AW a).length (AW b).length+1:=by
 refine Je ?_;have h1:=IG a;have h2:=IG b;have m1:RB^(AW a).length<=RB^max (AW a).length (AW b).length:=FJ (by decide) (Nat.le_max_left _ _);have m2:RB^(AW b).length<=RB^max (AW a).length (AW b).length:=FJ (by decide) (Nat.le_max_right _ _);rw[CG];generalize RB^max (AW a).length (AW b).length=q at*;unfold RB;omega
theorem Un (a b:Nat):(AW (a-b)).length<=(AW a).length:=IF _ _ (Nat.sub_le _ _)
theorem RX (a b:Nat):(AW (a*b)).length<=(AW a).length+(AW b).length:=by
 refine Je ?_;rw[Ft];exact Nat.mul_lt_mul'' (IG a) (IG b)
theorem Ow {n:Nat}(h0:n≠0)(h:n<RB):AW n=[n]:=by
 rw[II h0,DZ h,Gx h,GO]
theorem TF {l:List Nat}{k a:Nat}(hl:l.length=k+1)(ha:l[k]?=some a):AN l=AN (l.take k)+RB^k*a:=by
 rw[M5 ha,Gv (by omega)];simp[AN]
theorem qp {l:List Nat}{k a b:Nat}(hl:l.length=k+2)(ha:l[k]?=some a)(hb:l[k+1]?=some b):AN l=AN (l.take k)+RB^k*(a+RB*b):=by
 rw[M5 ha]
 have:l.drop (k+1)=[b]:=by
  rw[EQ (by omega),Gv (by omega)]
  congr 1
  exact(List.getElem?_eq_some_iff.1 hb).2
 rw[this];simp[AN]
theorem qr {l:List Nat}{k a b c:Nat}(hl:l.length=k+3)(ha:l[k]?=some a)(hb:l[k+1]?=some b)(hc:l[k+2]?=some c):AN l=AN (l.take k)+RB^k*(a+RB*(b+RB*c)):=by
 rw[M5 ha];have h1:=TF (l:=l.drop (k+1)) (k:=1) (a:=c) (by rw[DY];omega) (by rw[Gb,ET];exact hc);have h2:(l.drop (k+1)).take 1=[b]:=by
  rw[EQ (by omega)];simp only[List.take_succ_cons,Mg]
  congr 1
  exact(List.getElem?_eq_some_iff.1 hb).2
 rw[h1,h2];simp[AN]
structure J4 (P v:List Nat)(m p0 p1 p2 v2 v1:Nat):Prop where
 lP:P.length=m+3
 lv:v.length=m+2
 wP:Rd P
 wv:Rd v
 h0:P[m]?=some p0
 h1:P[m+1]?=some p1
 h2:P[m+2]?=some p2
 g2:v[m]?=some v2
 g1:v[m+1]?=some v1
 top:0<v1
 less:AN P<AN v*RB
namespace J4
variable {P v:List Nat} {m p0 p1 p2 v2 v1:Nat} (S:J4 P v m p0 p1 p2 v2 v1)
include S
theorem valP:AN P=AN (P.take m)+RB^m*(p0+RB*(p1+RB*p2)):=qr S.lP S.h0 S.h1 S.h2
theorem valv:AN v=AN (v.take m)+RB^m*(v2+RB*v1):=qp S.lv S.g2 S.g1
theorem lowP:AN (P.take m)<RB^m:=by
 have:=F3 (S.wP.take m)
 rwa [BX,Ev (by have:=S.lP;omega)]at this
theorem lowv:AN (v.take m)<RB^m:=by
 have:=F3 (S.wv.take m)
 rwa [BX,Ev (by have:=S.lv;omega)]at this
theorem p0l:p0<RB:=S.wP _ (A8 S.h0)
theorem p1l:p1<RB:=S.wP _ (A8 S.h1)
theorem p2l:p2<RB:=S.wP _ (A8 S.h2)
theorem v1l:v1<RB:=S.wv _ (A8 S.g1)
theorem v2l:v2<RB:=S.wv _ (A8 S.g2)
theorem below3:AN P<(p0+RB*(p1+RB*p2)+1)*RB^m:=by
 rw[S.valP,Bq,Ih,BP (RB^m)]
 have:=S.lowP
 omega
theorem below2:AN P<(p1+RB*p2+1)*RB^(m+1):=by
 have h:=S.below3;have h1:=S.p0l;generalize p1+RB*p2=t at*;have h2:(p0+RB*t+1)*RB^m<=(RB*(t+1))*RB^m:=CF _ (by rw[BK RB t 1];omega);have h3:(t+1)*RB^(m+1)=(RB*(t+1))*RB^m:=by rw[CG,BP (RB^m) RB,<-Bs,BP (t+1) RB]
 omega
theorem abovev:v1*RB^(m+1)<=AN v:=by
 rw[S.valv,CG,BK]
 have:v1*(RB^m*RB)=RB^m*(RB*v1):=by rw[BP v1,Bs]
 omega
theorem abovev2:(v2+RB*v1)*RB^m<=AN v:=by
 rw[S.valv,BP];omega
theorem pos:0<AN v:=CP (GK S.top (Nat.pow_pos (by decide))) S.abovev
theorem p2v1:p2<=v1:=by
 rcases BI v1 p2 with h|h
 ·exfalso
  have e1:RB^(m+2)*p2<=AN P:=by
   rw[S.valP,BK,BK,BK]
   have:RB^(m+2)*p2=RB^m*(RB*(RB*p2)):=by rw[CG,CG,Bs,Bs]
   omega
  have e2:AN v<RB^(m+1)*(v1+1):=by
   have h1:=S.lowv;have h2:=S.v2l;have e3:RB^(m+1)*(v1+1)=RB^m*(RB*v1+RB):=by rw[CG,Bs,BK,D6]
   have e4:RB^m*(v2+RB*v1+1)<=RB^m*(RB*v1+RB):=CU _ (by omega);rw[BK _ _ 1,D6]at e4;rw[S.valv,e3];omega
  have e5:RB^(m+1)*(v1+1)*RB=RB^(m+2)*(v1+1):=by rw[Nat.mul_right_comm,<-CG]
  have e6:RB^(m+2)*(v1+1)<=RB^(m+2)*p2:=CU _ h;have e7:(AN v)*RB<=RB^(m+1)*(v1+1)*RB:=CF _ (IB e2)
  have:=S.less
  omega
 ·exact h
end J4
theorem bn {A P v:List Nat}{q i z x d b c b' c' lo:Nat}(hz:A[i]?=some z)(hx:v[i]?=some x)(hI:AN A+q*AN (v.take i)=AN P+RB^i*(c+b))
  (h1:lo+RB*c'=q*x+c) (h2:d+lo+b=z+RB*b'):AN (A.set i d)+q*AN (v.take (i+1))=AN P+RB^(i+1)*(c'+b'):=by
 have hs:=M2 (d:=d) hz;have hi:i<v.length:=(List.getElem?_eq_some_iff.1 hx).1;rw[Ez hx,Gk (i:=i) (by rw[BX];omega),BK,H6 q,CG,Bs];have e:RB^i*(d+q*x+(c+b))=RB^i*(z+RB*(c'+b')):=by congr 1;rw[BK RB];omega
 rw[BK,BK,BK (RB^i) z]at e;omega
theorem bl {A P v:List Nat}{i z x c:Nat}(hz:A[i]?=some z)(hx:v[i]?=some x)(hI:AN A+RB^i*c=AN P+AN (v.take i)):
  AN (A.set i ((z+x+c)%RB))+RB^(i+1)*((z+x+c)/RB)=AN P+AN (v.take (i+1)):=by
 have hs:=M2 (d:=(z+x+c)%RB) hz;have hi:i<v.length:=(List.getElem?_eq_some_iff.1 hx).1;rw[Ez hx,Gk (i:=i) (by rw[BX];omega),CG,Bs];have e:RB^i*((z+x+c)%RB+RB*((z+x+c)/RB))=RB^i*(z+x+c):=by rw[Ef]
 rw[BK,BK,BK (RB^i) z]at e;omega
theorem dX {n k:Nat}(h1:RB^k<=n)(h2:n<RB^(k+1)):(AW n).length=k+1:=by
 have h3:=Je h2;have h4:=DF h1 (IG n);have h5:=(Nat.pow_lt_pow_iff_right (show 1<RB by decide)).1 h4;omega
theorem O7:∀(n:Nat) {k a:Nat},(AW n).length=k+1->(AW n)[k]?=some a->a≠0:=λn=>by
 induction n using Nat.strongRecOn with
 |ind n ih=>
  intro k a h1 h2
  by_cases h0:n=0
  ·subst h0;rw[GO]at h1;cases h1
  ·rw[II h0]at h1 h2
   rw[Bl]at h1;have h3:=Nat.succ.inj h1;cases k with
   |zero=>
    have h4:AW (n/RB)=[]:=FW h3;have h5:n/RB=0:=by rw[<-Dz (n/RB),h4];rfl
    have h6:=Ef n RB;rw[h5]at h6;simp at h2;intro h7;subst h7;rw[h2]at h6;omega
   |succ k=>
    rw[JR]at h2;exact ih _ (HO (Dt h0) (by decide)) h3 h2
theorem Rg {n k:Nat}(h:(AW n).length=k+1):RB^k<=n:=by
 obtain⟨a,ha⟩:=CM (l:=AW n) (i:=k) (by omega);have h1:=O7 n h ha;have h2:=TF h ha;rw[Dz]at h2;have h3:=CU (RB^k) (show 1<=a by omega);omega
theorem O4 {l:List Nat}{j a:Nat}(h:l[j]?=some a):AN (l.drop j)=a+RB*AN (l.drop (j+1)):=by
 have hj:j<l.length:=(List.getElem?_eq_some_iff.1 h).1;rw[EQ hj,(List.getElem?_eq_some_iff.1 h).2];rfl
theorem dC {a q:List Nat}{j x b rest:Nat}(hb:0<b)(hx:a[j]?=some x)(hj:j<q.length)(hI:AN (q.drop (j+1))*b+rest=AN (a.drop (j+1))):
  AN ((q.set j ((rest*RB+x)/b)).drop j)*b+(rest*RB+x)%b=AN (a.drop j)/\(rest*RB+x)%b<b:=by
 refine⟨?_,B0 _ hb⟩;rw[Pa hj,O4 hx,<-hI,AN];have e:=ES (rest*RB+x) b;rw[Bq,BK RB,Bs RB,BP RB rest,BP _ b];omega
structure LE (X:Nat)(v U q:List Nat)(lu lq k:Nat):Prop where
 lU:U.length=lu
 lQ:q.length=lq
 wU:Rd U
 wq:Rd q
 val:RB^k*AN (q.drop k)*AN v+AN U=X
 less:AN (U.drop k)<AN v
theorem dq {X:Nat}{v U q:List Nat}{lu lq j m:Nat}(I:LE X v U q lu lq (j+1))(hv:v.length=m+2)(wv:Rd v)(v1 v2:Nat)(h2:v[m]?=some v2)(h1:v[m+1]?=some v1)(ht:0<v1)(hj:j+(m+3)<=lu):
  ∃p0 p1 p2,J4 ((U.drop j).take (m+3)) v m p0 p1 p2 v2 v1/\AN (U.drop (j+(m+3)))=0/\AN ((U.drop j).take (m+3))=AN (U.drop j):=by
 obtain⟨lU,lQ,wU,wq,val,less⟩:=I;obtain⟨x,hx⟩:=CM (l:=U) (i:=j) (by omega);have hxl:=wU x (A8 hx);have e1:=O4 hx;have hlt:AN (U.drop j)<AN v*RB:=by
  have:RB*(AN (U.drop (j+1))+1)<=RB*AN v:=CU _ less
  rw[BK,BP RB (AN v)]at this;omega
 have hPl:((U.drop j).take (m+3)).length=m+3:=by rw[BX,DY];omega
 have e2:AN (U.drop j)=AN ((U.drop j).take (m+3))+RB^(m+3)*AN (U.drop (j+(m+3))):=by
  conv=>lhs;rw[<-Er (m+3) (U.drop j)]
  rw[Im,hPl,List.drop_drop]
 have hvl:=F3 wv;rw[hv]at hvl;have hz:AN (U.drop (j+(m+3)))=0:=by
  rcases Di (AN (U.drop (j+(m+3))))with h|h
  ·exact h
  ·exfalso
   have e3:RB^(m+3)*1<=RB^(m+3)*AN (U.drop (j+(m+3))):=CU _ h;have e4:AN v*RB<=RB^(m+2)*RB:=CF _ (IB hvl);have e5:RB^(m+2)*RB=RB^(m+3):=(CG RB (m+2)).symm;rw[e5]at e4;omega
 rw[hz,EU,DM]at e2;obtain⟨p0,h0⟩:=CM (l:=(U.drop j).take (m+3)) (i:=m) (by omega);obtain⟨p1,h3⟩:=CM (l:=(U.drop j).take (m+3)) (i:=m+1) (by omega);obtain⟨p2,h4⟩:=CM (l:=(U.drop j).take (m+3)) (i:=m+2) (by omega);exact⟨p0,p1,p2,⟨hPl,hv,λa ha=>wU a (KP (HR ha)),wv,h0,h3,h4,h2,h1,ht,by rw[<-e2];exact hlt⟩,hz,e2.symm⟩
theorem dm {X:Nat}{v U q P':List Nat}{lu lq j m:Nat}(I:LE X v U q lu lq (j+1))(hv:0<AN v)(hj:j+(m+3)<=lu)(hjq:j<lq)(hz:AN (U.drop (j+(m+3)))=0)(hP:AN ((U.drop j).take (m+3))=AN (U.drop j))
  (h1:P'.length=m+3) (h2:Rd P') (h3:AN P'=AN ((U.drop j).take (m+3))%AN v) (hd:AN ((U.drop j).take (m+3))/AN v<RB):
  LE X v (U.take j++(P'++U.drop (j+(m+3)))) (q.set j (AN ((U.drop j).take (m+3))/AN v)) lu lq j:=by
 obtain⟨lU,lQ,wU,wq,val,less⟩:=I;have hA:(U.take j).length=j:=by rw[BX];omega
 have e0:AN U=AN (U.take j)+RB^j*AN (U.drop j):=by
  conv=>lhs;rw[<-Er j U]
  rw[Im,hA]
 have e1:AN (P'++U.drop (j+(m+3)))=AN P':=by rw[Im,hz,EU,DM]
 refine⟨?_,by rw[Dc];exact lQ,?_,wq.set hd,?_,?_⟩
 ·rw[B3,B3,hA,h1,DY];omega
 ·exact Rd.append (wU.take j) (Rd.append h2 λa ha=>wU a (KP ha))
 ·rw[Pa (by omega),AN,Im,hA,e1,h3,hP]
  rw[e0]at val;have e2:=ES (AN (U.drop j)) (AN v);have e3:RB^(j+1)*AN (q.drop (j+1))*AN v=RB^j*(RB*AN (q.drop (j+1))*AN v):=by
   rw[CG,Bs,Bs,Bs]
  rw[e3]at val;have e4:RB^j*AN (U.drop j)=RB^j*(AN v*(AN (U.drop j)/AN v))+RB^j*(AN (U.drop j)%AN v):=by
   rw[<-BK,e2]
  rw[Bs,Bq,BK,BP (AN (U.drop j)/AN v)];omega
 ·rw[List.drop_left' hA,e1,h3]
  exact B0 _ hv
set_option maxHeartbeats 2000000
abbrev Aa (n:Nat):D:=i64 (n:Int)
def rL (l:List Nat):D:=.sl false 1 (l.map Aa)
def rD (n:Nat):D:=rL (AW n)
theorem NS (l:List Nat):Bv (rL l):=.sl λe he d hd=>by
 obtain⟨a,_,rfl⟩:=List.mem_map.1 he;simp only[D.cells,A7,DD,or_false]at hd;subst hd;exact .prim _
instance  (l:List Nat):AA (rL l):=⟨NS l⟩
instance  (n:Nat):AA (rD n):=⟨NS _⟩
theorem Dg {l:List Nat}{i a:Nat}(h:l[i]?=some a):(l.map Aa)[i]?=some (Aa a):=by rw[BH,h];rfl
theorem Lz {l:List Nat}{i a:Nat}:(l.map Aa).set i (Aa a)=(l.set i a).map Aa:=List.map_set.symm
theorem rp (c:Nat):((c:Int)==0)=decide (c=0):=by rw[GW,Dw,decide_eq_true_iff];omega
theorem Sp (m:List Nat):AN (m++[0])=AN m:=by rw[Gk rfl];simp
theorem XZ {m:List Nat}{c:Nat}(h:Rd (m++[c]))(hc:c≠0):AW (AN (m++[c]))=m++[c]:=Uo h λa ha=>by
 rw[List.getLast?_append]at ha;simp at ha;rw[<-ha];exact hc
theorem K0 (l:List Nat)(h:Rd l)(hlen:l.length<4000000000):AK C0 228 [rL l] (rD (AN l)):=by
 refine Ai.walk w1 ZV rfl λF=>?_
 unfold rL;refine sR 0 ?_;refine AC.seq ?_;refine AC.block ?_;refine AC.loop (α:=List Nat×Nat) (λp=>⟨[(0,.sl false 1 (p.1.map Aa))],[],p.2⟩) (λp=>p.1.length)
  (λp=>AN p.1=AN l/\Rd p.1/\p.1.length<=l.length) (l,_) ⟨rfl,h,Ag _⟩ AI ?_
 rintro⟨m,n⟩ F ⟨h1,h2,h3⟩;dsimp only at h1 h2 h3⊢;refine AC.seq ?_;refine AC.seq ?_;rcases Q3 m with rfl|⟨m,c,rfl⟩
 ·have e1:decide (((0:Nat):Int)>0)=false:=rfl
  refine An w1 100 (by kernel_rfl) ?_;refine AT e1 ?_;refine AD e1 ?_;refine AL ?_;refine B7 ?_;refine sR 300 ?_;refine Ab ?_;refine AO (d0:=rL []) ?_ AA.out;rw[<-h1];unfold rD;rw[show AN []=0 from rfl,GO]
 ·rw[Q1]at h1 h2 h3⊢
  have el:((((m++[c]).map Aa).length:Nat):Int)=((m.length+1:Nat):Int):=by rw[Ap,B3];rfl
  rw[B3,Ga]at h3;have e1:decide (((m.length+1:Nat):Int)>0)=true:=AX (by omega);have wk:IntKind.i64.wrap (((m.length+1:Nat):Int)-1)=(m.length:Int):=by rw[wI (by omega) (by omega)];omega
  have wraw:IntKind.i64.wrap (((((m++[c]).map Aa).length:Nat):Int)-1)=(m.length:Int):=by rw[el,wk]
  have hx:((m++[c]).map Aa)[m.length]?=some (Aa c):=Dg (by simp);have ec:=rp c;refine An w1 100 (by kernel_rfl) ?_;refine AT (Ac el e1) ?_;refine AD (Ck e1 wraw el wk kN) ?_;refine Bo e1 hx ?_;refine AD (Ck e1 wraw el wk ec) ?_
  by_cases hc:c=0
  ·rw[AX hc]
   subst hc;have e4:List.take (m.length-0) (List.drop 0 ((m++[0]).map Aa))=m.map Aa:=by simp
   have e5:List.take m.length ((m++[0]).map Aa)=m.map Aa:=by simp
   rw[Sp]at h1;refine AL ?_;refine Aj ?_;refine AC.block ?_;refine An w1 200 (by kernel_rfl) ?_;refine AT (Ck el wk wraw kN e4) ?_;exact⟨(m,_),⟨h1,λa ha=>h2 a (KO _ ha),by dsimp only;omega⟩,by dsimp only;rw[B3,Ga];omega,AI⟩
  ·rw[Af hc]
   refine AL ?_;refine B7 ?_;refine sR 300 ?_;refine Ab ?_;refine AO (d0:=rL (m++[c])) ?_ AA.out;unfold rD;rw[<-h1,XZ h2 hc]
theorem SU (l:List Nat)(i:Nat)(hlen:l.length<4000000000)(hi:i<4000000000):AK C0 295 [rL l,Aa i] (Aa (l.getD i 0)):=by
 refine Ai.walk w1 ow rfl λF=>?_
 unfold rL;have el:(((l.map Aa).length:Nat):Int)=(l.length:Int):=by rw[Ap]
 refine sR 0 ?_;refine AC.seq ?_;refine AC.seq ?_
 by_cases h:i<l.length
 ·have e1:decide ((i:Int)<(l.length:Int))=true:=AX (by omega)
  obtain⟨a,ha⟩:=CM h;have hx:=Dg ha;have eg:l.getD i 0=a:=by rw[FH,ha];rfl
  rw[eg];refine An w1 100 (by kernel_rfl) ?_;refine AT (Ac el e1) ?_;refine AL ?_;refine sZ 200 ?_;refine AD kN ?_;refine Bo kT hx ?_;refine AD kN ?_;refine Ab ?_;exact AO rfl AA.out
 ·have e1:decide ((i:Int)<(l.length:Int))=false:=Af (by omega)
  have eg:l.getD i 0=0:=by rw[FH,Da (by omega)];rfl
  rw[eg];refine An w1 100 (by kernel_rfl) ?_;refine AT (Ac el e1) ?_;refine AL ?_;refine Aj ?_;refine sR 300 ?_;refine Ab ?_;exact AO rfl AA.out
theorem Qc (a b:Nat)(ha:(AW a).length<4000000000)(hb:(AW b).length<4000000000):AK C0 226 [rD a,rD b] (i64 (Dm a b)):=by
 refine Ai.walk w1 nu rfl λF=>?_
 have hwa:=EX a;have hwb:=EX b;have va:=Dz a;have vb:=Dz b;have hlt:=@UY a b;have hgt:=@UY b a;unfold rD rL Dm;generalize AW a=la at*;generalize AW b=lb at*;have ea:(((la.map Aa).length:Nat):Int)=(la.length:Int):=by rw[Ap]
 have eb:(((lb.map Aa).length:Nat):Int)=(lb.length:Int):=by rw[Ap]
 refine sR 0 ?_;refine AC.seq ?_;refine sZ 100 ?_;refine AT (Ac ea eb) ?_;refine AL ?_
 (refine Br (λh10=>?_) (λh10=>?_))<;>(try simp only[Bf,Bp]at h10)<;>(try simp only[h10])
 ·have hne:la.length≠lb.length:=by
   have:(la.length:Int)≠lb.length:=by simpa using h10
   omega
  refine AC.seq ?_;refine sZ 200 ?_;refine AT (Ac ea eb) ?_;refine AL ?_
  (refine Br (λh15=>?_) (λh15=>?_))<;>(try simp only[Bf,Bp]at h15)<;>(try simp only[h15])
  ·have h1:la.length<lb.length:=by
    have:(la.length:Int)<lb.length:=by simpa using h15
    omega
   rw[AF (by have:=hlt h1;omega)];refine sR 300 ?_;refine Ab ?_;exact AO rfl AA.out
  ·have h1:lb.length<la.length:=by
    have:¬(la.length:Int)<lb.length:=by simpa using h15
    omega
   have h2:=hgt h1;rw[AE (by omega),AF (by omega)];refine Aj ?_;refine sR 400 ?_;refine Ab ?_;exact AO rfl AA.out
 ·have hl:la.length=lb.length:=by
   have:(la.length:Int)=lb.length:=by simpa using h10
   omega
  clear hlt hgt;refine Aj ?_;refine AC.seq ?_;refine sZ 500 ?_;refine AT ea ?_;refine AC.block ?_;have w0:IntKind.i64.wrap ((la.length:Int)-1)=(la.length:Int)-1:=wI (by omega) (by omega);rw[w0];refine AC.loop (α:=Nat×Nat) (λp=>⟨[(0,.sl false 1 (la.map Aa)),(1,.sl false 1 (lb.map Aa)),(5,i64 ((p.1:Int)-1))],[],p.2⟩) (λp=>p.1)
   (λp=>p.1<=la.length/\la.drop p.1=lb.drop p.1) (la.length,_) ⟨Ag _,by rw[JS,hl,JS]⟩ AI ?_
  rintro⟨k,m⟩ F ⟨h1,h2⟩;dsimp only at h1 h2⊢;refine AC.seq ?_;refine sR 600 ?_;refine AL ?_
  (refine Br (λh20=>?_) (λh20=>?_))<;>(try simp only[Bf,Bp]at h20)<;>(try simp only[h20])
  ·obtain⟨j,rfl⟩:∃j,k=j+1:=⟨k-1,by
    have:(k:Int)-1>=0:=by simpa using h20
    omega⟩
   have wj:((j+1:Nat):Int)-1=(j:Int):=by omega
   obtain⟨x,hx⟩:∃x,la[j]?=some x:=⟨la[j],BF (by omega)⟩
   obtain⟨y,hy⟩:∃y,lb[j]?=some y:=⟨lb[j],BF (by omega)⟩
   have hx':=Dg hx;have hy':=Dg hy;rw[wj];refine Aj ?_;refine AC.seq ?_;refine AC.block ?_;refine AC.seq ?_;refine AC.seq ?_;refine B5 w1 800 [0,1,2,3,4,5,6,7] [8] (by kernel_rfl) ?_;refine AD kN ?_;refine Bo kT hx' ?_;refine AD kN ?_;refine Bo kT hy' ?_;refine AD kN ?_;refine AD kN ?_;refine AL ?_
   (refine Br (λh31=>?_) (λh31=>?_))<;>(try simp only[Bf,Bp]at h31)<;>(try simp only[h31])
   ·have hxy:x<y:=by
     have:=Cz h31
     omega
    have:=Uj hwa hx hy h2 hxy
    rw[AF (by omega)];refine sR 900 ?_;refine Ab ?_;exact AO rfl AA.out
   ·have hxy0:¬x<y:=by
     have:=C5 h31
     omega
    refine Aj ?_;refine AC.seq ?_;refine B5 w1 1000 [0,1,2,3,4,5,6,7] [8] (by kernel_rfl) ?_;refine AD kN ?_;refine Bo kT hx' ?_;refine AD kN ?_;refine Bo kT hy' ?_;refine AD kN ?_;refine AD kN ?_;refine AL ?_
    (refine Br (λh40=>?_) (λh40=>?_))<;>(try simp only[Bf,Bp]at h40)<;>(try simp only[h40])
    ·have hxy:y<x:=by
      have:=Cz h40
      omega
     have:=Uj hwb hy hx h2.symm hxy
     rw[AE (by omega),AF (by omega)];refine sR 1100 ?_;refine Ab ?_;exact AO rfl AA.out
    ·have hxy:x=y:=by
      have:=C5 h40
      omega
     subst hxy;have w5:IntKind.i64.wrap ((j:Int)-1)=(j:Int)-1:=wI (by omega) (by omega);refine Aj ?_;refine An w1 700 (by kernel_rfl) ?_;refine AT w5 ?_;have hj:=(List.getElem?_eq_some_iff.1 hx)
     have hj':=(List.getElem?_eq_some_iff.1 hy)
     refine⟨(j,_),⟨by dsimp only;omega,?_⟩,by dsimp only;omega,AI⟩;dsimp only;rw[EQ hj.1,EQ hj'.1,hj.2,hj'.2,h2]
  ·have hk:k=0:=by
    have:¬((k:Int)-1>=0):=by simpa using h20
    omega
   subst hk;have hab:a=b:=by
    rw[<-va,<-vb]
    have:la=lb:=by simpa using h2
    rw[this]
   subst hab;rw[AE (by omega),AE (by omega)];refine B7 ?_;refine sR 1200 ?_;refine Ab ?_;exact AO rfl AA.out
theorem RY (l:List Nat)(i:Nat):AN (l.take (i+1))=AN (l.take i)+RB^i*l.getD i 0:=by
 by_cases h:i<l.length
 ·obtain⟨a,ha⟩:=CM h
  rw[Ez ha,Gk (i:=i) (by rw[BX];omega),FH,ha];rfl
 ·rw[B1 (by omega),B1 (by omega),FH,Da (by omega)]
  simp
theorem Rp {l:List Nat}(h:Rd l)(i:Nat):l.getD i 0<RB:=by
 by_cases hi:i<l.length
 ·obtain⟨a,ha⟩:=CM hi
  rw[FH,ha];exact h a (A8 ha)
 ·rw[FH,Da (by omega)];decide
theorem Vy (l:List Nat)(i:Nat):AN (l.take i)<=AN l:=by
 conv=>rhs;rw[<-Er i l]
 rw[Im];exact Nat.le_add_right _ _
theorem VL {a i:Nat}(h:i<(AW a).length):RB^i<=a:=by
 obtain⟨k,hk⟩:∃k,(AW a).length=k+1:=⟨(AW a).length-1,by omega⟩
 exact BO (FJ (by decide) (by omega)) (Rg hk)
structure Ng (a b:Nat)(i c:Nat)(out:List Nat):Prop where
 len:out.length=i
 wd:Rd out
 c1:c<=1
 val:AN out+RB^i*c=AN ((AW a).take i)+AN ((AW b).take i)
 can:i=0\/RB^(i-1)<=a+b
theorem jE {a b i c:Nat}{out:List Nat}(I:Ng a b i c out)(h:i<(AW a).length\/i<(AW b).length\/0<c):
  Ng a b (i+1) (((AW a).getD i 0+(AW b).getD i 0+c)/RB) (out++[((AW a).getD i 0+(AW b).getD i 0+c)%RB])/\(AW a).getD i 0+(AW b).getD i 0+c<2*RB:=by
 obtain⟨len,wd,c1,val,can⟩:=I;have h1:=Rp (EX a) i;have h2:=Rp (EX b) i;have hs:(AW a).getD i 0+(AW b).getD i 0+c<2*RB:=by omega
 have e1:=RY (AW a) i;have e2:=RY (AW b) i;have ta:=Vy (AW a) i;have tb:=Vy (AW b) i;rw[Dz]at ta tb;refine⟨⟨by rw[B3,len];rfl,Rd.append wd λx hx=>?_,?_,?_,.inr ?_⟩,hs⟩
 ·simp only[A7,DD,or_false]at hx
  subst hx;exact B0 _ (by decide)
 ·exact Mn (Es (by rw[BP];exact hs))
 ·rw[Gk len,e1,e2,CG,Bs]
  have e:=Ef ((AW a).getD i 0+(AW b).getD i 0+c) RB;generalize(AW a).getD i 0=p at*;generalize(AW b).getD i 0=q at*;have e3:RB^i*((p+q+c)%RB+RB*((p+q+c)/RB))=RB^i*(p+q+c):=by rw[e]
  rw[BK,BK,BK (RB^i) p]at e3;omega
 ·rw[H5]
  rcases h with h|h|h
  ·have:=VL h;omega
  ·have:=VL h;omega
  ·have hc:c=1:=by omega
   subst hc;rw[D6]at val;omega
theorem jD {a b i:Nat}{out:List Nat}(I:Ng a b i 0 out)(h1:¬i<(AW a).length)(h2:¬i<(AW b).length):out=AW (a+b):=by
 obtain⟨len,wd,c1,val,can⟩:=I;rw[B1 (by omega),B1 (by omega),Dz,Dz,EU,DM]at val;rcases Q3 out with rfl|⟨m,c,rfl⟩
 ·rw[<-val];unfold AW;rfl
 ·rw[Q1]at*
  rw[B3,Ga]at len;have hc:c≠0:=by
   intro hc;subst hc;rcases can with h|h
   ·omega
   ·rw[Sp]at val
    have:=F3 (l:=m) λx hx=>wd x (KO _ hx)
    rw[show i-1=m.length by omega]at h;omega
  rw[<-val,XZ wd hc]
theorem rf (a b:Nat)(ha:(AW a).length<1000000)(hb:(AW b).length<1000000):AK C0 269 [rD a,rD b] (rD (a+b)):=by
 refine Ai.walk w1 oY rfl λF=>?_
 have hT:Fz [] [] (rD a) (rD a):=.refl _;change AC C0 F none F _ ⟨DH 0 [.sl false 1 ((AW a).map Aa),.sl false 1 ((AW b).map Aa)],[],0⟩ _;have ea:((((AW a).map Aa).length:Nat):Int)=((AW a).length:Int):=by rw[Ap]
 have eb:((((AW b).map Aa).length:Nat):Int)=((AW b).length:Int):=by rw[Ap]
 have I0:Ng a b 0 0 []:=⟨rfl,(λx hx=>AY hx DD),BR _,by simp[AN],.inl rfl⟩
 refine sR 0 ?_;refine sR 100 ?_;refine sR 200 ?_;refine AC.seq ?_;refine sR 300 ?_;refine AC.block ?_;refine AC.loop (α:=Nat×Nat×List Nat×List D×Nat×Nat) (λp=>⟨[(0,.sl false 1 ((AW a).map Aa)),(1,.sl false 1 ((AW b).map Aa)),(5,DK 704 p.2.2.2.2.1 1 p.2.2.2.1),(6,Aa p.2.1),(7,Aa p.1)],DB 704 p.2.2.2.2.1 3 1 p.2.2.2.1,p.2.2.2.2.2⟩)
  (λp=>(max (AW a).length (AW b).length-p.1)*2+p.2.1) (λp=>Ng a b p.1 p.2.1 p.2.2.1/\p.2.2.2.1=p.2.2.1.map Aa/\p.1<=max (AW a).length (AW b).length+1) (0,0,[],[],0,_) ⟨I0,rfl,BR _⟩ AI ?_
 rintro⟨i,c,out,L,g,n⟩ F ⟨I,hL,hi⟩;dsimp only at I hL hi⊢;have c1:=I.c1;have hol:=I.len;refine AC.seq ?_;refine Cp (α:=Nat) (λn=>⟨[(0,.sl false 1 ((AW a).map Aa)),(1,.sl false 1 ((AW b).map Aa)),(5,DK 704 g 1 L),(6,Aa c),(7,Aa i),(22,Aq (decide (i<(AW a).length\/i<(AW b).length\/0<c)))],DB 704 g 3 1 L,n⟩) (λ_=>True) ?_ ?_
 ·generalize DK 704 g 1 L=od at*
  generalize DB 704 g 3 1 L=oh at*
  by_cases h1:i<(AW a).length
  ·have e1:decide ((i:Int)<((AW a).length:Int))=true:=AX (by omega)
   have e:decide (i<(AW a).length\/i<(AW b).length\/0<c)=true:=AX (.inl h1);rw[e];refine An w1 400 (by kernel_rfl) ?_;refine AT (Ac ea e1) ?_;refine AD kT ?_;refine AD kT ?_;exact⟨trivial,_,trivial,AI⟩
  ·have e1:decide ((i:Int)<((AW a).length:Int))=false:=Af (by omega)
   by_cases h2:i<(AW b).length
   ·have e2:decide ((i:Int)<((AW b).length:Int))=true:=AX (by omega)
    have e:decide (i<(AW a).length\/i<(AW b).length\/0<c)=true:=AX (.inr (.inl h2));rw[e];refine An w1 400 (by kernel_rfl) ?_;refine AT (Ac ea e1) ?_;refine AD kF ?_;simp only[eb,e2];refine AD kT ?_;exact⟨trivial,_,trivial,AI⟩
   ·have e2:decide ((i:Int)<((AW b).length:Int))=false:=Af (by omega)
    have e:decide ((c:Int)>0)=decide (i<(AW a).length\/i<(AW b).length\/0<c):=by rw[Cr];omega
    rw[<-e];refine An w1 400 (by kernel_rfl) ?_;refine AT (Ac ea e1) ?_;refine AD kF ?_;simp only[eb,e2];refine AD kF ?_;exact⟨trivial,_,trivial,AI⟩
 rintro n2 -
 by_cases h:i<(AW a).length\/i<(AW b).length\/0<c
 ·obtain⟨J,hs⟩:=jE I h
  have d1:=SU (AW a) i (by omega) (by omega);have d2:=SU (AW b) i (by omega) (by omega);unfold rL at d1 d2;have hmu:∀c',c'<=1->(max (AW a).length (AW b).length<=i->c'=0)->(max (AW a).length (AW b).length-(i+1))*2+c'<(max (AW a).length (AW b).length-i)*2+c:=λc' h1 h2=>by
   rcases BI i (max (AW a).length (AW b).length)with h3|h3
   ·omega
   ·have:=h2 h3;omega
  have hmu2:max (AW a).length (AW b).length<=i->((AW a).getD i 0+(AW b).getD i 0+c)/RB=0:=λh3=>by
   rw[FH,Da (by omega),FH,Da (by omega)];show(0+0+c)/1000000000=0;omega
  have hbnd:i<max (AW a).length (AW b).length+1:=by
   rcases h with h|h|h
   ·omega
   ·omega
   ·rcases BI i (max (AW a).length (AW b).length+1)with h3|h3
    ·exact h3
    ·exfalso
     obtain⟨len,wd,_,val,_⟩:=I;have hc:c=1:=by omega
     subst hc;rw[B1 (by omega),B1 (by omega),Dz,Dz,D6]at val;have l1:=IG a;have l2:=IG b;have m1:RB^(AW a).length<=RB^max (AW a).length (AW b).length:=FJ (by decide) (Nat.le_max_left _ _);have m2:RB^(AW b).length<=RB^max (AW a).length (AW b).length:=FJ (by decide) (Nat.le_max_right _ _);have m3:RB^(max (AW a).length (AW b).length+1)<=RB^i:=FJ (by decide) h3;rw[CG]at m3;generalize RB^max (AW a).length (AW b).length=Q at*;change Q*1000000000<=_ at m3;omega
  have hmu3:=hmu _ J.c1 hmu2;rw[AX h];generalize hp:(AW a).getD i 0=p at*;generalize hq:(AW b).getD i 0=q at*;have k1:IntKind.i64.wrap ((p:Int)+(q:Int))=((p+q:Nat):Int):=by rw[wI (by omega) (by unfold RB at hs;omega)];omega
  have k2:IntKind.i64.wrap (((p+q:Nat):Int)+(c:Int))=((p+q+c:Nat):Int):=by rw[wI (by omega) (by unfold RB at hs;omega)];omega
  have k3:((p+q+c:Nat):Int).tmod 1000000000=(((p+q+c)%RB:Nat):Int):=rfl;have k4:IntKind.i64.wrap (((p+q+c:Nat):Int).tdiv 1000000000)=(((p+q+c)/RB:Nat):Int):=by
   show IntKind.i64.wrap ((((p+q+c)/1000000000:Nat)):Int)=_;exact wN (by unfold RB at hs;omega)
  have wi:IntKind.i64.wrap ((i:Int)+1)=((i+1:Nat):Int):=wI (by omega) (by omega);generalize(p+q+c)%RB=d at*;generalize(p+q+c)/RB=c' at*;have hlo:L.length<=1000001:=by rw[hL,Ap];omega
  have hmo:L++[Aa d]=(out++[d]).map Aa:=by rw[hL,DE];rfl
  clear hmu hmu2 ea eb hL I;refine AL ?_;refine Aj ?_;refine AC.seq ?_;refine AC.block ?_;refine sR 600 ?_;refine cI d1 ?_;refine cI d2 ?_;simp only[k1,k2];refine AC.seq ?_;rcases L with _|⟨x,L⟩
  all_goals
   (try simp only[Bl]at hlo)
   dsimp only[Fg,Fh,Eg,Eh];refine An w1 700 (by kernel_rfl) ?_;refine AT k3 ?_;refine An w1 800 (by kernel_rfl) ?_;refine AT k4 ?_;refine An w1 500 (by kernel_rfl) ?_;refine AT wi ?_
  ·exact⟨(i+1,c',out++[d],[]++[Aa d],_,_),⟨J,hmo,hbnd⟩,hmu3,AI⟩
  ·have htk:List.take (L.length+1) (x::L)=x::L:=by simp
   rw[htk];refine⟨(i+1,c',out++[d],x::L++[Aa d],_,_),⟨J,hmo,hbnd⟩,hmu3,by(dsimp only;rw[KZ];exact AI)⟩
 ·rw[Af h]
  have hc:c=0:=by omega
  subst hc;have hout:=jD I (by omega) (by omega);refine AL ?_;refine B7 ?_;refine sR 900 ?_;refine Ab ?_;refine⟨_,QR _ _ _ _ _,?_,?_⟩
  ·rw[hL];exact NS _
  ·rw[hL,hout];rfl
set_option maxHeartbeats 4000000
theorem sK {env:Ao}{t K g T n:Nat}{l:List D}(he:env.get t=DK K g 1 l:=by exact rfl):Wk ⟨env,DB K g T 1 l,n⟩ ⟨[(t,.sl false 1 l)],[],n⟩:=by
 refine⟨?_,⟨?_,trivial⟩,Ag _⟩
 ·cases l with
  |nil=>exact .nil
  |cons x l=>exact .drop .nil
 ·dsimp only
  rw[he];exact QR _ _ _ _ _
theorem mR {env:Ao}{t K g n N:Nat}{z:List Nat}{T:Nat}(hl:z.length=N)(he:env.get t=.osl K g 1 0 N:=by exact rfl):Wk ⟨env,[⟨K,g,T,1,z.map Aa⟩],n⟩ ⟨[(t,.sl false 1 (z.map Aa))],[],n⟩:=by
 subst hl;refine⟨.drop .nil,⟨?_,trivial⟩,Ag _⟩;dsimp only;rw[he]
 have:=QT K g T 1 (z.map Aa)
 rwa [Ap]at this
theorem dZ {a v c:Nat}(ha:a<RB)(hv:v<RB)(hc:c<=1):∃d c',d<RB/\c'<=1/\d+v+c=a+RB*c'/\((c'=0/\(a:Int)-v-c=d)\/(c'=1/\(a:Int)-v-c<0/\(a:Int)-v-c+1000000000=d)):=by
 unfold RB at ha hv⊢
 by_cases h:a<v+c
 ·exact⟨a+1000000000-v-c,1,by omega,by omega,by omega,.inr ⟨rfl,by omega,by omega⟩⟩
 ·exact⟨a-v-c,0,by omega,by omega,by omega,.inl ⟨rfl,by omega⟩⟩
theorem au (a b:Nat)(hab:b<=a)(ha:(AW a).length<1000000):AK C0 270 [rD a,rD b] (rD (a-b)):=by
 refine Ai.walk w1 oZ rfl λF=>?_
 change AC C0 F none F _ ⟨DH 0 [.sl false 1 ((AW a).map Aa),.sl false 1 ((AW b).map Aa)],[],0⟩ _;have hlb:=IF b a hab;have va:=Dz a;have vb:=Dz b;have wx:=EX a;have wy:=EX b;generalize AW a=x at*;generalize AW b=y at*;have ea:(((x.map Aa).length:Nat):Int)=(x.length:Int):=by rw[Ap]
 refine sR 0 ?_;refine sR 100 ?_;refine sR 200 ?_;refine AC.seq ?_;refine sR 300 ?_;refine AC.block ?_;refine AC.loop (α:=Nat×Nat×List Nat×List D×Nat×Nat) (λp=>⟨[(0,.sl false 1 (x.map Aa)),(1,.sl false 1 (y.map Aa)),(5,DK 1103 p.2.2.2.2.1 1 p.2.2.2.1),(6,Aa p.2.1),(7,Aa p.1)],DB 1103 p.2.2.2.2.1 3 1 p.2.2.2.1,p.2.2.2.2.2⟩)
  (λp=>x.length-p.1) (λp=>p.1<=x.length/\p.2.1<=1/\p.2.2.1.length=p.1/\Rd p.2.2.1/\AN p.2.2.1+AN (y.take p.1)=AN (x.take p.1)+RB^p.1*p.2.1/\p.2.2.2.1=p.2.2.1.map Aa) (0,0,[],[],0,_) ⟨BR _,BR _,rfl,(λx hx=>AY hx DD),by simp[AN],rfl⟩ AI ?_
 rintro⟨i,c,out,L,g,n⟩ F ⟨hi,hc,hol,how,hI,hL⟩;dsimp only at hi hc hol how hI hL⊢;refine AC.seq ?_;refine AC.seq ?_
 by_cases h:i<x.length
 ·have e1:decide ((i:Int)<(x.length:Int))=true:=AX (by omega)
  obtain⟨p,hp⟩:=CM h;have hx:=Dg hp;have hpl:=wx p (A8 hp);have d2:=SU y i (by omega) (by omega);unfold rL at d2;have hql:=Rp wy i;have ty:=RY y i;have tx:AN (x.take (i+1))=AN (x.take i)+RB^i*p:=by rw[Ez hp,Gk (i:=i) (by rw[BX];omega)]
  generalize y.getD i 0=q at*;obtain⟨d,c',hd,hc',hdig,hcase⟩:=dZ hpl hql hc;have k1:IntKind.i64.wrap ((p:Int)-(q:Int))=(p:Int)-q:=wI (by unfold RB at*;omega) (by unfold RB at*;omega);have k2:IntKind.i64.wrap ((p:Int)-q-(c:Int))=(p:Int)-q-c:=wI (by unfold RB at*;omega) (by unfold RB at*;omega);have wi:IntKind.i64.wrap ((i:Int)+1)=((i+1:Nat):Int):=wI (by omega) (by omega);have hlo:L.length<=1000001:=by rw[hL,Ap];omega
  have hmo:L++[Aa d]=(out++[d]).map Aa:=by rw[hL,DE];rfl
  have hvn:AN (out++[d])+AN (y.take (i+1))=AN (x.take (i+1))+RB^(i+1)*c':=by
   rw[Gk hol,ty,tx,CG,Bs];have e3:RB^i*(d+q+c)=RB^i*(p+RB*c'):=by rw[hdig]
   rw[BK,BK,BK (RB^i) p]at e3;omega
  have how':Rd (out++[d]):=Rd.append how λx hx=>by
   simp only[A7,DD,or_false]at hx;subst hx;exact hd
  have hol':(out++[d]).length=i+1:=by rw[B3,hol];rfl
  clear hI hL how;refine An w1 400 (by kernel_rfl) ?_;refine AT (Ac ea e1) ?_;refine AL ?_;refine Aj ?_;refine AC.seq ?_;refine AC.block ?_;refine AC.seq ?_;refine B5 w1 600 [0,1,2,3,4,5,6,7,8] [9,10] (by kernel_rfl) ?_;refine AD kN ?_;refine Bo kT hx ?_;refine AD kN ?_;refine BS.same _ d2 AH ?_;refine AD (Ac k1 k2) ?_;refine sR 700 ?_;refine Cp (α:=Nat) (λn=>⟨[(0,.sl false 1 (x.map Aa)),(1,.sl false 1 (y.map Aa)),(5,DK 1103 g 1 L),(6,Aa c'),(7,Aa i),(8,Aa d)],DB 1103 g 3 1 L,n⟩) (λ_=>True) ?_ ?_
  ·generalize DK 1103 g 1 L=od at*
   generalize DB 1103 g 3 1 L=oh at*;refine AC.seq ?_;rcases hcase with⟨rfl,h2⟩|⟨rfl,h2,h3⟩
   ·have e2:decide ((p:Int)-q-c<0)=false:=Af (by omega)
    rw[h2]at e2;rw[h2];refine An w1 800 (by kernel_rfl) ?_;refine AT e2 ?_;refine AL ?_;refine Aj ?_;exact⟨rfl,_,trivial,AI⟩
   ·have e2:decide ((p:Int)-q-c<0)=true:=AX h2
    have k3:IntKind.i64.wrap ((p:Int)-q-c+1000000000)=(d:Int):=by rw[h3];exact wI (by unfold RB at*;omega) (by unfold RB at*;omega)
    refine An w1 800 (by kernel_rfl) ?_;refine AT e2 ?_;refine AL ?_;refine sZ 900 ?_;refine AT k3 ?_;refine rI 1000 ?_;exact⟨rfl,_,trivial,AI⟩
  rintro n3 -;rcases L with _|⟨x0,L⟩
  all_goals
   (try simp only[Bl]at hlo)
   dsimp only[Fg,Fh,Eg,Eh];refine rI 1100 ?_;refine An w1 500 (by kernel_rfl) ?_;refine AT wi ?_
  ·exact⟨(i+1,c',out++[d],[]++[Aa d],_,_),⟨h,hc',hol',how',hvn,hmo⟩,by dsimp only;omega,AI⟩
  ·have htk:List.take (L.length+1) (x0::L)=x0::L:=by simp
   rw[htk];refine⟨(i+1,c',out++[d],x0::L++[Aa d],_,_),⟨h,hc',hol',how',hvn,hmo⟩,by dsimp only;omega,by(dsimp only;rw[KZ];exact AI)⟩
 ·have e1:decide ((i:Int)<(x.length:Int))=false:=Af (by omega)
  have hix:i=x.length:=by omega
  subst hix;rw[B1 (by omega),B1 (by omega),va,vb]at hI;have hlt:=F3 how;rw[hol]at hlt;have hxl:=F3 wx;rw[va]at hxl;have hov:AN out=a-b:=by
   rcases Di c with h|h
   ·subst h;rw[EU]at hI;omega
   ·have:c=1:=by omega
    subst this;rw[D6]at hI;omega
  refine An w1 400 (by kernel_rfl) ?_;refine AT (Ac ea e1) ?_;refine AL ?_;refine B7 ?_;refine AC.weak ⟨[(5,.sl false 1 L)],[],_⟩ sK ?_;rw[hL];refine sR 1200 ?_;refine Az.same _ (K0 out how (by omega)) AH ?_;refine BL ?_;refine Ab ?_;exact AO (by rw[hov]) AA.out
theorem Ts (a b:Nat)(hla:(AW a).length<1000000)(hlb:(AW b).length<1000000):AK C0 178 [rD a,rD b] (rD (a*b)):=by
 refine Ai.walk w1 nQ rfl λF=>?_
 change AC C0 F none F _ ⟨DH 0 [.sl false 1 ((AW a).map Aa),.sl false 1 ((AW b).map Aa)],[],0⟩ _;have va:=Dz a;have vb:=Dz b;have ha:=EX a;have hb:=EX b;generalize AW a=x at*;generalize AW b=y at*;subst va;subst vb;have ea:(((x.map Aa).length:Nat):Int)=(x.length:Int):=by rw[Ap]
 have eb:(((y.map Aa).length:Nat):Int)=(y.length:Int):=by rw[Ap]
 have wl:IntKind.i64.wrap ((x.length:Int)+(y.length:Int))=((x.length+y.length:Nat):Int):=by rw[wI (by omega) (by omega)];omega
 have r3:List.replicate (x.length+y.length) (ofV (.int .i64 0))=(List.replicate (x.length+y.length) 0).map Aa:=by rw[JP];rfl
 refine sR 0 ?_;refine sZ 100 ?_;refine AT (BV ea eb wl kN) ?_;refine AC.seq ?_;refine sR 200 ?_;refine AC.block ?_;refine AC.loop (α:=Nat×List Nat×Nat) (λp=>⟨[(0,.sl false 1 (x.map Aa)),(1,.sl false 1 (y.map Aa)),(5,.osl 105 6 1 0 (x.length+y.length)),(6,i64 p.1)],[⟨105,6,3,1,p.2.1.map Aa⟩],p.2.2⟩) (λp=>x.length-p.1)
  (λp=>p.1<=x.length/\p.2.1.length=x.length+y.length/\Rd p.2.1/\AN p.2.1=AN (x.take p.1)*AN y/\∀k,p.1+y.length<=k->∀d,p.2.1[k]?=some d->d=0) (0,List.replicate (x.length+y.length) 0,_)
  ⟨BR _,by simp,Rh _,by simp[AN,Uk],λk _ d hd=>OW (A8 hd)⟩ (by rw[<-r3];exact AI) ?_
 rintro⟨i,o,m⟩ F ⟨h1,h2,h3,h4,h5⟩;dsimp only at h1 h2 h3 h4 h5⊢;refine AC.seq ?_;refine AC.seq ?_
 by_cases hi:i<x.length
 ·have e1:decide ((i:Int)<(x.length:Int))=true:=AX (by omega)
  obtain⟨p,hp⟩:=CM hi;have hp':=Dg hp;have hpl:p<RB:=ha p (A8 hp);have wi:IntKind.i64.wrap ((i:Int)+1)=((i+1:Nat):Int):=wI (by omega) (by omega);have hax:AN (x.take (i+1))=AN (x.take i)+RB^i*p:=by rw[Ez hp,Gk (i:=i) (by rw[BX];omega)]
  refine An w1 300 (by kernel_rfl) ?_;refine AT (Ac ea e1) ?_;refine AL ?_;refine Aj ?_;refine AC.seq ?_;refine AC.block ?_;refine sR 500 ?_;refine AC.seq ?_;refine sR 600 ?_;refine AC.block ?_;refine AC.loop (α:=Nat×Nat×List Nat×Nat) (λq=>⟨[(0,.sl false 1 (x.map Aa)),(1,.sl false 1 (y.map Aa)),(5,.osl 105 6 1 0 (x.length+y.length)),(6,i64 i),(7,Aa q.2.1),(8,i64 q.1)],[⟨105,6,3,1,q.2.2.1.map Aa⟩],q.2.2.2⟩) (λq=>y.length-q.1)
   (λq=>q.1<=y.length/\q.2.1<RB/\q.2.2.1.length=x.length+y.length/\Rd q.2.2.1/\AN q.2.2.1+RB^(i+q.1)*q.2.1=AN (x.take i)*AN y+RB^i*p*AN (y.take q.1)/\∀k,i+y.length<=k->∀d,q.2.2.1[k]?=some d->d=0) (0,0,o,_)
   ⟨BR _,(show 0<RB by decide),h2,h3,by simp[AN,h4],h5⟩ AI ?_
  rintro⟨j,c,q,m2⟩ F ⟨g1,g2,g3,g4,g5,g6⟩;dsimp only at g1 g2 g3 g4 g5 g6⊢;clear h2 h3 h4 h5 r3 wl;refine AC.seq ?_;refine AC.seq ?_
  by_cases hj:j<y.length
  ·have e2:decide ((j:Int)<(y.length:Int))=true:=AX (by omega)
   obtain⟨r,hr⟩:=CM hj;have hr':=Dg hr;have hrl:r<RB:=hb r (A8 hr);obtain⟨z,hz⟩:=CM (l:=q) (i:=i+j) (by omega);have hz':=Dg hz;have hzl:z<RB:=g4 z (A8 hz);have wj:IntKind.i64.wrap ((j:Int)+1)=((j+1:Nat):Int):=wI (by omega) (by omega);have wij:IntKind.i64.wrap ((i:Int)+(j:Int))=((i+j:Nat):Int):=by rw[wI (by omega) (by omega)];omega
   have hbx:AN (y.take (j+1))=AN (y.take j)+RB^j*r:=by rw[Ez hr,Gk (i:=j) (by rw[BX];omega)]
   have hpr:p*r<=999999999*999999999:=IA (by unfold RB at hpl;omega) (by unfold RB at hrl;omega);have k0:IntKind.i64.wrap ((p:Int)*(r:Int))=((p*r:Nat):Int):=by rw[<-ER,wI (by omega) (by omega)]
   have k1:IntKind.i64.wrap ((z:Int)+((p*r:Nat):Int))=((z+p*r:Nat):Int):=by rw[wI (by omega) (by unfold RB at*;omega)];omega
   have k2:IntKind.i64.wrap (((z+p*r:Nat):Int)+(c:Int))=((z+p*r+c:Nat):Int):=by rw[wI (by omega) (by unfold RB at*;omega)];omega
   have hs:=M2 (d:=(z+p*r+c)%RB) hz;have e:=Ef (z+p*r+c) RB;have hq:(z+p*r+c)/RB<RB:=Es (by unfold RB at*;omega);have hd:(z+p*r+c)%RB<RB:=B0 _ (by decide);have k3:((z+p*r+c:Nat):Int).tmod 1000000000=(((z+p*r+c)%RB:Nat):Int):=rfl;have k4:IntKind.i64.wrap (((z+p*r+c:Nat):Int).tdiv 1000000000)=(((z+p*r+c)/RB:Nat):Int):=by
    show IntKind.i64.wrap ((((z+p*r+c)/1000000000:Nat)):Int)=_;exact wN (by change(z+p*r+c)/RB<=_;unfold RB at hq⊢;omega)
   have hval:AN (q.set (i+j) ((z+p*r+c)%RB))+RB^(i+(j+1))*((z+p*r+c)/RB)=AN (x.take i)*AN y+RB^i*p*AN (y.take (j+1)):=by
    rw[hbx,BK,<-ET (AN (x.take i)*AN y),<-g5];have h6:RB^(i+j)*((z+p*r+c)%RB)+RB^(i+(j+1))*((z+p*r+c)/RB)=RB^i*p*(RB^j*r)+RB^(i+j)*z+RB^(i+j)*c:=by
     have:RB^i*p*(RB^j*r)=RB^(i+j)*(p*r):=by
      rw[Ft,Bs,Bs,H6 p]
     rw[this,<-ET i j 1,CG,Bs,<-BK,<-BK,<-BK,e]
     congr 1;omega
    omega
   generalize(z+p*r+c)%RB=d at*;generalize(z+p*r+c)/RB=c' at*;clear hs e g5 hax hbx;refine An w1 700 (by kernel_rfl) ?_;refine AT (Ac eb e2) ?_;refine AL ?_;refine Aj ?_;refine AC.seq ?_;refine AC.block ?_;refine AC.seq ?_;refine B5 w1 900 [0,1,2,3,4,5,6,7,8,9,10,11,12,13,14,15,16] [17,18] (by kernel_rfl) ?_;refine AD (BV wij kN BQ hz') ?_;refine Bo kT hp' ?_;refine AD (BV wij kN BQ hz') ?_;refine Bo kT hr' ?_;refine AD (At k0 k1 k2) ?_;refine sZ 1000 ?_;refine AD (Ck wij kN BQ hz' k3) ?_;rw[Lz];refine An w1 1100 (by kernel_rfl) ?_;refine AT k4 ?_;refine An w1 800 (by kernel_rfl) ?_;refine AT wj ?_;refine⟨(j+1,c',q.set (i+j) d,_),⟨hj,hq,by dsimp only;rw[Dc];exact g3,g4.set hd,hval,λk hk d hd=>?_⟩,by dsimp only;omega,AI⟩;dsimp only at hk hd;rw[H9 (by omega)]at hd;exact g6 k hk d hd
  ·have e2:decide ((j:Int)<(y.length:Int))=false:=Af (by omega)
   have hj:j=y.length:=by omega
   subst hj;obtain⟨z,hz⟩:=CM (l:=q) (i:=i+y.length) (by omega);have hz0:z=0:=g6 _ (Ag _) _ hz;subst hz0;have hz':=Dg hz;have wij:IntKind.i64.wrap ((i:Int)+(y.length:Int))=((i+y.length:Nat):Int):=by rw[wI (by omega) (by omega)];omega
   have wij0:IntKind.i64.wrap ((i:Int)+(((y.map Aa).length:Nat):Int))=((i+y.length:Nat):Int):=by rw[eb];exact wij
   have k1:IntKind.i64.wrap (((0:Nat):Int)+(c:Int))=(c:Int):=by rw[wI (by omega) (by unfold RB at*;omega)];omega
   have hs:=M2 (d:=c) hz;rw[B1 (Ag _)]at g5;have hval:AN (q.set (i+y.length) c)=AN (x.take (i+1))*AN y:=by
    rw[hax,Bq];omega
   clear hs g5 hax;refine An w1 700 (by kernel_rfl) ?_;refine AT (Ac eb e2) ?_;refine AL ?_;refine B7 ?_;refine An w1 1200 (by kernel_rfl) ?_;refine AD (Ex eb wij kN BQ hz' k1) ?_;rw[Lz];refine An w1 400 (by kernel_rfl) ?_;refine AT wi ?_;refine⟨(i+1,q.set (i+y.length) c,_),⟨hi,by dsimp only;rw[Dc];exact g3,g4.set g2,hval,λk hk d hd=>?_⟩,by dsimp only;omega,AI⟩;dsimp only at hk hd;rw[H9 (by omega)]at hd;exact g6 k (by omega) d hd
 ·have e1:decide ((i:Int)<(x.length:Int))=false:=Af (by omega)
  have hi:i=x.length:=by omega
  subst hi;rw[B1 (Ag _)]at h4;refine An w1 300 (by kernel_rfl) ?_;refine AT (Ac ea e1) ?_;refine AL ?_;refine B7 ?_;refine AC.weak ⟨[(5,.sl false 1 (o.map Aa))],[],_⟩ (mR h2) ?_;refine sR 1300 ?_;refine Az.same _ (K0 o h3 (by omega)) AH ?_;refine BL ?_;refine Ab ?_;exact AO (by rw[h4]) AA.out
theorem N4 (a b:Nat)(h:a/b<=9223372036854775807):IntKind.i64.wrap ((a:Int).tdiv (b:Int))=((a/b:Nat):Int):=by
 rw[<-Int.ofNat_tdiv];exact wN h
theorem Qe (a b:Nat):(a:Int).tmod (b:Int)=((a%b:Nat):Int):=(Int.ofNat_tmod a b).symm
theorem jZ {env:Ao}{t K g n N t2:Nat}{z:List Nat}{T:Nat}{d2:D}(hl:z.length=N)(he:env.get t=.osl K g 1 0 N:=by exact rfl)(h2:env.get t2=d2:=by exact rfl):Wk ⟨env,[⟨K,g,T,1,z.map Aa⟩],n⟩ ⟨[(t,.sl false 1 (z.map Aa)),(t2,d2)],[],n⟩:=by
 subst hl;refine⟨.drop .nil,⟨?_,?_,trivial⟩,Ag _⟩
 ·dsimp only
  rw[he]
  have:=QT K g T 1 (z.map Aa)
  rwa [Ap]at this
 ·dsimp only
  rw[h2];exact .refl _
theorem jk {r p d:Nat}(h:r*RB+p<d*RB)(hd:d<RB):IntKind.i64.wrap ((r:Int)*1000000000)=((r*RB:Nat):Int)/\IntKind.i64.wrap (((r*RB:Nat):Int)+(p:Int))=((r*RB+p:Nat):Int):=by
 unfold RB at*;refine⟨?_,?_⟩
 ·rw[wI (by omega) (by omega)];omega
 ·rw[wI (by omega) (by omega)];omega
theorem VR (a d:Nat)(hd:0<d)(hdl:d<RB)(hl:(AW a).length<1000000):AK C0 227 [rD a,Aa d] (.tup [rD (a/d),Aa (a%d)]):=by
 refine Ai.walk w1 nv rfl λF=>?_
 change AC C0 F none F _ ⟨DH 0 [.sl false 1 ((AW a).map Aa),Aa d],[],0⟩ _;have va:=Dz a;have wa:=EX a;generalize AW a=x at*;have ea:(((x.map Aa).length:Nat):Int)=(x.length:Int):=by rw[Ap]
 have wl:IntKind.i64.wrap ((x.length:Int)-1)=(x.length:Int)-1:=wI (by omega) (by omega);have r3:List.replicate x.length (ofV (.int .i64 0))=(List.replicate x.length 0).map Aa:=by rw[JP];rfl
 have d0:¬(d:Int)=0:=by omega
 refine sR 0 ?_;refine sZ 100 ?_;refine AT (Ac ea kN) ?_;refine sR 200 ?_;refine AC.seq ?_;refine sZ 300 ?_;refine AT (Ac ea wl) ?_;refine AC.block ?_;refine AC.loop (α:=Nat×Nat×List Nat×Nat) (λp=>⟨[(0,.sl false 1 (x.map Aa)),(1,Aa d),(6,.osl 102 4 1 0 x.length),(7,Aa p.2.1),(8,i64 ((p.1:Int)-1))],[⟨102,4,3,1,p.2.2.1.map Aa⟩],p.2.2.2⟩) (λp=>p.1)
  (λp=>p.1<=x.length/\p.2.1<d/\p.2.2.1.length=x.length/\Rd p.2.2.1/\AN (p.2.2.1.drop p.1)*d+p.2.1=AN (x.drop p.1)) (x.length,0,List.replicate x.length 0,_)
  ⟨Ag _,hd,by simp,Rh _,by simp[AN]⟩ (by rw[<-r3];exact AI) ?_
 rintro⟨k,r,q,m⟩ F ⟨h1,h2,h3,h4,h5⟩;dsimp only at h1 h2 h3 h4 h5⊢;clear ea wl r3;refine AC.seq ?_;refine sR 400 ?_;refine AL ?_
 (refine Br (λh20=>?_) (λh20=>?_))<;>(try simp only[Bf,Bp]at h20)<;>(try simp only[h20])
 ·obtain⟨j,rfl⟩:∃j,k=j+1:=⟨k-1,by
   have:=Cz h20
   omega⟩
  have wj:((j+1:Nat):Int)-1=(j:Int):=by omega
  obtain⟨p,hp⟩:=CM (l:=x) (i:=j) (by omega);obtain⟨z,hz⟩:=CM (l:=q) (i:=j) (by omega);have hp':=Dg hp;have hz':=Dg hz;have hpl:=wa p (A8 hp);obtain⟨J1,J2⟩:=dC hd hp (by omega) h5;have hsb:r*RB+p<d*RB:=by
   have:(r+1)*RB<=d*RB:=CF _ h2
   rw[Bq]at this;omega
  have hql:(r*RB+p)/d<RB:=Es hsb;obtain⟨k1,k2⟩:=jk hsb hdl;have k3:=N4 (r*RB+p) d (BO (IB hql) (by decide));have k4:=Qe (r*RB+p) d;have wi:IntKind.i64.wrap ((j:Int)-1)=(j:Int)-1:=wI (by omega) (by omega);generalize(r*RB+p)/d=e at*;generalize(r*RB+p)%d=r' at*;rw[wj];refine Aj ?_;refine AC.seq ?_;refine AC.block ?_;refine sZ 600 ?_;refine AD kN ?_;refine Bo kT hp' ?_;refine AD (Ac k1 k2) ?_;refine sZ 700 ?_;refine AD (BV kN BQ hz' k3) ?_;rw[Lz];refine An w1 800 (by kernel_rfl) ?_;refine AT k4 ?_;refine An w1 500 (by kernel_rfl) ?_;refine AT wi ?_;exact⟨(j,r',q.set j e,_),⟨by dsimp only;omega,J2,by dsimp only;rw[Dc];exact h3,h4.set hql,J1⟩,by dsimp only;omega,AI⟩
 ·have hk:k=0:=by
   have:=C5 h20
   omega
  subst hk;rw[FL,FL,va]at h5;obtain⟨q1,q2⟩:=PL h5 h2;refine B7 ?_;refine AC.weak ⟨[(6,.sl false 1 (q.map Aa)),(7,Aa r)],[],_⟩ (jZ h3) ?_;refine sR 900 ?_;refine Az.same _ (K0 q h4 (by omega)) AH ?_;refine BL ?_;refine Ab ?_;exact AO (by rw[q1,q2]) AA.out
structure Iy (U V n2 v1 p1 q r:Nat):Prop where
 eq:q*v1+r=n2
 up:U<(q+1)*V
 cap:n2<=v1*RB+p1
 p1l:p1<RB
namespace Iy
variable {U V n2 v1 p1 q r:Nat} (G:Iy U V n2 v1 p1 q r)
include G
theorem small (h:RB<=r):q<RB:=by
 rcases BI q RB with h1|h1
 ·exact h1
 ·exfalso
  have h2:=CF v1 h1;have h3:=G.eq;have h4:=G.cap;have h5:=G.p1l;rw[BP RB v1]at h2;omega
theorem qle (hv:0<v1):q<=2*RB:=by
 rcases BI (2*RB) q with h1|h1
 ·exfalso
  have h2:=CF v1 h1;have h3:=G.eq;have h4:=G.cap;have h5:=G.p1l;have h6:RB*1<=RB*v1:=CU _ hv;rw[Nat.succ_mul,Bs,BP RB v1]at h2;rw[BP RB v1]at h6;omega
 ·exact h1
end Iy
section
variable {P v:List Nat} {m p0 p1 p2 v2 v1:Nat} (S:J4 P v m p0 p1 p2 v2 v1)
include S
theorem bz:Iy (AN P) (AN v) (p1+RB*p2) v1 p1 ((p2*RB+p1)/v1) ((p2*RB+p1)%v1):=by
 have c0:p2*RB+p1=p1+RB*p2:=by rw[BP,KQ]
 rw[c0];have e:=ES (p1+RB*p2) v1;have l:=B0 (p1+RB*p2) S.top;have c1:=BP v1 ((p1+RB*p2)/v1);refine⟨by omega,Uy S.below2 S.abovev ?_,?_,S.p1l⟩
 ·rw[Bq];omega
 ·have:=CU RB S.p2v1
  rw[BP v1];omega
theorem dS {q r:Nat}(G:Iy (AN P) (AN v) (p1+RB*p2) v1 p1 q r)(h:RB<=q\/r*RB+p0<q*v2):0<q/\Iy (AN P) (AN v) (p1+RB*p2) v1 p1 (q-1) (r+v1):=by
 obtain⟨e,u,cp,pl⟩:=G;have hq:0<q:=by
  rcases h with h|h
  ·unfold RB at h;omega
  ·rcases Di q with h0|h0
   ·subst h0;omega
   ·exact h0
 obtain⟨k,rfl⟩:∃k,q=k+1:=⟨q-1,by omega⟩
 refine⟨hq,⟨?_,?_,cp,pl⟩⟩
 ·rw[H5,<-e,Bq];omega
 ·rw[H5]
  rcases h with h|h
  ·have h1:AN v*RB<=(k+1)*AN v:=by rw[BP];exact CF _ h
   have:=S.less
   omega
  ·have e2:(k+1)*(v2+RB*v1)=(k+1)*v2+RB*((k+1)*v1):=by rw[BK,H6]
   refine U6 S.below3 S.abovev2 ?_;rw[e2,<-e,BK RB,BP RB r];omega
theorem Uz {q r:Nat}(G:Iy (AN P) (AN v) (p1+RB*p2) v1 p1 q r)(h:RB<=r\/(q<RB/\q*v2<=r*RB+p0)):q<RB/\q*AN v<=AN P+AN v:=by
 have hqB:q<RB:=by
  rcases h with h|h
  ·exact G.small h
  ·exact h.1
 obtain⟨e,u,cp,pl⟩:=G;have h5:=S.v2l;have hq:q*v2<=r*RB+p0:=by
  rcases h with h|h
  ·have h2:q*v2<=RB*RB:=IA (by omega) (by omega)
   have h3:RB*RB<=r*RB:=CF _ h;omega
  ·exact h.2
 have e2:q*(v2+RB*v1)=q*v2+RB*(q*v1):=by rw[BK,H6]
 refine⟨hqB,Vd (n3:=p0+RB*(p1+RB*p2)) (D:=v2+RB*v1) (P:=RB^m) (B:=RB) (v:=AN (v.take m)) ?_ ?_ S.lowv ?_ (by omega) ?_⟩
 ·rw[S.valP,BP];omega
 ·rw[S.valv,BP];omega
 ·rw[e2,<-e,BK RB,BP RB r]
  omega
 ·have:=S.top
  have h1:=CU RB (show 1<=v1 from this);omega
end
theorem DG.of {H:Hp}{d0 d:D}(h:Fz H [] d0 d):DG H d0 d:=λ_ _ _ _ m hO hN _ hv=>h.rep m hO (λe he b hb _=>hN e he b hb) hv
theorem vk {C:BC}{f:Nat}{ds ds':List D}{Φ:D->Prop}{H:Hp}{n:Nat}(hc:Ai C f ds' Φ)(hl:ds'.length=ds.length)(hv:∀(i:Nat) (a b:D),ds[i]?=some a->ds'[i]?=some b->DG H a b)
  (hp:Ah ds') (hflat:∀d,Φ d->JF d):CW C f ds H n (λd' H' n'=>Φ d'/\H'=H/\n'=n+1):=by
 refine⟨hc.1,λF ρ w vs m hfr hg hvs hr=>?_⟩;have hH:CV H [] H []:=by
  generalize H=H0
  have:∀H1:Hp,CV H0 [] H1 []:=λH1=>by
   induction H1 with
   |nil=>exact .nil
   |cons e r ih=>exact .drop ih
  exact this H0
 obtain⟨m',hO,hN⟩:=hH.mem m;refine(hc.2 (AM F.X ρ []) w vs m.g (BO m.gn m.size) (λb hb=>m'.own_lt hb) (by omega) λi x hx=>?_).mono ?_
 ·have hi:i<ds'.length:=(List.getElem?_eq_some_iff.1 hx).1
  have hd0:ds[i]?=some ds[i]:=BF (by omega);exact hp.out x (A8 hx) _ _ _ _ _ (hv i _ x hd0 hx C F ρ w m hO (λe he b hb=>hN e he b hb rfl) _ (hr i _ hd0))
 ·rintro e w' ⟨v,d',rfl,hb,hd',rep⟩
  have x:BN ρ (AM F.X ρ H) w ρ (AM F.X ρ H) w':=⟨hb.size,λ_ _ _ h=>h,λb hb' hO=>⟨hO,hb.block b hb'⟩,λb cs T fz hh=>⟨cs,_,by
   rw[hb.block b (Array.getElem?_eq_some_iff.1 hh).1];exact hh,rfl⟩⟩
  exact⟨v,_,H,n+1,ρ,rfl,⟨hd',rfl,rfl⟩,m.same x hb.os hb.tape hb.output hb.block,x,λk g hg'=>hfr k g (by omega),λe he=>C6 (hg e he),hflat _ hd' _ _ _ _ _ _ _ rep⟩
def WA (P v:List Nat)(d:D):Prop:=∃q,d=Aa q/\q<RB/\AN P<(q+1)*AN v/\q*AN v<=AN P+AN v
theorem gp {p2 p1 v1:Nat}(h1:p1<RB)(h2:p2<RB):IntKind.i64.wrap ((p2:Int)*1000000000)=((p2*RB:Nat):Int)/\IntKind.i64.wrap (((p2*RB:Nat):Int)+(p1:Int))=((p2*RB+p1:Nat):Int) /\
  IntKind.i64.wrap (((p2*RB+p1:Nat):Int).tdiv (v1:Int))=(((p2*RB+p1)/v1:Nat):Int):=by
 have h3:=GX (p2*RB+p1) v1;unfold RB at*;refine⟨?_,?_,?_⟩
 ·rw[wI (by omega) (by omega)];omega
 ·rw[wI (by omega) (by omega)];omega
 ·exact N4 _ _ (by omega)
theorem dg {t r v2 p0:Nat}(ht:t<RB)(hr:r<RB)(h2:v2<RB)(h0:p0<RB):IntKind.i64.wrap ((t:Int)*(v2:Int))=((t*v2:Nat):Int)/\IntKind.i64.wrap ((r:Int)*1000000000)=((r*RB:Nat):Int) /\
  IntKind.i64.wrap (((r*RB:Nat):Int)+(p0:Int))=((r*RB+p0:Nat):Int):=by
 have h3:t*v2<=999999999*999999999:=IA (by unfold RB at ht;omega) (by unfold RB at h2;omega);unfold RB at*;refine⟨?_,?_,?_⟩
 ·rw[<-ER,wI (by omega) (by omega)]
 ·rw[wI (by omega) (by omega)];omega
 ·rw[wI (by omega) (by omega)];omega
theorem mG {t v2 r p0:Nat}(h:t<RB):decide (((t*v2:Nat):Int)>((r*RB+p0:Nat):Int))=decide (RB<=t\/r*RB+p0<t*v2):=
 Cr.2 ⟨λh1=>.inr (Int.ofNat_lt.1 h1),λh1=>Int.ofNat_lt.2 (h1.resolve_left (Nat.not_le.2 h))⟩
theorem mH {t v2 r p0:Nat}(h:¬(RB<=t\/r*RB+p0<t*v2)):t<RB/\t*v2<=r*RB+p0:=⟨Nat.lt_of_not_le λh1=>h (.inl h1),Nat.le_of_not_lt λh1=>h (.inr h1)⟩
theorem mI {P v:List Nat}{m p0 p1 p2 v2 v1:Nat}(S:J4 P v m p0 p1 p2 v2 v1):∃a1 T q0 r0:Nat,IntKind.i64.wrap ((p2:Int)*1000000000)=(a1:Int)/\IntKind.i64.wrap ((a1:Int)+(p1:Int))=(T:Int) /\
  IntKind.i64.wrap ((T:Int).tdiv (v1:Int))=(q0:Int)/\(T:Int).tmod (v1:Int)=(r0:Int)/\Iy (AN P) (AN v) (p1+RB*p2) v1 p1 q0 r0/\r0<RB:=by
 obtain⟨k1,k2,k3⟩:=gp (v1:=v1) S.p1l S.p2l;exact⟨_,_,_,_,k1,k2,k3,Qe _ v1,bz S,Fs (B0 _ S.top) S.v1l⟩
theorem jA {t r v2 p0:Nat}(ht:t<RB)(hr:r<RB)(h2:v2<RB)(h0:p0<RB):∃a1 a2 a3:Nat,IntKind.i64.wrap ((t:Int)*(v2:Int))=(a3:Int)/\IntKind.i64.wrap ((r:Int)*1000000000)=(a1:Int) /\
  IntKind.i64.wrap ((a1:Int)+(p0:Int))=(a2:Int)/\decide ((a3:Int)>(a2:Int))=decide (RB<=t\/r*RB+p0<t*v2):=by
 obtain⟨q1,q2,q3⟩:=dg ht hr h2 h0;exact⟨_,_,_,q1,q2,q3,mG ht⟩
theorem lI (U v:List Nat)(j m p0 p1 p2 v2 v1:Nat)(S:J4 ((U.drop j).take (m+3)) v m p0 p1 p2 v2 v1)(hj:j+(m+3)<=U.length)(hU:U.length<4000000):Ai C0 229 [rL U,rL v,Aa j] (WA ((U.drop j).take (m+3)) v):=by
 refine Ai.walk w1 pG rfl λF=>?_
 unfold rL;have hg:∀ {k p:Nat},((U.drop j).take (m+3))[k]?=some p->U[j+k]?=some p:=λ{k p} h=>by
  rw[EP]at h;split at h
  ·rwa [Gb]at h
  ·cases h
 have u0:=Dg (hg S.h0);have u1:=Dg (hg S.h1);have u2:=Dg (hg S.h2);have y1:=Dg S.g1;have y2:=Dg S.g2;have l0:=S.p0l;have l1:=S.p1l;have l2:=S.p2l;have lv1:=S.v1l;have lv2:=S.v2l;have ev:(((v.map Aa).length:Nat):Int)=((m+2:Nat):Int):=by rw[Ap,S.lv]
 have eu:(((U.map Aa).length:Nat):Int)=(U.length:Int):=by rw[Ap]
 have w0:IntKind.i64.wrap ((j:Int)+((m+2:Nat):Int))=((j+(m+2):Nat):Int):=by rw[wI (by omega) (by omega)];omega
 have wa:IntKind.i64.wrap (((j+(m+2):Nat):Int)-1)=((j+(m+1):Nat):Int):=by rw[wI (by omega) (by omega)];omega
 have wb:IntKind.i64.wrap (((j+(m+2):Nat):Int)-2)=((j+m:Nat):Int):=by rw[wI (by omega) (by omega)];omega
 have wc:IntKind.i64.wrap (((m+2:Nat):Int)-1)=((m+1:Nat):Int):=by rw[wI (by omega) (by omega)];omega
 have wd:IntKind.i64.wrap (((m+2:Nat):Int)-2)=(m:Int):=by rw[wI (by omega) (by omega)];omega
 have ra:IntKind.i64.wrap (IntKind.i64.wrap ((j:Int)+((m+2:Nat):Int))-1)=((j+(m+1):Nat):Int):=by rw[w0,wa]
 have rb:IntKind.i64.wrap (IntKind.i64.wrap ((j:Int)+((m+2:Nat):Int))-2)=((j+m:Nat):Int):=by rw[w0,wb]
 obtain⟨a1,T,q0,r0,k1,k2,k3,k4,G0,hr0⟩:=mI S;have v0:¬(v1:Int)=0:=by have:=S.top;omega
 have hvl:=S.lv;refine sR 0 ?_;refine sZ 100 ?_;refine AT ev ?_;refine AC.seq ?_;refine B5 w1 200 [0,1,2,3,4,5,6,7,8,9,10,11,12,13] [14,15] (by kernel_rfl) ?_;refine AD (BV w0 wa ra kN) ?_;refine Bo kT u2 ?_;refine AD (BV w0 wa ra kN) ?_;refine Bo kT u1 ?_;refine AD (Ex w0 wa ra kN k1 k2) ?_;refine AC.seq ?_;refine B5 w1 300 [0,1,2,3,4,5,6,7,8,9,10,11,12,13,14] [15] (by kernel_rfl) ?_;refine AD (Ac wc kN) ?_;refine Bo kT y1 ?_;refine AD (Ac wc kN) ?_;refine Bo kT y1 ?_;refine AD (BV wc kN k3 k4) ?_;refine Cp (α:=Nat×Nat) (λp=>⟨[(9,Aa p.1)],[],p.2⟩) (λp=>p.1<RB/\AN ((U.drop j).take (m+3))<(p.1+1)*AN v/\p.1*AN v<=AN ((U.drop j).take (m+3))+AN v) ?_ ?_
 ·refine AC.block ?_
  refine Fr (α:=Nat×Nat×Nat) (λp=>⟨[(0,.sl false 1 (U.map Aa)),(1,.sl false 1 (v.map Aa)),(2,Aa j),(7,i64 ((m+2:Nat):Int)),(9,Aa p.1),(10,Aa p.2.1)],[],p.2.2⟩) (λp=>p.1)
   (λp F'=>F'=F/\Iy (AN ((U.drop j).take (m+3))) (AN v) (p1+RB*p2) v1 p1 p.1 p.2.1/\p.2.1<RB) (q0,r0,_) ⟨rfl,G0,hr0⟩ AI ?_
  rintro⟨t,r,n⟩ F' ⟨rfl,G,hr⟩;dsimp only at G hr⊢;clear G0 hr0 k1 k2 k3 k4 u1 u2 ra wa;have htl:=G.qle S.top;obtain⟨b,hb⟩:∃b,b=decide (RB<=t\/r*RB+p0<t*v2):=⟨_,rfl⟩
  refine AC.seq ?_;refine Cp (α:=Nat) (λn=>⟨[(0,.sl false 1 (U.map Aa)),(1,.sl false 1 (v.map Aa)),(2,Aa j),(7,i64 ((m+2:Nat):Int)),(9,Aa t),(10,Aa r),(63,Aq b)],[],n⟩) (λ_=>True) ?_ ?_
  ·rcases BI t RB with h|h
   ·have e1:decide ((t:Int)>=1000000000)=false:=Af (by unfold RB at h;omega)
    obtain⟨a1,a2,a3,q1,q2,q3,q4⟩:=jA h hr lv2 l0;rw[<-hb]at q4;clear hb;rw[<-q4];refine B5 w1 400 [0,1,2,3,4,5,6,7,8,9,10,11,12,13,14,15,16,17,18,19] [20,21] (by kernel_rfl) ?_;refine AD e1 ?_;refine AD (At kF wd kN) ?_;refine Bo kF y2 ?_;refine AD (Ck kF w0 wb rb kN) ?_;refine Bo kF u0 ?_;refine AD (BV kF q1 q2 q3) ?_;refine AD kF ?_;exact⟨trivial,_,trivial,AI⟩
   ·have e1:decide ((t:Int)>=1000000000)=true:=AX (by unfold RB at h;omega)
    have e2:b=true:=hb.trans (AX (.inl h));subst e2;refine B5 w1 400 [0,1,2,3,4,5,6,7,8,9,10,11,12,13,14,15,16,17,18,19] [20,21] (by kernel_rfl) ?_;refine AD e1 ?_;refine AD kT ?_;refine AD kT ?_;exact⟨trivial,_,trivial,AI⟩
  rintro n2 -;cases b with
  |true=>
   have hc:=Cz hb.symm;obtain⟨t0,G2⟩:=dS S G hc;have j1:IntKind.i64.wrap ((t:Int)-1)=((t-1:Nat):Int):=by rw[wI (by omega) (by unfold RB at htl;omega)];omega
   have j2:IntKind.i64.wrap ((r:Int)+(v1:Int))=((r+v1:Nat):Int):=by rw[wI (by omega) (by unfold RB at hr lv1;omega)];omega
   clear hc hb;refine AL ?_;refine Aj ?_;refine AC.block ?_;refine sZ 500 ?_;refine AT j1 ?_;refine sZ 600 ?_;refine AD (Ac wc kN) ?_;refine Bo kT y1 ?_;refine AD j2 ?_;refine AC.seq ?_;rcases BI (r+v1) RB with h|h
   ·have e3:decide (((r+v1:Nat):Int)>=1000000000)=false:=Af (by unfold RB at h;omega)
    refine An w1 700 (by kernel_rfl) ?_;refine AT e3 ?_;refine AL ?_;refine Aj ?_;exact⟨(t-1,r+v1,_),⟨rfl,G2,h⟩,by dsimp only;omega,AI⟩
   ·have e3:decide (((r+v1:Nat):Int)>=1000000000)=true:=AX (by unfold RB at h;omega)
    obtain⟨g1,g2⟩:=Uz S G2 (.inl h);refine An w1 700 (by kernel_rfl) ?_;refine AT e3 ?_;refine AL ?_;refine sR 800 ?_;refine Ab ?_;exact⟨_,.refl _,AA.out,t-1,rfl,g1,G2.up,g2⟩
  |false=>
   have hc:=C5 hb.symm;obtain⟨g1,g2⟩:=Uz S G (.inr (mH hc));clear hc hb;refine AL ?_;refine B7 ?_;exact⟨rfl,⟨t,_⟩,⟨g1,G.up,g2⟩,AI⟩
 rintro⟨q,n⟩ ⟨g1,g2,g3⟩;dsimp only at g1 g2 g3⊢;refine sR 900 ?_;refine Ab ?_;exact⟨_,.refl _,AA.out,q,rfl,g1,g2,g3⟩
def Ns (k g k' n:Nat)(env:Ao):Ao->Prop
 | []=>True
 |(t,d)::r=>(d=env.get t\/∃sz i len,env.get t=.osl k g sz i len/\d=.osl k' n sz i len)/\Ns k g k' n env r
theorem Ns.get {k g k' n:Nat}{env:Ao}:∀ {env':Ao},Ns k g k' n env env'->∀t,env'.get t=.any\/env'.get t=env.get t\/∃sz i len,env.get t=.osl k g sz i len/\env'.get t=.osl k' n sz i len
 | [],_,t=>.inl rfl
 |(t0,d)::r,h,t=>by
  simp only[Ao.get];cases hb:Nat.beq t0 t with
  |true=>
   obtain rfl:=Bz hb;rcases h.1 with h1|h1
   ·exact .inr (.inl h1)
   ·exact .inr (.inr h1)
  |false=>exact Ns.get h.2 t
section
variable {C:BC} {B F:AZ} {rd:Option Nat} {Q:Exit->AZ->St->Prop}
theorem vK {c:Code}{env:Ao}{k g k' T sz n:Nat}{es:List D}(env':Ao)(he:Ns k g k' n env env')(h:AC C B rd F c ⟨env',[⟨k',n,T,sz,es⟩],n+1⟩ Q):AC C B rd F c ⟨env,[⟨k,g,T,sz,es⟩],n⟩ Q:=by
 refine⟨λhB hd ρ a w hs=>?_⟩;obtain⟨ρ',hl,hk,hf⟩:∃ρ':Lk,(∀k1 g1 b,ρ k1 g1=some b->ρ' k1 g1=some b)/\ρ' k' n=ρ k g/\IV ρ' (n+1):=by
  cases hb:ρ k g with
  |none=>exact⟨ρ,λ_ _ _ h=>h,hs.fresh _ _ (Ag _),λk1 g1 h=>hs.fresh _ _ (Nat.le_of_succ_le h)⟩
  |some b=>exact⟨ρ.put k' n b,λk1 g1 b1 h1=>Md (hs.fresh _ _ (Ag _)) h1,ED _ _ _ _,λk1 g1 h1=>by
    unfold Lk.put;split
    ·rename_i hh;omega
    ·exact hs.fresh _ _ (Nat.le_of_succ_le h1)⟩
 have hO:AM F.X ρ' [⟨k',n,T,sz,es⟩]=AM F.X ρ [⟨k,g,T,sz,es⟩]:=funext λb=>propext (by simp[AM,hk])
 have x:BN ρ (AM F.X ρ [⟨k,g,T,sz,es⟩]) w ρ' (AM F.X ρ' [⟨k',n,T,sz,es⟩]) w:=⟨Ag _,hl,λb _ hb=>⟨by rw[hO];exact hb,rfl⟩,λ_ cs _ _ h=>⟨cs,_,h,rfl⟩⟩
 refine h.out hB hd ρ' a w ⟨⟨⟨λe he'=>?_,by simp,λe he' b hb=>?_⟩,hs.mem.os,hs.mem.tape,hs.mem.output,hs.mem.size,hs.mem.blk,hs.mem.xlt,hs.mem.g0,hs.mem.gn,hs.mem.gw,λk1 g1 b h1=>hl _ _ _ (hs.mem.lnk _ _ _ h1),hs.mem.shp⟩,hf,λe he'=>?_,λt=>?_,hs.nt,hs.dfr⟩
 ·simp only[A7,DD,or_false]at he'
  subst he';rcases hs.mem.hok.ent ⟨k,g,T,sz,es⟩ (by simp)with⟨h1,h2⟩|⟨b,cs,h1,h2,h3⟩
  ·exact .inl ⟨h1,by rw[show ρ' k' n=ρ k g from hk];exact h2⟩
  ·refine .inr ⟨b,cs,hk.trans h1,h2,?_⟩
   have h4:=h3.mono x;exact⟨h4.len,h4.siz,h4.one,h4.rep⟩
 ·simp only[A7,DD,or_false]at he'
  subst he';exact hs.mem.hok.own ⟨k,g,T,sz,es⟩ (by simp) b (hk.symm.trans hb)
 ·simp only[A7,DD,or_false]at he'
  subst he';exact Gy _
 ·have h0:=(hs.env t).mono x
  rcases he.get t with h1|h1|⟨sz',i,len,h1,h2⟩
  ·show AU _ _ _ (env'.get t) _
   rw[h1];exact .any _
  ·show AU _ _ _ (env'.get t) _
   rw[h1];exact h0
  ·show AU _ _ _ (env'.get t) _
   rw[h2];have h5:=hs.env t;change AU _ _ _ (env.get t) _ at h5;rw[h1]at h5;generalize a.tmps.getD t undef=v at*;cases h5 with
   |onil=>exact .onil _ _ _
   |osl hr hb hc hs' hm=>exact .osl (hk.trans hr) hb hc hs' hm
end
theorem uK {b m y:Nat}(hl:(AW b).length=m+1)(hy:(AW b)[m]?=some y):∃f,f=1000000000/(y+1)/\0<f/\f<RB/\(AW (b*f)).length=m+1:=by
 have hy0:=O7 b hl hy;have hyl:y<RB:=EX b y (A8 hy);have hf0:0<1000000000/(y+1):=Nat.div_pos (by unfold RB at hyl;omega) (by omega);have hf1:1000000000/(y+1)<RB:=HO (by decide) (by omega);have hm:=Nat.div_mul_le_self 1000000000 (y+1);refine⟨_,rfl,hf0,hf1,?_⟩;generalize 1000000000/(y+1)=f at*;refine dX ?_ ?_
 ·exact BO (Rg hl) (Nat.le_mul_of_pos_right _ hf0)
 ·have h2:=TF hl hy
  have h3:=F3 ((EX b).take m);rw[BX,hl,Ev (by omega)]at h3;rw[Dz]at h2;have h4:b<RB^m*(y+1):=by rw[BK,D6];omega
  have h5:b*f<RB^m*(y+1)*f:=Q9 h4 hf0;have h6:RB^m*(y+1)*f=RB^m*(f*(y+1)):=by rw[Bs,BP (y+1)]
  have h7:RB^m*(f*(y+1))<=RB^m*RB:=CU _ hm;rw[CG];omega
theorem dw {a b f:Nat}{U v:List Nat}{k lu lq:Nat}(hf:0<f)(hU:AN U=a*f)(hv:AN v=b*f)(wU:Rd U)(lU:U.length=lu){q:List Nat}(hq:q=List.replicate lq 0)(hk:lq<=k)
  (hab:a<RB^k*b):LE (a*f) v U q lu lq k:=by
 subst hq;refine⟨lU,Mi,wU,Rh _,?_,?_⟩
 ·rw[Gv (by rw[Mi];exact hk)]
  rw[show AN []=0 from rfl,EU,GZ,BQ,hU]
 ·rcases BI (AN (U.drop k)) (AN v)with h|h
  ·exact h
  ·exfalso
   have e0:AN U=AN (U.take k)+RB^(U.take k).length*AN (U.drop k):=by
    conv=>lhs;rw[<-Er k U]
    rw[Im]
   have h3:a*f<RB^k*b*f:=Q9 hab hf;rw[Bs,<-hv]at h3;rcases BI U.length k with hl|hl
   ·rw[Gv (by omega)]at h
    rw[show AN []=0 from rfl]at h;rw[Nat.le_zero.1 h,EU]at h3;omega
   ·rw[BX,Ev hl]at e0
    have:=CU (RB^k) h
    omega
theorem gX {a b f:Nat}{v U q:List Nat}{lu lq:Nat}(hf:0<f)(I:LE (a*f) v U q lu lq 0)(hv:AN v=b*f):AN q=a/b/\AN U=a%b*f:=by
 obtain⟨lU,lQ,wU,wq,val,less⟩:=I;simp only[LO,Ih,FL]at val less;obtain⟨h1,h2⟩:=PL val less;rw[hv,Oc _ _ hf]at h1;rw[hv,Od]at h2;exact⟨h1,h2⟩
theorem kr {P V q N Pn c z W:Nat}(hI:N+q*V=Pn+W*c)(hP:P=Pn+W*z)(hc:c<=z)(hup:P<(q+1)*V):P/V=q/\P%V=N+W*(z-c):=by
 have e:W*z=W*c+W*(z-c):=by rw[<-BK];congr 1;omega
 exact Rv (N:=N+W*(z-c)) (by omega) hup
theorem kt {P V q N Pn N2 c c2 z W:Nat}(hI:N+q*V=Pn+W*c)(hP:P=Pn+W*z)(hz:z<c)(hN:N<W)(hdn:q*V<=P+V)(hN2:N2+W*c2=N+V)(hc2:c2<=1)(hN2l:N2<W)(hVW:V<W):
  0<q/\P/V=q-1/\P%V=N2/\(z:Int)-c+c2=0:=by
 obtain⟨e,rfl⟩:∃e,c=z+1+e:=⟨c-z-1,by omega⟩
 have h1:W*(z+1+e)=W*z+W+W*e:=by rw[BK,BK,D6]
 have he:e=0:=by
  rcases Di e with h|h
  ·exact h
  ·have:=CU W h
   omega
 subst he;rw[EU]at h1;obtain⟨a1,a2,a3⟩:=V3 (U:=P) (V:=V) (q:=q) (N:=N) (N3:=N2) (T:=W) (c:=c2) (by omega) hN hdn hN2 hc2 hN2l;refine⟨a1,a2,a3,?_⟩
 have:c2=1:=by
  rcases Di c2 with h|h
  ·exfalso
   subst h;rcases Di q with h0|h0
   ·subst h0;omega
   ·obtain⟨k,rfl⟩:∃k,q=k+1:=⟨q-1,by omega⟩
    rw[Bq,Ih]at hI hdn;omega
  ·omega
 subst this;omega
def blk (A N:List Nat)(top:Int)(Z:List Nat):List D:=A.map Aa++(N.map Aa++(i64 top::Z.map Aa))
theorem X0 {A N Z:List Nat}{top:Int}{i z:Nat}(h:N[i]?=some z):(blk A N top Z)[A.length+i]?=some (Aa z):=by
 have hi:i<N.length:=(List.getElem?_eq_some_iff.1 h).1;unfold blk;rw[Et (by rw[Ap];omega),Ap,KL,GH (by rw[Ap];exact hi)];exact Dg h
theorem W5 {A N Z:List Nat}{top:Int}{i d:Nat}(h:i<N.length):(blk A N top Z).set (A.length+i) (Aa d)=blk A (N.set i d) top Z:=by
 unfold blk;rw[Ob _ _ (by rw[Ap];omega),Ap,KL,List.set_append_left _ _ (by rw[Ap];exact h),Lz]
theorem SR {A N Z:List Nat}{top:Int}{n:Nat}(h:N.length=n):(blk A N top Z)[A.length+n]?=some (i64 top):=by
 unfold blk;rw[Et (by rw[Ap];omega),Ap,KL,Et (by rw[Ap];omega),Ap,h,Nat.sub_self];rfl
theorem WE {A N Z:List Nat}{top t:Int}{n:Nat}(h:N.length=n):(blk A N top Z).set (A.length+n) (i64 t)=blk A N t Z:=by
 unfold blk;rw[Ob _ _ (by rw[Ap];omega),Ap,KL,Ob _ _ (by rw[Ap];omega),Ap,h,Nat.sub_self];rfl
theorem SQ {A N Z:List Nat}{t:Nat}:blk A N (t:Int) Z=(A++((N++[t])++Z)).map Aa:=by
 unfold blk;simp[DE]
theorem jq {t x c z:Nat}(ht:t<RB)(hx:x<RB)(hc:c<=RB)(hz:z<RB):∃p lo hi x' d c':Nat,IntKind.i64.wrap ((t:Int)*(x:Int))=(p:Int)/\IntKind.i64.wrap ((p:Int)+(c:Int))=(x':Int)/\((x':Int)).tmod 1000000000=(lo:Int) /\
  IntKind.i64.wrap (((x':Int)).tdiv 1000000000)=(hi:Int)/\IntKind.i64.wrap ((z:Int)-(lo:Int))=(z:Int)-lo/\d<RB/\c'<=RB/\d+t*x+c=z+RB*c' /\
  ((c'=hi/\(z:Int)-lo=d)\/(c'=hi+1/\(z:Int)-lo<0/\IntKind.i64.wrap ((z:Int)-lo+1000000000)=d/\IntKind.i64.wrap ((hi:Int)+1)=((hi+1:Nat):Int))):=by
 have h3:t*x<=999999999*999999999:=IA (by unfold RB at ht;omega) (by unfold RB at hx;omega);have e:=Ef (t*x+c) 1000000000;have l:=B0 (t*x+c) (show 1000000000>0 by decide);have k0:IntKind.i64.wrap ((t:Int)*(x:Int))=((t*x:Nat):Int):=by rw[<-ER,wI (by omega) (by omega)]
 unfold RB at*;have k1:IntKind.i64.wrap (((t*x:Nat):Int)+(c:Int))=((t*x+c:Nat):Int):=by rw[wI (by omega) (by omega)];omega
 have k2:((t*x+c:Nat):Int).tmod 1000000000=(((t*x+c)%1000000000:Nat):Int):=Qe _ 1000000000;have k3:IntKind.i64.wrap (((t*x+c:Nat):Int).tdiv 1000000000)=(((t*x+c)/1000000000:Nat):Int):=N4 _ 1000000000 (by omega);generalize t*x=p at*;generalize(p+c)%1000000000=lo at*;generalize(p+c)/1000000000=hi at*;rcases BI z lo with h|h
 ·exact⟨_,_,_,_,z+1000000000-lo,hi+1,k0,k1,k2,k3,wI (by omega) (by omega),by omega,by omega,by omega,.inr ⟨rfl,by omega,by rw[wI (by omega) (by omega)];omega,by rw[wI (by omega) (by omega)];omega⟩⟩
 ·exact⟨_,_,_,_,z-lo,hi,k0,k1,k2,k3,wI (by omega) (by omega),by omega,by omega,by omega,.inl ⟨rfl,by omega⟩⟩
theorem ji {z x c:Nat}(hz:z<RB)(hx:x<RB)(hc:c<=1):∃p s d c':Nat,IntKind.i64.wrap ((z:Int)+(x:Int))=(p:Int)/\IntKind.i64.wrap ((p:Int)+(c:Int))=(s:Int)/\((s:Int)).tmod 1000000000=(d:Int) /\
  IntKind.i64.wrap (((s:Int)).tdiv 1000000000)=(c':Int)/\d<RB/\c'<=1/\d=(z+x+c)%RB/\c'=(z+x+c)/RB:=by
 have e:=Ef (z+x+c) 1000000000;have l:=B0 (z+x+c) (show 1000000000>0 by decide);unfold RB at*;have k0:IntKind.i64.wrap ((z:Int)+(x:Int))=((z+x:Nat):Int):=by rw[wI (by omega) (by omega)];omega
 have k1:IntKind.i64.wrap (((z+x:Nat):Int)+(c:Int))=((z+x+c:Nat):Int):=by rw[wI (by omega) (by omega)];omega
 have k2:((z+x+c:Nat):Int).tmod 1000000000=(((z+x+c)%1000000000:Nat):Int):=Qe _ 1000000000;have k3:IntKind.i64.wrap (((z+x+c:Nat):Int).tdiv 1000000000)=(((z+x+c)/1000000000:Nat):Int):=N4 _ 1000000000 (by omega);exact⟨_,_,_,_,k0,k1,k2,k3,l,by omega,rfl,rfl⟩
set_option maxHeartbeats 2000000
theorem kf:rD 0=.sl false 1 []:=by unfold rD;rw[GO];rfl
theorem Sf {H:Hp}{K g T:Nat}{l:List Nat}{N:Nat}(hl:l.length=N)(he:Hp.get H K=some ⟨K,g,T,1,l.map Aa⟩:=by exact rfl):Fz H [] (.osl K g 1 0 N) (.sl false 1 (l.map Aa)):=by
 subst hl;have key:∀(j:Nat) (d d':D),(l.map Aa)[0+j]?=some d->(l.map Aa)[j]?=some d'->d=d':=λj d d' h1 h2=>by
  rw[BQ]at h1;rw[h1]at h2;exact FX h2
 refine .osl (e:=⟨K,g,T,1,l.map Aa⟩) he rfl rfl rfl (by simp) (by simp) (λj d d' h1 h2=>by rw[key j d d' h1 h2]) λj d d' q c c' h1 h2 h3 h4=>?_
 rw[key j d d' h1 h2]at h3;rw[h3]at h4;cases h4;exact Fz.refl _
theorem gY (a b:Nat)(hab:a<b)(ha:(AW a).length<1000000)(hb:(AW b).length<1000000):AK C0 176 [rD a,rD b] (.tup [rD (a/b),rD (a%b)]):=by
 rw[Gx hab,DZ hab,kf];refine Ai.walk w1 S5 rfl λF=>?_
 have cc:=Qc a b (by omega) (by omega);have e1:=Wv hab;refine sR 0 ?_;refine AC.seq ?_;refine sR 100 ?_;refine cI cc ?_;rw[e1];refine AL ?_;refine sR 200 ?_;refine Ab ?_;exact⟨_,Y5 (.nil 1) (.refl _),WU (.sl λe he=>by cases he) (NS _),rfl⟩
theorem jn (a b:Nat)(hab:b<=a)(ha:(AW a).length<1000000)(hb:(AW b).length=1)(hb0:b≠0):AK C0 176 [rD a,rD b] (.tup [rD (a/b),rD (a%b)]):=by
 have cc:=Qc a b (by omega) (by omega);have e1:=Pz hab;have hbl:b<RB:=by
  have:=IG b
  rw[hb,Nat.pow_one]at this;exact this
 have hlb:(AW b)[0]?=some b:=by rw[Ow hb0 hbl];rfl
 have hb':=Dg hlb;have cd:=VR a b (Dt hb0) hbl ha;have e3:(((((AW b).map Aa).length:Nat):Int)==1)=true:=by rw[Ap,hb];rfl
 have hml:a%b<RB:=Fs (B0 _ (Dt hb0)) hbl;have hv:AN [a%b]=a%b:=by simp[AN]
 refine Ai.walk w1 S5 rfl λF=>?_
 generalize a/b=q at*;generalize a%b=r at*;unfold rD rL at cc cd⊢;change AC C0 F none F _ _ (QZ X1.tt _ (· = .tup [rD q,rD r]));generalize AW a=la at*;generalize AW b=lb at*;refine sR 0 ?_;refine AC.seq ?_;refine sR 100 ?_;refine cI cc ?_;rw[e1];refine AL ?_;refine Aj ?_;refine AC.seq ?_;refine sZ 300 ?_;refine AT e3 ?_;refine AL ?_;refine sZ 400 ?_;refine AD kN ?_;refine Bo kT hb' ?_;refine AD kN ?_;refine Az.same _ cd AH ?_;refine BL ?_;refine sR 500 ?_;have hrl:Rd [r]:=λa ha=>by
  simp only[A7,DD,or_false]at ha;subst ha;exact hml
 refine Az.pure [rL [r]] _ ⟨.nn true 1 _,trivial⟩ (K0 [r] hrl (by simp)) AH ?_;refine BL ?_;refine Ab ?_;exact AO (by rw[hv];rfl) AA.out
theorem u5 {H:Hp}{d1 d2 d3 e1 e2 e3:D}(h1:DG H d1 e1)(h2:DG H d2 e2)(h3:DG H d3 e3):∀(i:Nat) (a b:D),[d1,d2,d3][i]?=some a->[e1,e2,e3][i]?=some b->DG H a b
 | 0,_,_,ha,hb=>by cases ha;cases hb;exact h1
 | 1,_,_,ha,hb=>by cases ha;cases hb;exact h2
 | 2,_,_,ha,hb=>by cases ha;cases hb;exact h3
 |_+3,_,_,ha,_=>by cases ha
theorem fC {P v:List Nat}(d:D)(h:WA P v d):JF d:=by
 obtain⟨q,rfl,_⟩:=h;exact JF.prim _
theorem ku {v N Pn:List Nat}{t i c z x:Nat}(hz:N[i]?=some z)(hx:v[i]?=some x)(ht:t<RB)(hxl:x<RB)(hc:c<=RB)(hzl:z<RB)(hI:AN N+t*AN (v.take i)=AN Pn+RB^i*c):
  ∃(p x' lo hi d c':Nat) (e:Int),IntKind.i64.wrap ((t:Int)*(x:Int))=(p:Int)/\IntKind.i64.wrap ((p:Int)+(c:Int))=(x':Int)/\((x':Int)).tmod 1000000000=(lo:Int) /\
  IntKind.i64.wrap (((x':Int)).tdiv 1000000000)=(hi:Int)/\IntKind.i64.wrap ((z:Int)-(lo:Int))=e/\d<RB/\c'<=RB/\AN (N.set i d)+t*AN (v.take (i+1))=AN Pn+RB^(i+1)*c' /\
  ((decide (e<0)=false/\e=(d:Int)/\hi=c')\/(decide (e<0)=true/\IntKind.i64.wrap (e+1000000000)=(d:Int)/\IntKind.i64.wrap ((hi:Int)+1)=(c':Int))):=by
 obtain⟨p,lo,hi,x',d,c',k1,k2,k3,k4,k5,k6,k7,k8,k9⟩:=jq ht hxl hc hzl;have J:=bn (b:=0) (c':=0) (lo:=t*x+c) (b':=c') (d:=d) (A:=N) (P:=Pn) (v:=v) (q:=t) hz hx hI rfl (by rw[<-k8];exact ET d (t*x) c ▸ rfl);refine⟨p,x',lo,hi,d,c',_,k1,k2,k3,k4,k5,k6,k7,by rw[J,BQ],?_⟩;rcases k9 with⟨h1,h2⟩|⟨h1,h2,h3,h4⟩
 ·exact .inl ⟨Af (by rw[h2];exact Int.not_lt.2 (Int.natCast_nonneg d)),h2,h1.symm⟩
 ·exact .inr ⟨AX h2,h3,by rw[h1];exact h4⟩
theorem ki {v N Nb:List Nat}{i c z x:Nat}(hz:N[i]?=some z)(hx:v[i]?=some x)(hxl:x<RB)(hc:c<=1)(hzl:z<RB)(hI:AN N+RB^i*c=AN Nb+AN (v.take i)):
  ∃(p s d c':Nat),IntKind.i64.wrap ((z:Int)+(x:Int))=(p:Int)/\IntKind.i64.wrap ((p:Int)+(c:Int))=(s:Int)/\((s:Int)).tmod 1000000000=(d:Int) /\
  IntKind.i64.wrap (((s:Int)).tdiv 1000000000)=(c':Int)/\d<RB/\c'<=1/\AN (N.set i d)+RB^(i+1)*c'=AN Nb+AN (v.take (i+1)):=by
 obtain⟨p,s,d,c',k1,k2,k3,k4,k5,k6,rfl,rfl⟩:=ji hzl hxl hc;exact⟨p,s,_,_,k1,k2,k3,k4,k5,k6,bl hz hx hI⟩
theorem du {U:List Nat}{k:Nat}(h:AN U<RB^k)(hk:k<=U.length):AN (U.take k)=AN U:=by
 have e:AN U=AN (U.take k)+RB^k*AN (U.drop k):=by
  conv=>lhs;rw[<-Er k U]
  rw[Im,BX,Ev hk]
 rcases Di (AN (U.drop k))with h0|h0
 ·rw[h0,EU,DM]at e;exact e.symm
 ·exfalso
  have:=CU (RB^k) h0
  omega
theorem dt {P v:List Nat}{m p0 p1 p2 v2 v1:Nat}(S:J4 P v m p0 p1 p2 v2 v1):∃Pn,P=Pn++[p2]/\Pn.length=m+2/\Rd Pn/\AN P=AN Pn+RB^(m+2)*p2:=by
 have hl:=S.lP;have e:P=P.take (m+2)++[p2]:=by
  rw[<-Ez S.h2,B1 (by omega)]
 have hn:(P.take (m+2)).length=m+2:=by rw[BX];omega
 refine⟨P.take (m+2),e,hn,S.wP.take _,?_⟩
 conv=>lhs;rw[e]
 rw[Gk hn]
theorem ZN {P N:List Nat}{m z V:Nat}(hl:N.length=m+2)(hN:Rd N)(hz:z<RB)(hv:AN N+RB^(m+2)*z=AN P%V):(N++[z]).length=m+3/\Rd (N++[z])/\AN (N++[z])=AN P%V:=by
 refine⟨by rw[B3,hl];rfl,Rd.append hN λa ha=>?_,by rw[Gk hl,hv]⟩;simp only[A7,DD,or_false]at ha;subst ha;exact hz
set_option maxHeartbeats 4000000
theorem gZ (a b m:Nat)(hab:b<=a)(ha:(AW a).length<1000000)(hb:(AW b).length=m+2):AK C0 176 [rD a,rD b] (.tup [rD (a/b),rD (a%b)]):=by
 have hlen:=IF b a hab;have cc:=Qc a b (by omega) (by omega);have e1:=Pz hab;obtain⟨y,hy⟩:=CM (l:=AW b) (i:=m+1) (by omega);have yl:y<RB:=EX b y (A8 hy);obtain⟨f,ef,f0,fl,hvl⟩:=uK hb hy;have wf:IntKind.i64.wrap ((1000000000:Int).tdiv ((y+1:Nat):Int))=(f:Int):=by
  rw[ef];exact N4 1000000000 (y+1) (BO (GX _ _) (by decide))
 have wy:IntKind.i64.wrap ((y:Int)+1)=((y+1:Nat):Int):=wI (by omega) (by unfold RB at yl;omega);have lf:AW f=[f]:=Ow (Nat.pos_iff_ne_zero.1 f0) fl;have cv:=Ts b f (by omega) (by rw[lf];exact(by decide:1<1000000));have cu:=Ts a f (by omega) (by rw[lf];exact(by decide:1<1000000));have hu1:=RX a f;have hu2:=IF a (a*f) (Nat.le_mul_of_pos_right _ f0);rw[lf]at hu1;change _<=_+1 at hu1;obtain⟨v,hv⟩:∃v,v=AW (b*f):=⟨_,rfl⟩
 have wv:Rd v:=by rw[hv];exact EX _
 have vv:AN v=b*f:=by rw[hv];exact Dz _
 rw[<-hv]at hvl;obtain⟨U0,hU0⟩:∃U0,U0=AW (a*f):=⟨_,rfl⟩
 have wU0:Rd U0:=by rw[hU0];exact EX _
 have vU0:AN U0=a*f:=by rw[hU0];exact Dz _
 rw[<-hU0]at hu1 hu2;obtain⟨v1,h1⟩:=CM (l:=v) (i:=m+1) (by omega);obtain⟨v2,h2⟩:=CM (l:=v) (i:=m) (by omega);have v10:v1≠0:=O7 (b*f) (by rw[<-hv];exact hvl) (by rw[<-hv];exact h1);have b0:0<b:=by
  refine Dt λh=>?_
  subst h;rw[GO]at hb;cases hb
 have vpos:0<AN v:=by rw[vv];exact GK b0 f0
 have hup:=IG a;have hbge:=Rg hb;unfold rD rL at cc cv cu;rw[lf,<-hv]at cv;rw[lf,<-hU0]at cu;refine Ai.walk w1 S5 rfl λF=>?_
 change AC C0 F none F _ ⟨DH 0 [.sl false 1 ((AW a).map Aa),.sl false 1 ((AW b).map Aa)],[],0⟩ _;generalize AW a=la at*;generalize AW b=lb at*;obtain⟨lq,hlq⟩:∃lq,la.length=lq+(m+2):=⟨la.length-(m+2),by omega⟩
 have hy':=Dg hy;have e3:((((lb.map Aa).length:Nat):Int)==1)=false:=by rw[Ap,hb];exact B6.2 (by omega)
 have elb:(((lb.map Aa).length:Nat):Int)=((m+2:Nat):Int):=by rw[Ap,hb]
 have wlb0:IntKind.i64.wrap (((m+2:Nat):Int)-1)=((m+1:Nat):Int):=by rw[wI (by omega) (by omega)];omega
 have wlb:IntKind.i64.wrap ((((lb.map Aa).length:Nat):Int)-1)=((m+1:Nat):Int):=by rw[elb];exact wlb0
 have ea:(((la.map Aa).length:Nat):Int)=(la.length:Int):=by rw[Ap]
 have ev:(((v.map Aa).length:Nat):Int)=((m+2:Nat):Int):=by rw[Ap,hvl]
 have eu:(((U0.map Aa).length:Nat):Int)=(U0.length:Int):=by rw[Ap]
 have wa1:IntKind.i64.wrap ((la.length:Int)+1)=((la.length+1:Nat):Int):=wI (by omega) (by omega);have wq0:IntKind.i64.wrap (((la.length+1:Nat):Int)-((m+2:Nat):Int))=((lq+1:Nat):Int):=by rw[wI (by omega) (by omega)];omega
 have wq1:IntKind.i64.wrap (((lq+1:Nat):Int)-1)=((lq+1:Nat):Int)-1:=wI (by omega) (by omega);have wraw:IntKind.i64.wrap (IntKind.i64.wrap (((la.length+1:Nat):Int)-((m+2:Nat):Int))-1)=((lq+1:Nat):Int)-1:=by rw[wq0,wq1]
 have r3:List.replicate (lq+1) (ofV (.int .i64 0))=(List.replicate (lq+1) 0).map Aa:=by rw[JP];rfl
 refine sR 0 ?_;refine AC.seq ?_;refine sR 100 ?_;refine cI cc ?_;rw[e1];refine AL ?_;refine Aj ?_;refine AC.seq ?_;refine sZ 300 ?_;refine AT e3 ?_;refine AL ?_;refine Aj ?_;refine sZ 600 ?_;refine AD (BV wlb elb wlb0 kN) ?_;refine Bo kT hy' ?_;refine AD (At wy wf kN) ?_;refine sR 700 ?_;refine Az.pure [rL lb,rL [f]] _ ⟨.refl _,.nn true 1 _,trivial⟩ cv AH ?_;refine BL ?_;refine sZ 800 ?_;refine AT ev ?_;clear cc e1 e3 elb wlb wlb0 hy' yl hy wy wf hb;refine Cp (α:=Nat×Nat) (λp=>⟨[(0,.sl false 1 (la.map Aa)),(8,.sl true 1 [Aa f]),(9,.sl false 1 (v.map Aa)),(10,i64 ((m+2:Nat):Int)),(11,.osl 904 p.1 1 0 U0.length)],[⟨904,p.1,3,1,U0.map Aa⟩],p.2⟩) (λ_=>True) ?_ ?_
 ·refine rI 900 ?_
  refine Az.pure [rL la,rL [f]] _ ⟨.refl _,.nn true 1 _,trivial⟩ cu AH ?_;refine BL ?_;exact⟨rfl,⟨_,_⟩,trivial,AI⟩
 rintro⟨g,n2⟩ -;dsimp only;refine Cp (α:=Nat×Nat×List Nat×Nat) (λp=>⟨[(0,.sl false 1 (la.map Aa)),(8,.sl true 1 [Aa f]),(9,.sl false 1 (v.map Aa)),(10,i64 ((m+2:Nat):Int)),(11,.osl p.1 p.2.1 1 0 (la.length+1))],[⟨p.1,p.2.1,3,1,p.2.2.1.map Aa⟩],p.2.2.2⟩) (λp=>p.2.2.1.length=la.length+1/\Rd p.2.2.1/\AN p.2.2.1=a*f) ?_ ?_
 ·refine AC.block ?_
  rcases Nat.eq_or_lt_of_le hu1 with hl|hl
  ·have eN:decide (((la.length+1:Nat):Int)<((la.length+1:Nat):Int))=false:=Af (by omega)
   rw[hl];refine Fr (α:=Nat) (λn=>⟨[(0,.sl false 1 (la.map Aa)),(8,.sl true 1 [Aa f]),(9,.sl false 1 (v.map Aa)),(10,i64 ((m+2:Nat):Int)),(11,.osl 904 g 1 0 (la.length+1))],[⟨904,g,3,1,U0.map Aa⟩],n⟩) (λ_=>0) (λ_ F'=>F'=F) n2 rfl AI ?_;rintro n3 F' rfl;refine AC.seq ?_;refine sZ 1000 ?_;refine AT (At ea wa1 eN) ?_;refine AL ?_;refine B7 ?_;exact⟨rfl,⟨904,g,U0,_⟩,⟨hl,wU0,vU0⟩,AI⟩
  ·have hl2:U0.length=la.length:=by omega
   have eN:decide (((la.length+1:Nat):Int)<((la.length+1:Nat):Int))=false:=Af (by omega);have eY:decide ((la.length:Int)<((la.length+1:Nat):Int))=true:=AX (by omega);have hap:List.take la.length (U0.map Aa)++[D.prim (Value.int IntKind.i64 0)]=(U0++[0]).map Aa:=by
    rw[B1 (by rw[Ap];omega),DE];rfl
   rw[hl2];refine Fr (α:=Bool×Nat×Nat) (λp=>match p with
    |(false,_,n)=>⟨[(0,.sl false 1 (la.map Aa)),(8,.sl true 1 [Aa f]),(9,.sl false 1 (v.map Aa)),(10,i64 ((m+2:Nat):Int)),(11,.osl 904 g 1 0 la.length)],[⟨904,g,3,1,U0.map Aa⟩],n⟩
    |(true,g1,n)=>⟨[(0,.sl false 1 (la.map Aa)),(8,.sl true 1 [Aa f]),(9,.sl false 1 (v.map Aa)),(10,i64 ((m+2:Nat):Int)),(11,.osl 1102 g1 1 0 (la.length+1))],[⟨1102,g1,3,1,(U0++[0]).map Aa⟩],n⟩) (λp=>cond p.1 0 1) (λ_ F'=>F'=F) (false,0,n2) rfl AI ?_
   rintro⟨_|_,g1,n3⟩ F' rfl
   ·dsimp only
    refine AC.seq ?_;refine sZ 1000 ?_;refine AT (At ea wa1 eY) ?_;refine AL ?_;refine Aj ?_;refine AC.block ?_;refine rI 1100 ?_;refine⟨(true,n3+8,n3+10),rfl,(by decide:(0:Nat)<1),?_⟩;dsimp only;rw[hap];exact AI
   ·dsimp only
    refine AC.seq ?_;refine sZ 1000 ?_;refine AT (At ea wa1 eN) ?_;refine AL ?_;refine B7 ?_;refine⟨rfl,⟨1102,g1,U0++[0],_⟩,⟨by rw[B3,hl2];rfl,Rd.append wU0 λa ha=>?_,by rw[Sp];exact vU0⟩,AI⟩;simp only[A7,DD,or_false]at ha;subst ha;decide
 rintro⟨K,gK,U1,n3⟩ ⟨lU1,wU1,vU1⟩;dsimp only at lU1 wU1 vU1⊢;refine vK [(8,.sl true 1 [Aa f]),(9,.sl false 1 (v.map Aa)),(10,i64 ((m+2:Nat):Int)),(11,.osl 1102 n3 1 0 (la.length+1))] ⟨.inl rfl,.inl rfl,.inl rfl,.inr ⟨_,_,_,rfl,rfl⟩,trivial⟩ ?_;clear cu hU0 vU0 wU0 hu1 hu2 cv;refine Cp (α:=Nat×Nat) (λp=>⟨[(8,.sl true 1 [Aa f]),(9,.sl false 1 (v.map Aa)),(10,i64 ((m+2:Nat):Int)),(11,.osl 1102 n3 1 0 (la.length+1)),(12,.osl 1204 p.1 1 0 (lq+1))],[⟨1204,p.1,3,1,(List.replicate (lq+1) 0).map Aa⟩,⟨1102,n3,3,1,U1.map Aa⟩],p.2⟩) (λ_=>True) ?_ ?_
 ·refine An w1 1200 (by kernel_rfl) ?_
  refine AT (At wq0 kN r3) ?_;exact⟨trivial,⟨_,_⟩,trivial,by rw[<-r3];exact AI⟩
 rintro⟨g,n2⟩ -;dsimp only;have I0:LE (a*f) v U1 (List.replicate (lq+1) 0) (la.length+1) (lq+1) (lq+1):=by
  refine dw f0 vU1 vv wU1 lU1 rfl (Ag _) ?_
  have:RB^(lq+1)*RB^(m+1)<=RB^(lq+1)*b:=CU _ hbge
  rw[<-Ft,show lq+1+(m+1)=la.length by omega]at this;omega
 clear hup hbge;refine AC.seq ?_;refine sZ 1300 ?_;refine AT wraw ?_;refine AC.block ?_;refine AC.loop (α:=Nat×List Nat×List Nat×Nat) (λp=>⟨[(8,.sl true 1 [Aa f]),(9,.sl false 1 (v.map Aa)),(10,i64 ((m+2:Nat):Int)),(11,.osl 1102 n3 1 0 (la.length+1)),(12,.osl 1204 g 1 0 (lq+1)),(13,i64 ((p.1:Int)-1))],[⟨1204,g,3,1,p.2.2.1.map Aa⟩,⟨1102,n3,3,1,p.2.1.map Aa⟩],p.2.2.2⟩) (λp=>p.1)
  (λp=>p.1<=lq+1/\LE (a*f) v p.2.1 p.2.2.1 (la.length+1) (lq+1) p.1) (lq+1,U1,List.replicate (lq+1) 0,_) ⟨Ag _,I0⟩ AI ?_
 rintro⟨k,u,q,n4⟩ F ⟨hk,I⟩;dsimp only at hk I⊢;clear I0 wq0 wq1 wraw r3 ea eu wU1 vU1 lU1;refine AC.seq ?_;refine sR 1400 ?_;refine AL ?_
 (refine Br (λh20=>?_) (λh20=>?_))<;>(try simp only[Bf,Bp]at h20)<;>(try simp only[h20])
 ·obtain⟨j,rfl⟩:∃j,k=j+1:=⟨k-1,by
   have:(k:Int)-1>=0:=by simpa using h20
   omega⟩
  have wj:((j+1:Nat):Int)-1=(j:Int):=by omega
  obtain⟨p0,p1,p2,SI,hz,hP⟩:=dq I hvl wv v1 v2 h2 h1 (Dt v10) (by omega);have lu:=I.lU;have cg:=lI u v j m p0 p1 p2 v2 v1 SI (by omega) (by omega);rw[wj];refine Aj ?_;refine AC.seq ?_;refine AC.block ?_;refine sR 1600 ?_;refine Az.own _ (vk cg rfl (u5 (DG.of (Sf lu)) (DG.of (.refl _)) (DG.of (.refl _))) AH fC) ?_;rintro d H' n5 ⟨⟨t,rfl,ht1,ht2,ht3⟩,rfl,rfl⟩;refine BL ?_;obtain⟨Pn,eP,lPn,wPn,vPn⟩:=dt SI;have hA:(u.take j).length=j:=by rw[BX];omega
  have p2l:=SI.p2l;have hdl:AN ((u.drop j).take (m+3))/AN v<RB:=Es SI.less;have hU:u.map Aa=blk (u.take j) Pn (p2:Int) (u.drop (j+(m+3))):=by rw[SQ,<-eP,<-ay]
  have J:=λP' h1 h2 h3=>dm (P':=P') I vpos (by omega) (by omega) hz hP h1 h2 h3 hdl
  obtain⟨zq,hzq⟩:=CM (l:=q) (i:=j) (by rw[I.lQ];omega);have hzq':=Dg hzq;have wi':IntKind.i64.wrap ((j:Int)-1)=(j:Int)-1:=wI (by omega) (by omega);have wjn:IntKind.i64.wrap ((j:Int)+((m+2:Nat):Int))=((j+(m+2):Nat):Int):=by rw[wI (by omega) (by omega)];omega
  have hVW:=F3 wv;rw[show v.length=m+2 from hvl]at hVW;rw[hU];clear hU cg hP hz SI eP h20 wj I h1 h2 v10;generalize(u.drop j).take (m+3)=P at*;generalize u.take j=A at*;generalize u.drop (j+(m+3))=Z at*;refine sR 1700 ?_;refine AC.seq ?_;refine sR 1800 ?_;refine AC.block ?_;refine AC.loop (α:=Nat×Nat×List Nat×Nat) (λp=>⟨[(8,.sl true 1 [Aa f]),(9,.sl false 1 (v.map Aa)),(10,i64 ((m+2:Nat):Int)),(11,.osl 1102 n3 1 0 (la.length+1)),(12,.osl 1204 g 1 0 (lq+1)),(13,i64 (j:Int)),(14,Aa t),(15,Aa p.2.1),(16,i64 p.1)],[⟨1204,g,3,1,q.map Aa⟩,⟨1102,n3,3,1,blk A p.2.2.1 (p2:Int) Z⟩],p.2.2.2⟩) (λp=>m+2-p.1)
   (λp=>p.1<=m+2/\p.2.1<=RB/\p.2.2.1.length=m+2/\Rd p.2.2.1/\AN p.2.2.1+t*AN (v.take p.1)=AN Pn+RB^p.1*p.2.1) (0,0,Pn,_) ⟨BR _,BR _,lPn,wPn,by simp[AN]⟩ AI ?_
  rintro⟨i,c,N,n6⟩ F ⟨hi,hc,hNl,hNw,hI⟩;dsimp only at hi hc hNl hNw hI⊢;refine AC.seq ?_;refine sR 1900 ?_;refine AL ?_
  (refine Br (λhlt=>?_) (λhlt=>?_))<;>(try simp only[Bf,Bp]at hlt)<;>(try simp only[hlt])
  ·have hi2:i<m+2:=by
    have:=Cz hlt
    omega
   obtain⟨x,hx⟩:=CM (l:=v) (i:=i) (by omega);have hx':=Dg hx;have hxl:x<RB:=wv x (A8 hx);obtain⟨z,hz⟩:=CM (l:=N) (i:=i) (by omega);have hzl:=hNw z (A8 hz);have hz':=X0 (A:=A) (Z:=Z) (top:=(p2:Int)) hz;rw[hA]at hz';obtain⟨p,x',lo,hi',d,c',e,k1,k2,k3,k4,k5,dl,cl,hI',hb⟩:=ku hz hx ht1 hxl hc hzl hI;have hset:(blk A N (p2:Int) Z).set (j+i) (Aa d)=blk A (N.set i d) (p2:Int) Z:=by
    have:=W5 (A:=A) (Z:=Z) (top:=(p2:Int)) (i:=i) (d:=d) (N:=N) (by omega)
    rwa [hA]at this
   have wij:IntKind.i64.wrap ((i:Int)+(j:Int))=((j+i:Nat):Int):=by rw[wI (by omega) (by omega)];omega
   have wi:IntKind.i64.wrap ((i:Int)+1)=((i+1:Nat):Int):=wI (by omega) (by omega);clear hI J hVW vPn ht2 ht3 hdl;refine Aj ?_;refine AC.seq ?_;refine AC.block ?_;refine sZ 2100 ?_;refine AD kN ?_;refine Bo kT hx' ?_;refine AD (At kN k1 k2) ?_;refine sZ 2200 ?_;refine AD (Ex wij kN BQ hz' k3 k5) ?_;refine sZ 2300 ?_;refine AT k4 ?_;rcases hb with⟨b1,b2,b3⟩|⟨b1,b2,b3⟩
   ·refine AC.seq ?_
    refine sZ 2400 ?_;refine AT b1 ?_;refine AL ?_;refine Aj ?_;subst b2 b3;refine An w1 2700 (by kernel_rfl) ?_;refine AD (BV wij kN BQ hz') ?_;rw[hset];refine An w1 2000 (by kernel_rfl) ?_;refine AT wi ?_;exact⟨(i+1,hi',N.set i d,_),⟨hi2,cl,by dsimp only;rw[Dc];exact hNl,hNw.set dl,hI'⟩,by dsimp only;omega,AI⟩
   ·refine AC.seq ?_
    refine sZ 2400 ?_;refine AT b1 ?_;refine AL ?_;refine sZ 2500 ?_;refine AT b2 ?_;refine An w1 2600 (by kernel_rfl) ?_;refine AT b3 ?_;refine An w1 2700 (by kernel_rfl) ?_;refine AD (BV wij kN BQ hz') ?_;rw[hset];refine An w1 2000 (by kernel_rfl) ?_;refine AT wi ?_;exact⟨(i+1,c',N.set i d,_),⟨hi2,cl,by dsimp only;rw[Dc];exact hNl,hNw.set dl,hI'⟩,by dsimp only;omega,AI⟩
  ·have hi2:i=m+2:=by
    have:=C5 hlt
    omega
   subst hi2;rw[B1 (by omega)]at hI;have hNlt:=F3 hNw;rw[hNl]at hNlt;have htop:=SR (A:=A) (Z:=Z) (top:=(p2:Int)) hNl;have hstop:=WE (A:=A) (Z:=Z) (top:=(p2:Int)) (t:=(p2:Int)-(c:Int)) hNl;have htop2:=SR (A:=A) (Z:=Z) (top:=(p2:Int)-(c:Int)) hNl;rw[hA]at htop hstop htop2;have p2l9:p2<1000000000:=p2l;have hc9:c<=1000000000:=hc;have wzc:IntKind.i64.wrap ((p2:Int)-(c:Int))=(p2:Int)-(c:Int):=wI (by omega) (by omega);refine B7 ?_;refine sZ 2800 ?_;refine AD (Ck wjn kN BQ htop wzc) ?_;rw[hstop];rcases BI p2 c with h|h
   ·have e29:decide ((p2:Int)-(c:Int)<0)=true:=AX (by omega)
    have ht9:t<1000000000:=ht1;have wt:IntKind.i64.wrap ((t:Int)-1)=(t:Int)-1:=wI (by omega) (by omega);refine AC.seq ?_;refine sZ 2900 ?_;refine AD (Ck wjn kN BQ htop2 e29) ?_;refine AL ?_;refine sZ 3000 ?_;refine AT wt ?_;refine sR 3100 ?_;refine AC.seq ?_;refine sR 3200 ?_;refine AC.block ?_;refine AC.loop (α:=Nat×Nat×List Nat×Nat) (λp=>⟨[(8,.sl true 1 [Aa f]),(9,.sl false 1 (v.map Aa)),(10,i64 ((m+2:Nat):Int)),(11,.osl 1102 n3 1 0 (la.length+1)),(12,.osl 1204 g 1 0 (lq+1)),(13,i64 (j:Int)),(14,i64 ((t:Int)-1)),(19,Aa p.2.1),(20,i64 p.1)],[⟨1204,g,3,1,q.map Aa⟩,⟨1102,n3,3,1,blk A p.2.2.1 ((p2:Int)-(c:Int)) Z⟩],p.2.2.2⟩) (λp=>m+2-p.1)
     (λp=>p.1<=m+2/\p.2.1<=1/\p.2.2.1.length=m+2/\Rd p.2.2.1/\AN p.2.2.1+RB^p.1*p.2.1=AN N+AN (v.take p.1)) (0,0,N,_) ⟨BR _,BR _,hNl,hNw,by simp[AN]⟩ AI ?_
    rintro⟨i,c2,N2,n7⟩ F ⟨hi,hc2,hNl2,hNw2,hI2⟩;dsimp only at hi hc2 hNl2 hNw2 hI2⊢;clear htop hstop;refine AC.seq ?_;refine sR 3300 ?_;refine AL ?_
    (refine Br (λhlt2=>?_) (λhlt2=>?_))<;>(try simp only[Bf,Bp]at hlt2)<;>(try simp only[hlt2])
    ·have hi2:i<m+2:=by
      have:=Cz hlt2
      omega
     obtain⟨x,hx⟩:=CM (l:=v) (i:=i) (by omega);have hx':=Dg hx;have hxl:x<RB:=wv x (A8 hx);obtain⟨z,hz⟩:=CM (l:=N2) (i:=i) (by omega);have hzl:=hNw2 z (A8 hz);have hz':=X0 (A:=A) (Z:=Z) (top:=(p2:Int)-(c:Int)) hz;rw[hA]at hz';obtain⟨p,s,d,c',k1,k2,k3,k4,dl,cl,hI'⟩:=ki hz hx hxl hc2 hzl hI2;have hset:(blk A N2 ((p2:Int)-(c:Int)) Z).set (j+i) (Aa d)=blk A (N2.set i d) ((p2:Int)-(c:Int)) Z:=by
      have:=W5 (A:=A) (Z:=Z) (top:=(p2:Int)-(c:Int)) (i:=i) (d:=d) (N:=N2) (by omega)
      rwa [hA]at this
     have wij:IntKind.i64.wrap ((i:Int)+(j:Int))=((j+i:Nat):Int):=by rw[wI (by omega) (by omega)];omega
     have wi:IntKind.i64.wrap ((i:Int)+1)=((i+1:Nat):Int):=wI (by omega) (by omega);clear hI2 hI J hVW vPn ht2 ht3 hdl;refine Aj ?_;refine AC.seq ?_;refine AC.block ?_;refine AC.seq ?_;refine B5 w1 3500 [0,1,2,3,4,5,6,7,8,9,10,11] [12,13] (by kernel_rfl) ?_;refine AD (BV wij kN BQ hz') ?_;refine Bo kT hx' ?_;refine AD (At kN k1 k2) ?_;refine sZ 3600 ?_;refine AD (Ck wij kN BQ hz' k3) ?_;rw[hset];refine An w1 3700 (by kernel_rfl) ?_;refine AT k4 ?_;refine An w1 3400 (by kernel_rfl) ?_;refine AT wi ?_;exact⟨(i+1,c',N2.set i d,_),⟨hi2,cl,by dsimp only;rw[Dc];exact hNl2,hNw2.set dl,hI'⟩,by dsimp only;omega,AI⟩
    ·have hi2:i=m+2:=by
      have:=C5 hlt2
      omega
     subst hi2;rw[B1 (by omega)]at hI2;have hNlt2:=F3 hNw2;rw[hNl2]at hNlt2;obtain⟨t0,g1,g2,g3⟩:=kt hI vPn h hNlt ht3 hI2 hc2 hNlt2 hVW;have htop3:=SR (A:=A) (Z:=Z) (top:=(p2:Int)-(c:Int)) hNl2;have hstop3:=WE (A:=A) (Z:=Z) (top:=(p2:Int)-(c:Int)) (t:=((0:Nat):Int)) hNl2;rw[hA]at htop3 hstop3;have wfin:IntKind.i64.wrap ((p2:Int)-(c:Int)+(c2:Int))=((0:Nat):Int):=by rw[g3];rfl
     have et:(t:Int)-1=((t-1:Nat):Int):=by omega
     obtain⟨f1,f2,f3⟩:=ZN (P:=P) (V:=AN v) hNl2 hNw2 (z:=0) (by decide) (by rw[EU,DM];exact g2.symm);have J1:=J _ f1 f2 f3;rw[g1]at J1;refine B7 ?_;refine An w1 3800 (by kernel_rfl) ?_;refine AD (Ck wjn kN BQ htop3 wfin) ?_;rw[hstop3,SQ,et];refine An w1 3900 (by kernel_rfl) ?_;refine AD (At kN BQ hzq') ?_;rw[Lz];refine An w1 1500 (by kernel_rfl) ?_;refine AT wi' ?_;exact⟨(j,A++((N2++[0])++Z),q.set j (t-1),_),⟨by dsimp only;omega,J1⟩,by dsimp only;omega,AI⟩
   ·have e29:decide ((p2:Int)-(c:Int)<0)=false:=Af (by omega)
    obtain⟨g1,g2⟩:=kr hI vPn h ht2;have ezc:(p2:Int)-(c:Int)=((p2-c:Nat):Int):=by omega
    obtain⟨f1,f2,f3⟩:=ZN hNl hNw (z:=p2-c) (by omega) g2.symm;have J1:=J _ f1 f2 f3;rw[g1]at J1;refine AC.seq ?_;refine sZ 2900 ?_;refine AD (Ck wjn kN BQ htop2 e29) ?_;refine AL ?_;refine Aj ?_;rw[ezc,SQ];refine An w1 3900 (by kernel_rfl) ?_;refine AD (At kN BQ hzq') ?_;rw[Lz];refine An w1 1500 (by kernel_rfl) ?_;refine AT wi' ?_;exact⟨(j,A++((N++[p2-c])++Z),q.set j t,_),⟨by dsimp only;omega,J1⟩,by dsimp only;omega,AI⟩
 ·have hk:k=0:=by
   have:¬((k:Int)-1>=0):=by simpa using h20
   omega
  subst hk;obtain⟨q1,q2⟩:=gX f0 I vv;have wu:=I.wU;have wqq:=I.wq;have lu:=I.lU;have lqq:=I.lQ;have hlt:AN u<RB^(m+2):=by
   have:=I.less
   rw[FL]at this;have h:=F3 wv;rw[show v.length=m+2 from hvl]at h;omega
  have hta:=du hlt (by omega);have hll:=Je hlt;rw[q2]at hll hta;have ed:a%b*f/f=a%b:=Nat.mul_div_cancel _ f0;have cd:=VR (a%b*f) f f0 fl (by omega);rw[ed]at cd;clear I;refine B7 ?_;refine AC.weak ⟨[(8,.sl true 1 [Aa f]),(10,i64 ((m+2:Nat):Int)),(11,.sl false 1 (u.map Aa)),(12,.sl false 1 (q.map Aa))],[],_⟩ ⟨.drop (.drop .nil),⟨.refl _,.refl _,Sf lu,Sf lqq,trivial⟩,Ag _⟩ ?_;have e5:List.take (m+2) (u.map Aa)=(u.take (m+2)).map Aa:=by
   rw[List.map_take]
  have eu2:(u.map Aa).length=la.length+1:=by rw[Ap];omega
  have ct:=K0 (u.take (m+2)) (wu.take _) (by rw[BX];omega);rw[hta]at ct;refine AC.seq ?_;refine B5 w1 4000 [0,1,2,3,4,5,6,7,8,9,10,11] [12] (by kernel_rfl) ?_;refine AD (BV kN Nat.sub_zero (@FL D) e5) ?_;refine BS.same _ ct AH ?_;have hf0:([Aa f]:List D)[0]?=some (Aa f):=rfl;refine AD kN ?_;refine Bo kT hf0 ?_;refine AD kN ?_;refine BS.same _ cd AH ?_;refine AD kN ?_;refine sR 4100 ?_;refine Az.same _ (K0 q wqq (by omega)) AH ?_;refine BL ?_;refine Ab ?_;exact AO (by rw[q1]) AA.out
theorem T7 (a b:Nat)(hb:b≠0)(ha:(AW a).length<1000000)(hbl:(AW b).length<1000000):AK C0 176 [rD a,rD b] (.tup [rD (a/b),rD (a%b)]):=by
 rcases BI a b with h|h
 ·exact gY a b h ha hbl
 ·rcases hl:(AW b).length with _|m
  ·have:=IG b
   rw[hl]at this;simp at this;exact AY this hb
  ·rcases m with _|m
   ·exact jn a b h ha hl hb
   ·exact gZ a b m h ha hl
abbrev rZ (z:Int):D:=.agg [Aq (decide (z<0)),rD z.natAbs]
def sg (neg:Bool)(n:Nat):Int:=if neg then -(n:Int)else n
theorem iz {n:Nat}:0<(AW n).length↔n≠0:=by
 constructor
 ·rintro h rfl
  rw[GO]at h;cases h
 ·intro h
  rw[II h,Bl];exact Nat.succ_pos _
theorem Vk (n:Nat):decide (((((AW n).map Aa).length:Nat):Int)>0)=decide (n≠0):=by
 have:=@iz n
 rw[Ap];exact Cr.2 ⟨λh=>this.1 (by omega),λh=>by have:=this.2 h;omega⟩
theorem tw (neg:Bool)(n:Nat):rZ (sg neg n)=.agg [Aq (neg&&decide (n≠0)),rD n]:=by
 unfold rZ sg;cases neg
 ·simp only[HS,if_false,LM,Dh]
  rw[Af (by omega)]
 ·simp only[if_true,If,LN,Dh]
  congr 3
  exact Cr.2 (by omega)
theorem QF (z:Int):sg (decide (z<0)) z.natAbs=z:=by
 unfold sg
 by_cases h:z<0
 ·rw[AX h,AF rfl];omega
 ·rw[Af h,AE (by decide)];omega
theorem TD (b:Bool)(n:Nat):Bv (.agg [Aq b,.sl false 1 ((AW n).map Aa)]):=.agg λd hd=>by
 simp only[A7,DD,or_false]at hd;rcases hd with rfl|rfl
 ·exact .prim _
 ·exact NS _
def Fo (z:Int):Prop:=(AW z.natAbs).length<1000000
instance  (b:Bool)(n:Nat):AA (.agg [Aq b,rD n]):=⟨TD b n⟩
theorem WG (a b:Nat)(fa:(AW a).length<1000000)(fb:(AW b).length<1000000):AK C0 175 [rD a,rD b] (rD (Nat.gcd a b)):=by
 refine Ai.walk w1 oX rfl λF=>?_
 change AC C0 F none F _ ⟨DH 0 [.sl false 1 ((AW a).map Aa),.sl false 1 ((AW b).map Aa)],[],0⟩ _;refine sR 0 ?_;refine AC.seq ?_;refine AC.block ?_;refine AC.loop (α:=Nat×Nat×Nat) (λp=>⟨[(0,.sl false 1 ((AW p.1).map Aa)),(1,.sl false 1 ((AW p.2.1).map Aa))],[],p.2.2⟩) (λp=>p.2.1)
  (λp=>Nat.gcd p.1 p.2.1=Nat.gcd a b/\(AW p.1).length<1000000/\(AW p.2.1).length<1000000) (a,b,_) ⟨rfl,fa,fb⟩ AI ?_
 rintro⟨x,y,n⟩ F ⟨h1,h2,h3⟩;dsimp only at h1 h2 h3⊢;have et:=Vk y;refine AC.seq ?_;refine sZ 100 ?_;refine AT et ?_
 by_cases hy:y=0
 ·rw[Af (by simpa using hy)]
  subst hy;refine AL ?_;refine B7 ?_;refine sR 400 ?_;refine Ab ?_;refine AO (d0:=rD x) ?_ AA.out;rw[<-h1,Nat.gcd_zero_right]
 ·rw[AX hy]
  have cd:=T7 x y hy h2 h3;refine AL ?_;refine Aj ?_;refine AC.block ?_;refine sR 200 ?_;refine cI cd ?_;refine rI 300 ?_;refine⟨(y,x%y,_),⟨?_,h3,?_⟩,B0 x (by omega),AI⟩
  ·dsimp only
   rw[<-h1,Mh x y,Nat.gcd_rec y x,Mh]
  ·exact DF (IF _ _ (Nat.mod_le x y)) h2
theorem Pc (neg:Bool)(l:List Nat)(h:Rd l)(hl:l.length<1000000000):AK C0 177 [Aq neg,rL l] (rZ (sg neg (AN l))):=by
 refine Ai.walk w1 YK rfl λF=>?_
 rw[tw];have ct:=K0 l h (by omega);generalize AN l=n at*;have et:=Vk n;unfold rD at ct⊢;unfold rL at ct⊢;refine sR 0 ?_;refine sR 100 ?_;refine cI ct ?_;refine AC.seq ?_;cases neg
 ·refine An w1 200 (by kernel_rfl) ?_
  refine AD et ?_;refine Ab ?_;exact AO (by simp) (TD _ n)
 ·refine An w1 200 (by kernel_rfl) ?_
  refine AD et ?_;refine Ab ?_;exact AO (by simp) (TD _ n)
theorem Kp (neg:Bool)(n:Nat)(h:(AW n).length<1000000000):AK C0 177 [Aq neg,rD n] (rZ (sg neg n)):=by
 have:=Pc neg (AW n) (EX n) h
 rwa [Dz]at this
theorem Xc (z:Int)(h:Fo z):AK C0 174 [rZ z] (rZ (-z)):=by
 have cs:=Kp (!decide (z<0)) z.natAbs (Fs h (by decide));have e:rZ (sg (!decide (z<0)) z.natAbs)=rZ (-z):=by
  congr 1
  unfold sg
  by_cases hz:z<0
  ·rw[AX hz];simp;omega
  ·rw[Af hz];simp;omega
 rw[e]at cs;refine Ai.walk w1 oW rfl λF=>?_
 refine sR 0 ?_;refine sR 100 ?_;refine cI cs ?_;refine Ab ?_;exact AO rfl AA.out
theorem NV (x y:Int)(hx:Fo x)(hy:Fo y):AK C0 125 [rZ x,rZ y] (rZ (x*y)):=by
 have cm:=Ts x.natAbs y.natAbs hx hy;have hl:(AW (x.natAbs*y.natAbs)).length<1000000000:=DF (RX _ _) (by unfold Fo at hx hy;omega);have cs:=λb=>Kp b (x.natAbs*y.natAbs) hl
 have e:sg (decide (x<0) != decide (y<0)) (x.natAbs*y.natAbs)=x*y:=by
  conv=>rhs;rw[<-QF x,<-QF y]
  generalize decide (x<0)=a;generalize decide (y<0)=b;unfold sg;cases a<;>cases b<;>simp[Int.neg_mul,Int.mul_neg]
 rw[<-e];refine Ai.walk w1 mh rfl λF=>?_
 refine sR 0 ?_;refine AC.seq ?_;refine B5 w1 100 [0,1,2,3,4,5,6,7,8,9] [10,11] (by kernel_rfl) ?_;refine AD kN ?_;refine BS.same _ cm AH ?_;refine AD kN ?_;refine Az.same _ (cs _) AH ?_;refine BL ?_;refine Ab ?_;exact AO rfl AA.out
theorem jK {a b:Nat}(h:b<=a):decide (Dm (a:Int) (b:Int)>=0)=true:=AX (by unfold Dm;split<;>(try split)<;>omega)
theorem jL {a b:Nat}(h:a<b):decide (Dm (a:Int) (b:Int)>=0)=false:=Af (by unfold Dm;split<;>(try split)<;>omega)
theorem r6 (x y:Int)(hx:Fo x)(hy:Fo y):AK C0 225 [rZ x,rZ y] (rZ (x+y)):=by
 refine Ai.walk w1 ns rfl λF=>?_
 unfold Fo at hx hy;cases hs:(decide (x<0)==decide (y<0))
 ·have hs':decide (x<0)≠decide (y<0):=by simpa using hs
  have hs2:(x<0/\¬y<0)\/(¬x<0/\y<0):=by
   by_cases h1:x<0<;>by_cases h2:y<0<;>simp_all
  have cc:=Qc x.natAbs y.natAbs (by omega) (by omega);refine sR 0 ?_;refine AC.seq ?_;refine sZ 100 ?_;refine AT hs ?_;refine AL ?_;refine Aj ?_;refine AC.seq ?_;refine sR 300 ?_;refine cI cc ?_;rcases BI x.natAbs y.natAbs with h|h
  ·have cb:=au y.natAbs x.natAbs (IB h) hy
   have cs:=Kp (decide (y<0)) (y.natAbs-x.natAbs) (DF (Un _ _) (by omega));have e:sg (decide (y<0)) (y.natAbs-x.natAbs)=x+y:=by
    unfold sg
    by_cases hy0:y<0
    ·rw[AX hy0,AF rfl];omega
    ·rw[Af hy0,AE (by decide)];omega
   rw[e]at cs;rw[jL h];refine AL ?_;refine Aj ?_;refine AC.seq ?_;refine B5 w1 500 [0,1,2,3,4,5,6] [7,8] (by kernel_rfl) ?_;refine AD kN ?_;refine BS.same _ cb AH ?_;refine AD kN ?_;refine Az.same _ cs AH ?_;refine BL ?_;refine Ab ?_;exact AO rfl AA.out
  ·have cb:=au x.natAbs y.natAbs h hx
   have cs:=Kp (decide (x<0)) (x.natAbs-y.natAbs) (DF (Un _ _) (by omega));have e:sg (decide (x<0)) (x.natAbs-y.natAbs)=x+y:=by
    unfold sg
    by_cases hx0:x<0
    ·rw[AX hx0,AF rfl];omega
    ·rw[Af hx0,AE (by decide)];omega
   rw[e]at cs;rw[jK h];refine AL ?_;refine AC.seq ?_;refine B5 w1 400 [0,1,2,3,4,5,6] [7,8] (by kernel_rfl) ?_;refine AD kN ?_;refine BS.same _ cb AH ?_;refine AD kN ?_;refine Az.same _ cs AH ?_;refine BL ?_;refine Ab ?_;exact AO rfl AA.out
 ·have hs':decide (x<0)=decide (y<0):=by simpa using hs
  have ca:=rf x.natAbs y.natAbs hx hy;have cs:=Kp (decide (x<0)) (x.natAbs+y.natAbs) (DF (Um _ _) (by omega));have e:sg (decide (x<0)) (x.natAbs+y.natAbs)=x+y:=by
   unfold sg
   by_cases hx0:x<0
   ·have hy0:y<0:=Cz (hs'.symm.trans (AX hx0))
    rw[AX hx0,AF rfl];omega
   ·have hy0:¬y<0:=C5 (hs'.symm.trans (Af hx0))
    rw[Af hx0,AE (by decide)];omega
  rw[e]at cs;refine sR 0 ?_;refine AC.seq ?_;refine sZ 100 ?_;refine AT hs ?_;refine AL ?_;refine AC.seq ?_;refine B5 w1 200 [0,1,2,3,4,5,6] [7,8] (by kernel_rfl) ?_;refine AD kN ?_;refine BS.same _ ca AH ?_;refine AD kN ?_;refine Az.same _ cs AH ?_;refine BL ?_;refine Ab ?_;exact AO rfl AA.out
theorem dA (k m:Nat):Ek (k+1) m []=Ek k (m/10) []++[UInt8.ofNat (48+m%10)]:=by
 rw[<-Uu (k+1) m [] (.inr (Nat.succ_pos k))];unfold Ek LH
 by_cases h:m/10=0
 ·rw[AF h,AF h];simp
 ·rw[AE h,AE h]
  rw[DS,B3,Ga,Nat.add_sub_add_right,Du]
theorem ST:∀(k hi d:Nat),hi≠0->d<10^k->Lib.decDigits (hi*10^k+d)=Lib.decDigits hi++Ek k d []
 | 0,hi,d,_,hd=>by
  have h0:d=0:=by simpa using hd
  subst h0;rw[LO,D6,DM];simp[Ek,LH]
 |k+1,hi,d,hh,hd=>by
  have e1:hi*10^(k+1)=10*(hi*10^k):=by rw[CG,<-Bs,BP]
  have h1:1<=10^k:=Nat.pow_pos (by decide);have h2:1<=hi*10^k:=GK (Dt hh) h1;have h3:¬hi*10^(k+1)+d<10:=by omega
  have h4:d/10<10^k:=by rw[CG]at hd;omega
  rw[dA,<-Du,<-ST k hi (d/10) hh h4];rw[Lib.decDigits,dif_neg h3,e1]
  congr 2
  ·omega
  ·congr 1;omega
theorem nL (hi d:Nat)(h:hi≠0)(hd:d<RB):Lib.decDigits (d+RB*hi)=Lib.decDigits hi++Ek 9 d []:=by
 have:=ST 9 hi d h (CP hd (by decide))
 rw[<-this]
 congr 1
 rw[BP,KQ]
theorem NW {l:List Nat}(h:Rd l):(Lib.decDigits (AN l)).length<=9*l.length+1:=by
 have h1:=F3 h;have e:RB^l.length=10^(9*l.length):=by rw[Nat.pow_mul]
 rw[e]at h1;refine La _ _ (Fs h1 ?_);exact Nat.pow_lt_pow_right (by decide) (Gy _)
theorem XG (neg:Bool)(n:Nat)(h:neg=true->n≠0):Lib.itoa (sg neg n)=if neg then 45::Lib.decDigits n else Lib.decDigits n:=by
 unfold Lib.itoa sg;cases neg
 ·simp only[HS,if_false]
  rw[AE (by omega)];rfl
 ·have:=h rfl
  simp only[if_true];rw[AF (by omega),LN];rfl
theorem ru (neg:Bool)(n:Nat)(h:neg=true->n≠0)(hl:(AW n).length<1000000):AK C0 126 [.agg [Aq neg,rD n]] (str (sb (Lib.itoa (sg neg n)))):=by
 refine Ai.walk w1 mi rfl λF=>?_
 rw[XG neg n h];change AC C0 F none F _ ⟨DH 0 [.agg [Aq neg,.sl false 1 ((AW n).map Aa)]],[],0⟩ _;have vn:=Dz n;have wn:=EX n;have tp:=λk a=>O7 n (k:=k) (a:=a)
 generalize AW n=l at*;subst vn;rcases hc:l.length with _|m
 ·have e0:l=[]:=FW hc
  subst e0;have hn:neg=false:=by cases neg;rfl;exact AY rfl (h rfl)
  subst hn;have e1:Lib.decDigits (AN [])=[48]:=by unfold Lib.decDigits AN;rw[dif_pos (by decide)];rfl
  rw[AE (by decide),e1];refine sR 0 ?_;refine AC.seq ?_;refine sR 100 ?_;refine AL ?_;refine sR 200 ?_;refine Ab ?_;exact AO rfl AA.out
 ·obtain⟨y,hy⟩:=CM (l:=l) (i:=m) (by omega)
  have yl:=wn y (A8 hy);have y0:=tp m y hc hy;have hy':=Dg hy;have el:(((l.map Aa).length:Nat):Int)=((m+1:Nat):Int):=by rw[Ap,hc]
  have et:(((m+1:Nat):Int)==0)=false:=B6.2 (by omega);have w0:IntKind.i64.wrap (((m+1:Nat):Int)-1)=(m:Int):=by rw[wI (by omega) (by omega)];omega
  have w2:IntKind.i64.wrap (((m+1:Nat):Int)-2)=(m:Int)-1:=by rw[wI (by omega) (by omega)];omega
  have cd:=Oz y 1 (by unfold RB at yl;omega);rw[Wx]at cd;have wr0:IntKind.i64.wrap ((((l.map Aa).length:Nat):Int)-1)=(m:Int):=by rw[el,w0]
  have ed:l.drop m=[y]:=by
   rw[EQ (by omega),Gv (by omega)];rw[BF (by omega)]at hy;rw[FX hy]
  refine sR 0 ?_;refine AC.seq ?_;refine sZ 100 ?_;refine AT (Ac el et) ?_;refine AL ?_;refine Aj ?_;refine sZ 300 ?_;refine AD (BV el w0 wr0 kN) ?_;refine Bo kT hy' ?_;refine AD kN ?_;refine Az.same _ cd AH ?_;refine BL ?_;have ev:AN (l.drop m)=y:=by rw[ed];simp[AN]
  refine AC.seq ?_;refine sZ 400 ?_;refine AT (Ac el w2) ?_;refine AC.block ?_;refine AC.loop (α:=Nat×Nat) (λp=>⟨[(1,.optr 0 0 2 0 0),(3,str (sb (Lib.decDigits (AN (l.drop p.1))))),(4,i64 ((p.1:Int)-1))],[⟨0,0,165,2,[.agg [Aq neg,.sl false 1 (l.map Aa)]]⟩],p.2⟩) (λp=>p.1)
   (λp=>p.1<=m/\AN (l.drop p.1)≠0) (m,_) ⟨Ag _,by dsimp only;rw[ev];exact y0⟩ (by dsimp only;rw[ev];exact AI) ?_
  rintro⟨k,n1⟩ F ⟨h1,h2⟩;dsimp only at h1 h2⊢;clear cd;refine AC.seq ?_;refine sR 500 ?_;refine AL ?_
  (refine Br (λh20=>?_) (λh20=>?_))<;>(try simp only[Bf,Bp]at h20)<;>(try simp only[h20])
  ·obtain⟨j,rfl⟩:∃j,k=j+1:=⟨k-1,by
    have:(k:Int)-1>=0:=by simpa using h20
    omega⟩
   have wj:((j+1:Nat):Int)-1=(j:Int):=by omega
   obtain⟨d,hd⟩:=CM (l:=l) (i:=j) (by omega);have hd':=Dg hd;have dl:=wn d (A8 hd);have c9:=Oz d 9 (by unfold RB at dl;omega);have eD:Lib.decDigits (AN (l.drop (j+1)))++Ek 9 d []=Lib.decDigits (AN (l.drop j)):=by rw[O4 hd,nL _ _ h2 dl]
   have hlen:=NW (l:=l.drop j) λa ha=>wn a (KP ha)
   rw[<-eD,B3,DY]at hlen;have h3:AN (l.drop j)≠0:=by
    rw[O4 hd]
    have:0<RB*AN (l.drop (j+1)):=GK (by decide) (Dt h2)
    omega
   have z1:=CN (Lib.decDigits (AN (l.drop (j+1))));have z2:=NR (Ek 9 d []);have wi:IntKind.i64.wrap ((j:Int)-1)=(j:Int)-1:=wI (by omega) (by omega);rw[wj];refine Aj ?_;refine AC.seq ?_;refine AC.block ?_;refine An w1 700 (by kernel_rfl) ?_;refine AD kN ?_;refine Bo kT hd' ?_;refine AD kN ?_;refine Az.same _ c9 AH ?_;refine BL ?_;rw[IS,eD];refine An w1 600 (by kernel_rfl) ?_;refine AT wi ?_;exact⟨(j,_),⟨by dsimp only;omega,h3⟩,by dsimp only;omega,AI⟩
  ·have hk:k=0:=by
    have:¬((k:Int)-1>=0):=by simpa using h20
    omega
   subst hk;rw[FL]at h2⊢;have hlen:=NW wn;have z1:=CN (Lib.decDigits (AN l));have z2:(⟨#[45]⟩:ByteArray).size=1:=rfl;refine B7 ?_;refine AC.seq ?_;refine AC.seq ?_;cases neg
   ·refine rI 800 ?_
    refine AL ?_;refine Aj ?_;rw[AE (by decide)];refine sR 1000 ?_;refine Ab ?_;exact AO rfl AA.out
   ·refine rI 800 ?_
    refine AL ?_;rw[AF rfl];refine sR 900 ?_;refine Ab ?_;refine AO ?_ AA.out;show str ((⟨([45]:List UInt8).toArray⟩:ByteArray)++⟨(Lib.decDigits (AN l)).toArray⟩)=_;rw[IS];rfl
theorem TU (z:Int)(h:Fo z):AK C0 126 [rZ z] (str (sb (Lib.itoa z))):=by
 have:=ru (decide (z<0)) z.natAbs (λh=>by have:=Cz h;omega) h
 rwa [QF]at this
theorem KJ {C:BC}{f:Nat}{ds ds':List D}{Φ:D->Prop}{H:Hp}{n:Nat}(Hf:Hp)(hc:Ai C f ds' Φ)(hH:CV H Hf H Hf)(hv:EW H Hf ds ds')
  (hp:Ah ds'):CW C f ds H n (λd' H' n'=>Φ d'/\H'=Hf/\n'=n+1):=by
 refine⟨hc.1,λF ρ w vs m hfr hg hvs hr=>?_⟩;obtain⟨m',hO,hN⟩:=hH.mem m;obtain⟨l1,l2⟩:=hv.spec;refine(hc.2 (AM F.X ρ Hf) w vs m.g (BO m.gn m.size) (λb hb=>m'.own_lt hb) (by omega) λi x hx=>?_).mono ?_
 ·have hi:i<ds'.length:=(List.getElem?_eq_some_iff.1 hx).1
  have hd0:ds[i]?=some ds[i]:=BF (by omega);exact hp.out x (A8 hx) _ _ _ _ _ ((l2 i _ x hd0 hx).rep m hO hN (hr i _ hd0))
 ·rintro e w' ⟨v,d',rfl,hb,hd',rep⟩
  have hb2:∀(b:Nat) (cs:Array Value) (T:Nat) (fz:Nat×Nat),w.heap[b]?=some (.cells cs T fz)->∃(cs':Array Value) (fz':Nat×Nat),w'.heap[b]?=some (.cells cs' T fz')/\cs'.size=cs.size:=λb cs T fz hh=>⟨cs,_,by
   rw[hb.block b (Array.getElem?_eq_some_iff.1 hh).1];exact hh,rfl⟩
  have x:BN ρ (AM F.X ρ H) w ρ (AM F.X ρ Hf) w':=⟨hb.size,λ_ _ _ h=>h,λb hb' hO2=>⟨λh=>hO2 (hO b h),hb.block b hb'⟩,hb2⟩
  have x':BN ρ (AM F.X ρ Hf) w ρ (AM F.X ρ Hf) w':=⟨hb.size,λ_ _ _ h=>h,λb hb' hO2=>⟨hO2,hb.block b hb'⟩,hb2⟩
  refine⟨v,_,Hf,n+1,ρ,rfl,⟨hd',rfl,rfl⟩,m'.same x' hb.os hb.tape hb.output hb.block,x,λk g hg'=>hfr k g (by omega),λe he=>?_,rep.mono ⟨Ag _,λ_ _ _ h=>(by cases h),λb _ hO2=>⟨hO2,rfl⟩,λb cs T fz h=>⟨cs,_,h,rfl⟩⟩⟩;obtain⟨e',h1,h2,h3,_⟩:=hH.names e he
  have:=hg e' h1
  omega
theorem eA {l:List UInt8}{i:Nat}{c:UInt8}(hc:l[i]?=some c)(hi:i<=BD l):(((c.toNat:Nat):Int)==47)=decide (i=BD l):=by
 have e1:(((c.toNat:Nat):Int)==47)=(c==47):=by
  rw[GW,Dw,Dw,<-UInt8.toNat_inj];exact⟨λh=>(show c.toNat=47 by omega),λh=>by rw[h];rfl⟩
 rw[e1];unfold BD at hi⊢;clear e1
 induction l generalizing i with
 |nil=>cases hc
 |cons a l ih=>
  rw[Ml]at hi⊢;cases i with
  |zero=>
   cases hc
   by_cases h:c=47
   ·subst h;rfl
   ·have h1:(c != 47)=true:=by simpa using h
    have h2:(c==47)=false:=by simpa using h
    rw[AF h1,h2,Bl,Af (by omega)]
  |succ i=>
   by_cases h:a=47
   ·subst h
    exact AY hi (by simp)
   ·have h1:(a != 47)=true:=by simpa using h
    rw[AF h1,Bl]at hi⊢;rw[ih hc (by omega)];exact Cr.2 (by omega)
theorem P5 (l:List UInt8)(h:l.all Ba=true)(hl:l.length<=18):AK C0 170 [str (sb l)] (i64 (dv l:Int)):=by
 refine Ai.walk w1 oS rfl λF=>?_
 have hsz:=CN l;refine sR 0 ?_;refine sR 100 ?_;refine AC.seq ?_;refine sR 200 ?_;refine AC.block ?_;refine AC.loop (α:=Nat×Nat) (λp=>⟨[(0,str (sb l)),(3,i64 (dv (l.take p.1):Int)),(4,i64 (p.1:Int))],[],p.2⟩) (λp=>l.length-p.1) (λp=>p.1<=l.length) (0,_) (BR _) AI ?_;rintro⟨i,n⟩ F hi;dsimp only at hi⊢;refine AC.seq ?_;refine sZ 300 ?_;refine AT hsz ?_;refine AL ?_
 (refine Br (λhlt=>?_) (λhlt=>?_))<;>(try simp only[Bf,Bp]at hlt)<;>(try simp only[hlt])
 ·have hi2:i<l.length:=by
   have:=Cz hlt
   omega
  obtain⟨c,hc⟩:∃c,l[i]?=some c:=⟨l[i],BF hi2⟩
  have hcd:Ba c=true:=CI.1 h c (A8 hc);obtain⟨c1,c2⟩:=Ke hcd;have hg:(sb l).data.toList.getD i 0=c:=by
   show(l.toArray.toList).getD i 0=c;simp[hc]
  have hdl:dv (l.take i)<10^17:=by
   have:=F8 (l.take i) (CI.2 λa ha=>CI.1 h a (HR ha))
   rw[BX,Ev hi]at this;exact CP this (FJ (by decide) (by omega))
  have hnx:dv (l.take (i+1))=dv (l.take i)*10+(c.toNat-48):=by
   rw[Dv,hc];show dv (l.take i++[c])=_;rw[NF];simp[dv,Gd]
  have k1:IntKind.i64.wrap (10*(dv (l.take i):Int))=((10*dv (l.take i):Nat):Int):=by rw[wI (by omega) (by omega)];omega
  have k2:IntKind.i64.wrap ((c.toNat:Nat):Int)=((c.toNat:Nat):Int):=wI (by omega) (by omega);have k3:IntKind.i64.wrap (((10*dv (l.take i):Nat):Int)+((c.toNat:Nat):Int))=((10*dv (l.take i)+c.toNat:Nat):Int):=by rw[wI (by omega) (by omega)];omega
  have k4:IntKind.i64.wrap (((10*dv (l.take i)+c.toNat:Nat):Int)-48)=((dv (l.take (i+1)):Nat):Int):=by rw[hnx,wI (by omega) (by omega)];omega
  have wi:IntKind.i64.wrap ((i:Int)+1)=((i+1:Nat):Int):=wI (by omega) (by omega);refine Aj ?_;refine AC.seq ?_;refine AC.block ?_;refine An w1 500 (by kernel_rfl) ?_;refine AT (Ex kN hg k1 k2 k3 k4) ?_;refine An w1 400 (by kernel_rfl) ?_;refine AT wi ?_;exact⟨(i+1,_),hi2,by dsimp only;omega,AI⟩
 ·have hi2:i=l.length:=by
   have:=C5 hlt
   omega
  subst hi2;rw[B1 (Ag _)];refine B7 ?_;refine sR 600 ?_;refine Ab ?_;exact AO rfl AA.out
theorem NT (l:List UInt8)(hl:l.length<=1000000000):AK C0 169 [str (sb l)] (i64 (BD l:Int)):=by
 refine Ai.walk w1 oR rfl λF=>?_
 have hsz:=CN l;refine sR 0 ?_;refine AC.seq ?_;refine sR 100 ?_;refine AC.block ?_;refine AC.loop (α:=Nat×Nat) (λp=>⟨[(0,str (sb l)),(3,i64 (p.1:Int))],[],p.2⟩) (λp=>l.length-p.1) (λp=>p.1<=BD l) (0,_) (BR _) AI ?_;rintro⟨i,n⟩ F hi;dsimp only at hi⊢;have hsl:=Ik l;refine AC.seq ?_;refine sZ 200 ?_;refine AT hsz ?_;refine AL ?_
 (refine Br (λhlt=>?_) (λhlt=>?_))<;>(try simp only[Bf,Bp]at hlt)<;>(try simp only[hlt])
 ·have hi2:i<l.length:=by
   have:=Cz hlt
   omega
  obtain⟨c,hc⟩:∃c,l[i]?=some c:=⟨l[i],BF hi2⟩
  have hg:(sb l).data.toList.getD i 0=c:=by
   show(l.toArray.toList).getD i 0=c;simp[hc]
  have wi:IntKind.i64.wrap ((i:Int)+1)=((i+1:Nat):Int):=wI (by omega) (by omega);have ht:(((c.toNat:Nat):Int)==47)=decide (i=BD l):=eA hc hi;refine Aj ?_;refine AC.seq ?_;refine AC.block ?_;refine sZ 400 ?_;refine AT (At kN hg ht) ?_
  by_cases he:i=BD l
  ·rw[AX he]
   refine AL ?_;refine sR 500 ?_;refine Ab ?_;exact AO (by rw[he]) AA.out
  ·rw[Af he]
   refine AL ?_;refine Aj ?_;refine An w1 300 (by kernel_rfl) ?_;refine AT wi ?_;exact⟨(i+1,_),by dsimp only;omega,by dsimp only;omega,AI⟩
 ·have hi2:i=l.length:=by
   have:=C5 hlt
   omega
  refine B7 ?_;refine sZ 600 ?_;refine AT hsz ?_;refine Ab ?_;exact AO (by congr 3;omega) AA.out
theorem SL {H Hf:Hp}{K g T:Nat}{l:List Nat}{N:Nat}(hl:l.length=N)(he:Hp.get H K=some ⟨K,g,T,1,l.map Aa⟩:=by exact rfl)(hn:Hp.get Hf K=none:=by exact rfl):Fz H Hf (.osl K g 1 0 N) (.sl false 1 (l.map Aa)):=by
 subst hl;have key:∀(j:Nat) (d d':D),(l.map Aa)[0+j]?=some d->(l.map Aa)[j]?=some d'->d=d':=λj d d' h1 h2=>by
  rw[BQ]at h1;rw[h1]at h2;exact FX h2
 refine .osl (e:=⟨K,g,T,1,l.map Aa⟩) he hn rfl rfl (by simp) (by simp) (λj d d' h1 h2=>by rw[key j d d' h1 h2]) λj d d' q c c' h1 h2 h3 h4=>?_
 rw[key j d d' h1 h2]at h3;rw[h3]at h4;cases h4;exact Fz.refl _
theorem PV (c:UInt8)(l:List UInt8):(((c.toNat:Nat):Int)==45)=DA (c::l):=by
 show _=(c==45);rw[GW,Dw,Dw,<-UInt8.toNat_inj];exact⟨λh=>(show c.toNat=45 by omega),λh=>by rw[h];rfl⟩
abbrev MM:Ar:=⟨0,0,165,2,[.agg [Aq false,CE]]⟩
theorem nO {x:List UInt8}(h:9<x.length):dv x=dv (x.take (x.length-9))*RB+dv (x.drop (x.length-9)):=by
 conv=>lhs;rw[<-Er (x.length-9) x,NF,DY,show x.length-(x.length-9)=9 by omega]
theorem qh (A B t n v:Nat):(A*B+t)*B^n+v=A*B^(n+1)+(v+B^n*t):=by
 rw[Bq,Bs,CG,BP B,BP t];omega
theorem VJ {x x0:List UInt8}{w:List Nat}(h9:9<x.length)(g1:x.all Ba=true)(g2:x.length+w.length*9=x0.length)(g3:Rd w)(g4:dv x0=dv x*RB^w.length+AN w):
  (x.take (x.length-9)).all Ba=true/\(x.take (x.length-9)).length+(w++[dv (x.drop (x.length-9))]).length*9=x0.length/\Rd (w++[dv (x.drop (x.length-9))]) /\
  dv x0=dv (x.take (x.length-9))*RB^(w++[dv (x.drop (x.length-9))]).length+AN (w++[dv (x.drop (x.length-9))]):=by
 refine⟨CI.2 λa ha=>CI.1 g1 a (HR ha),?_,Rd.append g3 λa ha=>?_,?_⟩
 ·rw[BX,B3,Ga];omega
 ·simp only[A7,DD,or_false]at ha
  subst ha
  have:=F8 (x.drop (x.length-9)) (CI.2 λa ha=>CI.1 g1 a (KP ha))
  rwa [DY,show x.length-(x.length-9)=9 by omega]at this
 ·rw[g4,nO h9,Gk rfl,B3,Ga]
  exact qh _ _ _ _ _
theorem gm {x x0:List UInt8}{w:List Nat}(h9:x.length<=9)(g1:x.all Ba=true)(g3:Rd w)(g4:dv x0=dv x*RB^w.length+AN w):Rd (w++[dv x])/\AN (w++[dv x])=dv x0:=by
 refine⟨Rd.append g3 λa ha=>?_,?_⟩
 ·simp only[A7,DD,or_false]at ha
  subst ha;exact CP (F8 x g1) (FJ (by decide) h9)
 ·rw[g4,Gk rfl,BP,KQ]
theorem W2 {w:List Nat}{a:Nat}:List.take w.length (w.map Aa)++[i64 (a:Int)]=(w++[a]).map Aa:=by
 rw[B1 (by rw[Ap];exact Ag _),DE];rfl
theorem XX (l:List UInt8)(hd:(Bk l).all Ba=true)(hl:l.length<=1000000):AK C0 173 [str (sb l)] (rZ (rv l)):=by
 have er:rv l=sg (DA l) (dv (Bk l)):=rfl;rw[er];refine Ai.walk w1 oV rfl λF=>?_
 have hsz:=CN l;have hdl:(Bk l).length<=l.length:=by
  unfold Bk;split
  ·rw[DY];omega
  ·exact Ag _
 refine sR 0 ?_;refine Cp (α:=Nat) (λn=>⟨[(0,str (sb l)),(2,.optr 0 0 2 0 0),(3,Aq (DA l))],[MM],n⟩) (λ_=>True) ?_ ?_
 ·cases l with
  |nil=>
   have e0:(sb []).size=0:=rfl;have e1:decide (((0:Nat):Int)>0)=false:=rfl;refine An w1 100 (by kernel_rfl) ?_;refine AD (Ac e0 e1) ?_;refine AD (Ac kF e1) ?_;exact⟨trivial,_,trivial,AI⟩
  |cons c l=>
   have hpos:(sb (c::l)).size=l.length+1:=hsz;have e0:decide (((sb (c::l)).size:Int)>0)=true:=AX (by omega);have e1:((((c::l).getD (Int.toNat 0) 0).toNat:Int)==45)=DA (c::l):=PV c l;refine An w1 100 (by kernel_rfl) ?_;refine AD e0 ?_;refine AD (At kT e0 e1) ?_;exact⟨trivial,_,trivial,AI⟩
 rintro n0 -;refine Cp (α:=Nat) (λn=>⟨[(0,str (sb (Bk l))),(2,.optr 0 0 2 0 0),(3,Aq (DA l))],[MM],n⟩) (λ_=>True) ?_ ?_
 ·refine sR 200 ?_
  cases hb:DA l
  ·have ed:Bk l=l:=by unfold Bk;rw[hb];rfl
   rw[ed];refine AL ?_;refine Aj ?_;exact⟨rfl,_,trivial,AI⟩
  ·have ed:Bk l=l.drop 1:=by unfold Bk;rw[hb];rfl
   have hl0:1<=l.length:=by
    cases l with
    |nil=>cases hb
    |cons c l=>rw[Bl];omega
   have ee:(sb l).extract (Int.toNat 1) l.length=sb (Bk l):=by
    rw[EH,B1 (Ag _),ed];rfl
   refine AL ?_;refine An w1 300 (by kernel_rfl) ?_;refine AD (Ac hsz kN) ?_;rw[ee];exact⟨trivial,_,trivial,AI⟩
 rintro n1 -;generalize DA l=neg at*;generalize Bk l=x0 at*;clear er hsz;have hx0:x0.length<=1000000:=BO hdl hl;clear hdl hl l;refine sR 400 ?_;refine AC.seq ?_;refine AC.block ?_;refine AC.loop (α:=Bool×List UInt8×List Nat×Nat×Nat) (λp=>match p with
  |(false,x,_,_,n)=>⟨[(0,str (sb x)),(2,.optr 0 0 2 0 0),(3,Aq neg),(4,CE)],[MM],n⟩
  |(true,x,w,g,n)=>⟨[(0,str (sb x)),(2,.optr 0 0 2 0 0),(3,Aq neg),(4,.osl 608 g 1 0 w.length)],[⟨608,g,3,1,w.map Aa⟩,MM],n⟩) (λp=>p.2.1.length)
  (λp=>p.2.1.all Ba=true/\p.2.1.length+p.2.2.1.length*9=x0.length/\Rd p.2.2.1/\dv x0=dv p.2.1*RB^p.2.2.1.length+AN p.2.2.1/\(p.1=false->p.2.2.1=[]))
  (false,x0,[],0,_) ⟨hd,rfl,(λa ha=>by cases ha),by simp[AN],λ_=>rfl⟩ AI ?_
 rintro⟨t,x,w,g,n2⟩ F ⟨g1,g2,g3,g4,g5⟩;dsimp only at g1 g2 g3 g4 g5;have hsz:=CN x
 by_cases h9:9<x.length
 ·have ht:decide ((x.length:Int)>9)=true:=AX (by omega)
  have cv:=P5 (x.drop (x.length-9)) (CI.2 λa ha=>CI.1 g1 a (KP ha)) (by rw[DY];omega);have wk:IntKind.i64.wrap ((x.length:Int)-9)=((x.length-9:Nat):Int):=by rw[wI (by omega) (by omega)];omega
  have wr:IntKind.i64.wrap (((sb x).size:Int)-9)=((x.length-9:Nat):Int):=by rw[hsz,wk]
  have e1:(sb x).extract (x.length-9) x.length=sb (x.drop (x.length-9)):=by rw[EH,B1 (Ag _)]
  have e2:(sb x).extract 0 (x.length-9)=sb (x.take (x.length-9)):=by rw[EH,FL]
  cases t
  ·dsimp only
   obtain rfl:=g5 rfl;refine AC.seq ?_;refine sZ 500 ?_;refine AT (Ac hsz ht) ?_;refine AL ?_;refine Aj ?_;refine AC.block ?_;refine sZ 600 ?_;refine AD (Ck hsz wk wr kN e1) ?_;refine Az.same _ cv AH ?_;refine BL ?_;have J:=VJ h9 g1 g2 g3 g4;rw[FK]at J;refine An w1 700 (by kernel_rfl) ?_;refine AD (BV hsz wk wr kN) ?_;refine AD e2 ?_;exact⟨(true,x.take (x.length-9),[dv (x.drop (x.length-9))],n2+11,_),⟨J.1,J.2.1,J.2.2.1,J.2.2.2,λh=>by cases h⟩,by dsimp only;rw[BX];omega,AI⟩
  ·dsimp only
   clear g5;have J:=VJ h9 g1 g2 g3 g4;have ew:(w.map Aa).length=w.length:=Ap _;have el:w.length+1=(w++[dv (x.drop (x.length-9))]).length:=by rw[B3];rfl
   refine AC.seq ?_;refine sZ 500 ?_;refine AT (Ac hsz ht) ?_;refine AL ?_;refine Aj ?_;refine AC.block ?_;refine sZ 600 ?_;refine AD (Ck hsz wk wr kN e1) ?_;refine Az.same _ cv AH ?_;refine BL ?_;rw[W2,el];refine An w1 700 (by kernel_rfl) ?_;refine AD (BV hsz wk wr kN) ?_;refine AD e2 ?_;exact⟨(true,x.take (x.length-9),w++[dv (x.drop (x.length-9))],n2+11,_),⟨J.1,J.2.1,J.2.2.1,J.2.2.2,λh=>by cases h⟩,by dsimp only;rw[BX];omega,AI⟩
 ·have ht:decide ((x.length:Int)>9)=false:=Af (by omega)
  have cv:=P5 x g1 (by omega);obtain⟨r1,r2⟩:=gm (by omega) g1 g3 g4;have cs:=Pc neg (w++[dv x]) r1 (by rw[B3,Ga];omega);rw[r2]at cs;cases t
  ·dsimp only
   obtain rfl:=g5 rfl;refine AC.seq ?_;refine sZ 500 ?_;refine AT (Ac hsz ht) ?_;refine AL ?_;refine B7 ?_;refine sR 800 ?_;refine Az.same _ cv AH ?_;refine BL ?_;refine Az.own _ (KJ [MM] cs (.drop (.keep .nil)) ⟨.refl _,SL rfl,trivial⟩ AH) ?_;rintro d H' n' ⟨rfl,rfl,rfl⟩;refine BL ?_;refine Ab ?_;exact AO rfl AA.out
  ·dsimp only
   clear g5;have ew:(w.map Aa).length=w.length:=Ap _;have el:w.length+1=(w++[dv x]).length:=by rw[B3];rfl
   refine AC.seq ?_;refine sZ 500 ?_;refine AT (Ac hsz ht) ?_;refine AL ?_;refine B7 ?_;refine sR 800 ?_;refine Az.same _ cv AH ?_;refine BL ?_;rw[W2,el];refine Az.own _ (KJ [MM] cs (.drop (.keep .nil)) ⟨.refl _,SL rfl,trivial⟩ AH) ?_;rintro d H' n' ⟨rfl,rfl,rfl⟩;refine BL ?_;refine Ab ?_;exact AO rfl AA.out
def UN (o:Option D):Bool:=match o with
 |some (.agg [.prim (.bool false),.sl false 1 [.prim (.int .i64 1)]])=>true
 |_=>false
theorem ip {o:Option D}(h:UN o=true):o=some (rZ 1):=by
 have h1:AW 1=[1]:=Ow (by decide) (by decide);unfold UN at h;split at h
 ·show _=some (D.agg [Aq (decide ((1:Int)<0)),rL (AW 1)])
  rw[h1];rfl
 ·cases h
theorem eI:UN ((GL X1 1000 60).1 127 [i64 1])=true:=by kernel_rfl
theorem gz:AK C0 127 [i64 1] (rZ 1):=CD DO 1000 60 (ip eI)
def OK (l:List UInt8):Int:=rv (Bw l)
def OG (l:List UInt8):Int:=if Cj l then rv (BT l)else 1
instance  (x y:Int):AA (.tup [rZ x,rZ y]):=⟨.tup λd hd=>by
 simp only[A7,DD,or_false]at hd;rcases hd with rfl|rfl
 ·exact AA.out
 ·exact AA.out⟩
theorem Ln (l:List UInt8)(hn:(Bk (Bw l)).all Ba=true)(hd:(Bk (BT l)).all Ba=true)(hl:l.length<=1000000):AK C0 123 [str (sb l)] (.tup [rZ (OK l),rZ (OG l)]):=by
 refine Ai.walk w1 me rfl λF=>?_
 have hsz:=CN l;have cs:=NT l (by omega);have hsl:=Ik l;have c1:=XX (Bw l) hn (by unfold Bw;rw[BX];omega);have c2:=XX (BT l) hd (by unfold BT;rw[DY];omega);have cw:=gz;unfold OK OG;refine sR 0 ?_;refine sR 100 ?_;refine sR 200 ?_;refine cI cs ?_;cases hh:Cj l
 ·have he:BD l=l.length:=by
   unfold Cj at hh
   have:=C5 hh
   omega
  have e0:(((BD l:Nat):Int)==(l.length:Int))=true:=Dw.2 (by omega);have en:Bw l=l:=by unfold Bw;rw[he,B1 (Ag _)]
  rw[en]at c1⊢;refine AC.seq ?_;refine sZ 300 ?_;refine AT (Ac hsz e0) ?_;refine AL ?_;refine sR 400 ?_;refine cI c1 ?_;refine Az.same _ cw AH ?_;refine BL ?_;refine Ab ?_;exact AO rfl AA.out
 ·have he:BD l<l.length:=Cz hh
  have e0:(((BD l:Nat):Int)==(l.length:Int))=false:=B6.2 (by omega);have x1:(sb l).extract 0 (BD l)=sb (Bw l):=by rw[EH,FL];rfl
  have x2:(sb l).extract (BD l+1) l.length=sb (BT l):=by rw[EH,B1 (Ag _)];rfl
  have wk:IntKind.i64.wrap (((BD l:Nat):Int)+1)=((BD l+1:Nat):Int):=wI (by omega) (by omega);refine AC.seq ?_;refine sZ 300 ?_;refine AT (Ac hsz e0) ?_;refine AL ?_;refine Aj ?_;refine AC.seq ?_;refine B5 w1 500 [0,1,2,3,4,5,6,7] [8,9,10] (by kernel_rfl) ?_;refine AD (Ck hsz wk kN x1 x2) ?_;refine BS.same _ c1 AH ?_;refine AD (Ck hsz wk kN x1 x2) ?_;refine Az.same _ c2 AH ?_;refine BL ?_;refine Ab ?_;exact AO rfl AA.out
def Al (r:Rat):List UInt8:=if r.den=1 then Lib.itoa r.num else Lib.itoa r.num++47::Lib.decDigits r.den
def qZ (x y:Int):Rat:=mkRat (if y<0 then -x else x) y.natAbs
theorem SA {x:Int}{d:Nat}(hd:d≠0):(mkRat x d).num=sg (decide (x<0)) (x.natAbs/Nat.gcd x.natAbs d)/\(mkRat x d).den=d/Nat.gcd x.natAbs d:=by
 rw[mkRat,dif_neg hd,Rat.normalize_eq];refine⟨?_,rfl⟩;dsimp only;have hg:0<Nat.gcd x.natAbs d:=OX _ (Dt hd);obtain⟨p,hp⟩:=Nat.gcd_dvd_left x.natAbs d;have e1:x.natAbs/Nat.gcd x.natAbs d=p:=by
  refine Nat.div_eq_of_eq_mul_right hg hp
 have e2:x=(Nat.gcd x.natAbs d:Int)*sg (decide (x<0)) p:=by
  have h0:(x.natAbs:Int)=(Nat.gcd x.natAbs d:Int)*(p:Int):=by rw[<-ER,<-hp]
  unfold sg
  by_cases hx:x<0
  ·rw[AX hx,AF rfl,Int.mul_neg,<-h0];omega
  ·rw[Af hx,AE (by decide),<-h0];omega
 rw[e1]
 conv=>lhs;arg 1;rw[e2]
 rw[Int.mul_ediv_cancel_left _ (by omega)]
theorem WP (q:Nat):((((((AW q).map Aa).length:Nat):Int)==1)=true/\∃a,(AW q)[0]?=some a/\(((a:Nat):Int)==1)=decide (q=1))\/((((((AW q).map Aa).length:Nat):Int)==1)=false/\q≠1):=by
 rw[Ap]
 by_cases h:(AW q).length=1
 ·refine .inl ⟨Dw.2 (by omega),?_⟩
  obtain⟨a,ha⟩:=CM (l:=AW q) (i:=0) (by omega);refine⟨a,ha,?_⟩;have e:AW q=[a]:=by
   obtain⟨b,hb⟩:=List.length_eq_one_iff.1 h;rw[hb]at ha⊢;cases ha;rfl
  have e2:q=a:=by rw[<-Dz q,e];simp[AN]
  rw[e2];rw[GW,Dw,decide_eq_true_iff];omega
 ·refine .inr ⟨B6.2 (by omega),λhq=>h ?_⟩
  rw[hq,Ow (by decide) (by decide)];rfl
theorem Rb (x y:Int)(hy0:y≠0)(hx:Fo x)(hy:Fo y):AK C0 124 [rZ x,rZ y] (str (sb (Al (qZ x y)))):=by
 refine Ai.walk w1 mg rfl λF=>?_
 unfold qZ;refine sR 0 ?_;refine Cp (α:=Nat) (λn=>⟨[(2,.optr 0 0 2 0 0),(3,.optr 1 1 2 0 0)],[⟨1,1,165,2,[.agg [Aq false,rD y.natAbs]]⟩,⟨0,0,165,2,[rZ (if y<0 then -x else x)]⟩],n⟩) (λ_=>True) ?_ ?_
 ·by_cases h:y<0
  ·have cx:=Xc x hx
   have cy:=Xc y hy;have e1:rZ (-y)=.agg [Aq false,rD y.natAbs]:=by
    show D.agg [Aq (decide (-y<0)),rD (-y).natAbs]=_;rw[Af (by omega),LN]
   rw[e1]at cy;rw[AF h];refine sZ 100 ?_;refine AT (AX h) ?_;refine AL ?_;refine B5 w1 200 [0,1,2] [3,4,5] (by kernel_rfl) ?_;refine AD kN ?_;refine BS.same _ cx AH ?_;refine AD kN ?_;refine Az.same _ cy AH ?_;refine BL ?_;exact⟨trivial,_,trivial,AI⟩
  ·have e1:rZ y=.agg [Aq false,rD y.natAbs]:=by
    show D.agg [Aq (decide (y<0)),rD y.natAbs]=_;rw[Af h]
   rw[AE h];refine sZ 100 ?_;refine AT (Af h) ?_;refine AL ?_;refine Aj ?_;refine⟨rfl,5,trivial,?_⟩;rw[<-e1];exact AI
 rintro n0 -;obtain⟨z,hz⟩:∃z,z=(if y<0 then -x else x):=⟨_,rfl⟩
 have hza:z.natAbs=x.natAbs:=by rw[hz];split<;>omega
 obtain⟨d,hd⟩:∃d,d=y.natAbs:=⟨_,rfl⟩
 have hd0:d≠0:=by omega
 unfold Fo at hx hy;rw[<-hza]at hx;rw[<-hd]at hy;rw[<-hz,<-hd];clear hz hza hd hy0;clear x y;have cg:=WG z.natAbs d hx hy;obtain⟨qn,qd⟩:=SA (x:=z) hd0;have hg:0<Nat.gcd z.natAbs d:=OX _ (Dt hd0);have hgl:(AW (Nat.gcd z.natAbs d)).length<1000000:=DF (IF _ _ (Nat.gcd_le_right _ (Dt hd0))) hy;have c4:=T7 z.natAbs (Nat.gcd z.natAbs d) (by omega) hx hgl;have c5:AK C0 176 [rD d,rD (Nat.gcd z.natAbs d)] (.tup [.sl false 1 ((AW (d/Nat.gcd z.natAbs d)).map Aa),rD (d%Nat.gcd z.natAbs d)]):=T7 d (Nat.gcd z.natAbs d) (by omega) hy hgl;have hpl:(AW (z.natAbs/Nat.gcd z.natAbs d)).length<1000000:=DF (IF _ _ (GX _ _)) hx;have hql:(AW (d/Nat.gcd z.natAbs d)).length<1000000:=DF (IF _ _ (GX _ _)) hy;have etx:Al (mkRat z d)=if d/Nat.gcd z.natAbs d=1 then Lib.itoa (sg (decide (z<0)) (z.natAbs/Nat.gcd z.natAbs d))else Lib.itoa (sg (decide (z<0)) (z.natAbs/Nat.gcd z.natAbs d))++47::Lib.decDigits (d/Nat.gcd z.natAbs d):=by
  unfold Al;rw[qn,qd]
 rw[etx];clear etx qn qd hg hgl;generalize z.natAbs/Nat.gcd z.natAbs d=p at*;generalize d/Nat.gcd z.natAbs d=q at*;generalize z.natAbs%Nat.gcd z.natAbs d=r1 at*;generalize d%Nat.gcd z.natAbs d=r2 at*;generalize Nat.gcd z.natAbs d=gg at*;have c6:=Kp (decide (z<0)) p (by omega);have hab:(sg (decide (z<0)) p).natAbs=p:=by unfold sg;split<;>omega
 have c7:=TU (sg (decide (z<0)) p) (by unfold Fo;rw[hab];exact hpl);have c8:=Kp false q (by omega);have c9:=TU (sg false q) (by unfold Fo;show(AW q).length<1000000;exact hql);have e9:Lib.itoa (sg false q)=Lib.decDigits q:=by rw[XG false q (by simp)];rfl
 rw[e9]at c9;have l1:=NW (EX p);rw[Dz]at l1;have l2:=NW (EX q);rw[Dz]at l2;have l3:(Lib.itoa (sg (decide (z<0)) p)).length<=(Lib.decDigits p).length+1:=by
  unfold Lib.itoa;split
  ·rw[hab,Bl];exact Ag _
  ·rw[show(sg (decide (z<0)) p).toNat=p by omega];omega
 generalize sg (decide (z<0)) p=pz at*;have s1:=CN (Lib.itoa pz);have s2:=CN (Lib.decDigits q);have s3:(⟨#[47]⟩:ByteArray).size=1:=rfl;have s4:(sb (Lib.itoa pz)++(⟨#[47]⟩:ByteArray)).size=(sb (Lib.itoa pz)).size+(⟨#[47]⟩:ByteArray).size:=ByteArray.size_append;generalize Lib.itoa pz=t1 at*;generalize Lib.decDigits q=t2 at*;refine sR 300 ?_;refine cI cg ?_;refine sR 400 ?_;refine cI c4 ?_;refine sR 500 ?_;refine cI c5 ?_;refine sR 600 ?_;refine cI c6 ?_;refine cI c7 ?_;have ht:=WP q;rcases ht with⟨h1,a,ha,h2⟩|⟨h1,h2⟩
 ·have ha':=Dg ha
  refine AC.seq ?_;refine sZ 700 ?_;refine AD h1 ?_;refine Bo kT ha' ?_;refine AD (Ac h1 h2) ?_
  by_cases hq:q=1
  ·rw[AX hq,AF hq]
   refine AL ?_;refine sR 800 ?_;refine Ab ?_;exact AO rfl AA.out
  ·rw[Af hq,AE hq]
   refine AL ?_;refine Aj ?_;refine sR 900 ?_;refine Az.same _ c8 AH ?_;refine BL ?_;refine Az.same _ c9 AH ?_;refine BL ?_;refine Ab ?_;refine AO ?_ AA.out;show str ((⟨t1.toArray⟩++⟨([47]:List UInt8).toArray⟩:ByteArray)++⟨t2.toArray⟩)=_;rw[IS,IS,Du];rfl
 ·rw[AE h2]
  refine AC.seq ?_;refine sZ 700 ?_;refine AT h1 ?_;refine AD kF ?_;refine AL ?_;refine Aj ?_;refine sR 900 ?_;refine Az.same _ c8 AH ?_;refine BL ?_;refine Az.same _ c9 AH ?_;refine BL ?_;refine Ab ?_;refine AO ?_ AA.out;show str ((⟨t1.toArray⟩++⟨([47]:List UInt8).toArray⟩:ByteArray)++⟨t2.toArray⟩)=_;rw[IS,IS,Du];rfl
set_option maxHeartbeats 2000000
theorem Pk (k:Nat)(h:k<10):(UInt8.ofNat (48+k)).toNat=48+k:=by
 rw[UInt8.toNat_ofNat'];omega
theorem EM:∀n:Nat,(Lib.decDigits n).all Ba=true/\dv (Lib.decDigits n)=n/\(Lib.decDigits n)≠[]:=λn=>by
 induction n using Nat.strongRecOn with
 |_ n ih=>
  have one:∀k,k<10->Ba (UInt8.ofNat (48+k))=true:=λk hk=>by
   unfold Ba;rw[Pk k hk,BZ];exact⟨Nat.ble_eq_true_of_le (by omega),Nat.ble_eq_true_of_le (by omega)⟩
  have vone:∀k,k<10->dv [UInt8.ofNat (48+k)]=k:=λk hk=>by
   show 0*10+((UInt8.ofNat (48+k)).toNat-48)=k;rw[Pk k hk];omega
  rw[Lib.decDigits];split
  ·rename_i h
   exact⟨by rw[GJ,one n h];rfl,vone n h,by simp⟩
  ·rename_i h
   obtain⟨h1,h2,h3⟩:=ih (n/10) (by omega);refine⟨by rw[LS,h1,GJ,one _ (B0 _ (by decide))];rfl,?_,by simp⟩;rw[NF,h2,vone _ (B0 _ (by decide)),Ga];omega
theorem jO {n:Nat}(h:n≠0):∃c l,Lib.decDigits n=c::l/\c≠48:=by
 induction n using Nat.strongRecOn with
 |_ n ih=>
  rw[Lib.decDigits];split
  ·rename_i h1
   refine⟨_,_,rfl,λhh=>?_⟩
   have:=congrArg UInt8.toNat hh
   rw[Pk n h1]at this
   have:48+n=48:=this
   omega
  ·rename_i h1
   obtain⟨c,l,e,hc⟩:=ih (n/10) (by omega) (by omega);rw[e];exact⟨c,l++_,rfl,hc⟩
theorem nN {c:UInt8}(h:Ba c=true):c≠47/\c≠45:=by
 obtain⟨h1,h2⟩:=Ke h;exact⟨λhh=>by subst hh;simp at h1,λhh=>by subst hh;simp at h1⟩
theorem Lh (z:Int):DA (Lib.itoa z)=decide (z<0)/\Bk (Lib.itoa z)=Lib.decDigits z.natAbs:=by
 unfold Lib.itoa
 by_cases h:z<0
 ·rw[AF h,AX h]
  exact⟨rfl,rfl⟩
 ·rw[AE h,Af h,show z.toNat=z.natAbs by omega]
  have h1:=Rm (EM z.natAbs).1;exact⟨h1,Jc (EM z.natAbs).1⟩
theorem Xr (z:Int):rv (Lib.itoa z)=z:=by
 unfold rv;rw[(Lh z).1,(Lh z).2,(EM z.natAbs).2.1]
 by_cases h:z<0
 ·rw[AX h,AF rfl];omega
 ·rw[Af h,AE (by decide)];omega
theorem Ub (z:Int):∀c∈Lib.itoa z,(c != 47)=true:=λc hc=>by
 have hd:∀n,∀c∈Lib.decDigits n,(c != 47)=true:=λn c h=>by
  have:=(nN (CI.1 (EM n).1 c h)).1
  simpa using this
 unfold Lib.itoa at hc;split at hc
 ·rcases A7.1 hc with rfl|h
  ·rfl
  ·exact hd _ c h
 ·exact hd _ c hc
theorem RT {p:UInt8->Bool}:∀ {l:List UInt8} (m:List UInt8),(∀c∈l,p c=true)->(l++m).takeWhile p=l++m.takeWhile p
 | [],_,_=>rfl
 |a::l,m,h=>by
  rw[EF,Ml,AF (h a Ce),RT m λc hc=>h c (Cq _ hc)];rfl
theorem NB (r:Rat):BD (Al r)=(Lib.itoa r.num).length:=by
 unfold BD Al;split
 ·have:=RT (p:=(· != 47)) [] (Ub r.num)
  rw[DS]at this;rw[this];simp
 ·rw[RT (p:=(· != 47)) _ (Ub r.num)]
  simp
theorem Lr (r:Rat):Bw (Al r)=Lib.itoa r.num:=by
 unfold Bw;rw[NB];unfold Al;split
 ·exact B1 (Ag _)
 ·exact List.take_left' rfl
theorem Kt (r:Rat):BT (Al r)=if r.den=1 then[]else Lib.decDigits r.den:=by
 unfold BT;rw[NB];unfold Al;split
 ·exact Gv (Nat.le_succ _)
 ·rw[List.drop_append]
  rw[Gv (Nat.le_succ _),KL];rfl
theorem Nd (r:Rat):Cj (Al r) = !decide (r.den=1):=by
 unfold Cj;rw[NB];unfold Al
 by_cases h:r.den=1
 ·rw[AF h,AX h,Af (by omega)];rfl
 ·rw[AE h,Af h,B3,Bl,AX (by omega)];rfl
theorem Pe (r:Rat):OK (Al r)=r.num:=by unfold OK;rw[Lr,Xr]
theorem SN (r:Rat):OG (Al r)=r.den:=by
 unfold OG;rw[Nd,Kt]
 by_cases h:r.den=1
 ·rw[AX h,h];rfl
 ·rw[Af h,AE h,AF (show(!false)=true from rfl),L1 (EM _).1,(EM _).2.1]
theorem NN (r:Rat):(Bk (Bw (Al r))).all Ba=true:=by rw[Lr,(Lh _).2];exact(EM _).1
theorem NM (r:Rat):(Bk (BT (Al r))).all Ba=true:=by
 rw[Kt];split
 ·rfl
 ·rw[Jc (EM _).1];exact(EM _).1
theorem XE (z:Int):Lib.itoa z≠[]:=by
 unfold Lib.itoa;split
 ·simp
 ·exact(EM _).2.2
theorem Zw (r:Rat):Al r≠[]:=by
 unfold Al;split
 ·exact XE _
 ·simp
theorem Sa (r:Rat):DA (Al r)=decide (r.num<0):=by
 rw[<-(Lh r.num).1];unfold Al;split
 ·rfl
 ·have:=XE r.num
  cases h:Lib.itoa r.num with
  |nil=>exact AY h this
  |cons c l=>rfl
theorem Wf (r:Rat):decide (Al r=[48])=decide (r.num=0):=by
 refine Cr.2 ⟨λh=>?_,λh=>?_⟩
 ·have h1:=Pe r
  rw[h]at h1;rw[<-h1];decide
 ·have:r.den=1:=by
   have:=r.reduced
   rw[h]at this;simpa using this
  unfold Al;rw[AF this,h];show Lib.decDigits 0=[48];rw[Lib.decDigits,dif_pos (by decide)];rfl
abbrev rR (r:Rat):D:=str (sb (Al r))
def GV (r:Rat):Prop:=(Al r).length<=1000000
theorem Tc (r:Rat)(hl:GV r):AK C0 166 [rR r] (i64 (Fp r)):=by
 refine Ai.walk w1 oO rfl λF=>?_
 have hsz:=CN (Al r);unfold GV at hl;have ez:=EN (Al r) [48];rw[Wf]at ez;have en:=Sa r;refine sR 0 ?_;refine AC.seq ?_;refine AC.seq ?_;have ez2:Bj (sb (Al r)) ⟨#[48]⟩=decide (r.num=0):=ez;have hne:=Zw r;refine An w1 100 (by kernel_rfl) ?_;refine AT ez2 ?_
 by_cases h0:r.num=0
 ·rw[AX h0]
  refine AL ?_;refine sR 200 ?_;refine Ab ?_;exact AO (by unfold Fp;rw[h0];rfl) AA.out
 ·rw[Af h0]
  have hpos:0<(Al r).length:=List.length_pos_iff.2 hne;have e0:decide (((sb (Al r)).size:Int)>0)=true:=AX (by omega);have e1:((((Al r).getD (Int.toNat 0) 0).toNat:Int)==45)=decide (r.num<0):=by
   rw[<-en];cases ht:Al r with
   |nil=>exact AY ht hne
   |cons c l=>exact PV c l
  refine AL ?_;refine Aj ?_;refine AC.seq ?_;refine sZ 300 ?_;refine AD e0 ?_;refine AD (At kT e0 e1) ?_
  by_cases hn:r.num<0
  ·rw[AX hn]
   refine AL ?_;refine sR 400 ?_;refine Ab ?_;exact AO (by unfold Fp;congr 3;omega) AA.out
  ·rw[Af hn]
   refine AL ?_;refine Aj ?_;refine sR 500 ?_;refine Ab ?_;exact AO (by unfold Fp;congr 3;omega) AA.out
theorem Jp (z:Int):Al (z:Rat)=Lib.itoa z:=by
 unfold Al;rw[AF (Rat.den_intCast z),Rat.num_intCast]
theorem tl (r:Rat)(hl:GV r):AK C0 138 [rR r] (rR (r.num:Rat)):=by
 refine Ai.walk w1 oC rfl λF=>?_
 have hsz:=CN (Al r);unfold GV at hl;have cs:=NT (Al r) (by omega);have hle:=Ik (Al r);have e1:(sb (Al r)).extract 0 (BD (Al r))=sb (Al (r.num:Rat)):=by rw[EH,FL,Jp,<-Lr];rfl
 refine sR 0 ?_;refine sR 100 ?_;refine cI cs ?_;simp only[Q8,e1];refine Ab ?_;exact AO rfl AA.out
theorem rn (r:Rat)(hl:GV r):AK C0 139 [rR r] (rR ((r.den:Int):Rat)):=by
 refine Ai.walk w1 oD rfl λF=>?_
 have hsz:=CN (Al r);unfold GV at hl;have cs:=NT (Al r) (by omega);have hh:=Nd r;have hle:=Ik (Al r);unfold Cj at hh;have ed:=Kt r;unfold BT at ed;refine sR 0 ?_;refine sR 100 ?_;refine cI cs ?_;refine AC.seq ?_;refine AC.seq ?_
 by_cases h:r.den=1
 ·rw[AX h]at hh
  have hge:=C5 (p:=BD (Al r)<(Al r).length) hh;have et:(((BD (Al r):Nat):Int)==((Al r).length:Int))=true:=Dw.2 (by omega);refine An w1 200 (by kernel_rfl) ?_;refine AT (Ac hsz et) ?_;refine AL ?_;refine sR 300 ?_;refine Ab ?_;refine AO ?_ AA.out;show _=str (sb (Al ((r.den:Int):Rat)));rw[Jp,h];show _=str (sb (Lib.decDigits 1));rw[Lib.decDigits,dif_pos (by decide)];rfl
 ·rw[Af h]at hh
  have hge:=Cz (p:=BD (Al r)<(Al r).length) hh;have et:(((BD (Al r):Nat):Int)==((Al r).length:Int))=false:=B6.2 (by omega);have wk:IntKind.i64.wrap (((BD (Al r):Nat):Int)+1)=((BD (Al r)+1:Nat):Int):=wI (by omega) (by omega);have e1:(sb (Al r)).extract (BD (Al r)+1) (Al r).length=sb (Al ((r.den:Int):Rat)):=by
   rw[AE h]at ed;rw[EH,B1 (Ag _),ed,Jp];rfl
  refine An w1 200 (by kernel_rfl) ?_;refine AT (Ac hsz et) ?_;refine AL ?_;refine Aj ?_;refine sZ 400 ?_;refine AD (At hsz wk kN) ?_;refine AD e1 ?_;refine Ab ?_;exact AO rfl AA.out
theorem SZ {r:Rat}(h:r.num<0):(Al r).drop 1=Al (-r)/\(Al (-r)).length+1=(Al r).length:=by
 have e:Lib.itoa r.num=45::Lib.itoa (-r.num):=by
  unfold Lib.itoa;rw[AF h,AE (by omega),show(-r.num).toNat=r.num.natAbs by omega]
 have e2:Al r=45::Al (-r):=by
  unfold Al;rw[Rat.neg_den,Rat.neg_num,e];split<;>rfl
 rw[e2];exact⟨rfl,rfl⟩
theorem ky (r:Rat):decide (Fp r<0)=decide (r.num<0):=Cr.2 (by unfold Fp;omega)
theorem re (r:Rat)(hl:GV r):AK C0 137 [rR r] (rR (if r.num<0 then -r else r)):=by
 refine Ai.walk w1 oB rfl λF=>?_
 have hsz:=CN (Al r);have cs:=Tc r hl;unfold GV at hl;have e1:=ky r;refine sR 0 ?_;refine AC.seq ?_;refine sR 100 ?_;refine cI cs ?_;rw[e1]
 by_cases h:r.num<0
 ·obtain⟨t1,t2⟩:=SZ h
  have ee:(sb (Al r)).extract (Int.toNat 1) (Al r).length=sb (Al (-r)):=by
   rw[EH,B1 (Ag _),<-t1];rfl
  rw[AX h,AF h];refine AL ?_;refine sZ 200 ?_;refine AD (Ac hsz kN) ?_;rw[ee];refine Ab ?_;exact AO rfl AA.out
 ·rw[Af h,AE h]
  refine AL ?_;refine Aj ?_;refine sR 300 ?_;refine Ab ?_;exact AO rfl AA.out
def Cx (r:Rat):Rat:=if r.num<0 then -r else r
theorem Pg (r:Rat):(Cx r).num=r.num.natAbs/\(Cx r).den=r.den:=by
 unfold Cx;split
 ·rw[Rat.neg_num,Rat.neg_den];exact⟨by omega,rfl⟩
 ·exact⟨by omega,rfl⟩
def qk (r:Rat):Bool:=!decide (20<(Al r).length) && !(decide (9<BD (Al (Cx r)))||decide (10<(Al (Cx r)).length-BD (Al (Cx r))))
theorem jC (r:Rat):(Al (Cx r)).length<=(Al r).length:=by
 unfold Cx;split
 ·rename_i h
  have:=(SZ h).2
  omega
 ·exact Ag _
theorem O9 (r:Rat):Lib.itoa (Cx r).num=Lib.decDigits r.num.natAbs:=by
 rw[(Pg r).1];unfold Lib.itoa;rw[AE (by omega)];rfl
theorem NK {r:Rat}(h:qk r=true):r.num.natAbs<10^9/\r.den<10^9:=by
 unfold qk at h;simp only[BZ,Bf,JO,KM]at h;obtain⟨h1,h2,h3⟩:=h;have hs:=NB (Cx r);rw[O9]at hs;have hd:=Kt (Cx r);rw[(Pg r).2]at hd;have hdl:(BT (Al (Cx r))).length=(Al (Cx r)).length-(BD (Al (Cx r))+1):=by unfold BT;rw[DY]
 have d1:=F8 _ (EM r.num.natAbs).1;have d2:=F8 _ (EM r.den).1;rw[(EM _).2.1]at d1 d2;refine⟨CP d1 (FJ (by decide) (by omega)),?_⟩
 by_cases h1:r.den=1
 ·rw[h1];decide
 ·rw[AE h1]at hd
  rw[hd]at hdl;exact CP d2 (FJ (by decide) (by omega))
theorem Pt (r:Rat)(hl:GV r):AK C0 121 [rR r] (.tup [i64 (if qk r then r.num else 0),i64 (if qk r then(r.den:Int)else 0),Aq (qk r)]):=by
 refine Ai.walk w1 mb rfl λF=>?_
 have hsz:=CN (Al r);unfold GV at hl;have hne:=Zw r;have hpos:0<(Al r).length:=List.length_pos_iff.2 hne;refine sR 0 ?_;refine sR 100 ?_;refine AC.seq ?_;refine AC.seq ?_
 by_cases h20:20<(Al r).length
 ·have e2:decide (((Al r).length:Int)>20)=true:=AX (by omega)
  have eq:qk r=false:=by unfold qk;rw[AX h20];rfl
  rw[eq];refine An w1 200 (by kernel_rfl) ?_;refine AT (Ac hsz e2) ?_;refine AL ?_;refine sR 300 ?_;refine Ab ?_;exact AO rfl AA.out
 ·have e2:decide (((Al r).length:Int)>20)=false:=Af (by omega)
  have eq:qk r = !(decide (9<BD (Al (Cx r)))||decide (10<(Al (Cx r)).length-BD (Al (Cx r)))):=by unfold qk;rw[Af h20];rfl
  have en:=Sa r;refine An w1 200 (by kernel_rfl) ?_;refine AT (Ac hsz e2) ?_;refine AL ?_;refine Aj ?_;refine Cp (α:=Nat) (λn=>⟨[(5,rR r),(6,Aq (decide (r.num<0)))],[],n⟩) (λ_=>True) ?_ ?_
  ·have e0:decide (((sb (Al r)).size:Int)>0)=true:=AX (by omega)
   have e1:((((Al r).getD (Int.toNat 0) 0).toNat:Int)==45)=decide (r.num<0):=by
    rw[<-en];cases ht:Al r with
    |nil=>exact AY ht hne
    |cons c l=>exact PV c l
   refine An w1 400 (by kernel_rfl) ?_;refine AD e0 ?_;refine AD (At kT e0 e1) ?_;exact⟨trivial,_,trivial,AI⟩
  rintro n0 -;refine Cp (α:=Nat) (λn=>⟨[(5,rR (Cx r)),(6,Aq (decide (r.num<0)))],[],n⟩) (λ_=>True) ?_ ?_
  ·refine sR 500 ?_
   by_cases h:r.num<0
   ·obtain⟨t1,t2⟩:=SZ h
    have ea:Cx r = -r:=by unfold Cx;rw[AF h]
    have ee:(sb (Al r)).extract (Int.toNat 1) (Al r).length=sb (Al (Cx r)):=by
     rw[ea,EH,B1 (Ag _),<-t1];rfl
    rw[AX h];refine AL ?_;refine An w1 600 (by kernel_rfl) ?_;refine AD (Ac hsz kN) ?_;rw[ee];exact⟨trivial,_,trivial,AI⟩
   ·have ea:Cx r=r:=by unfold Cx;rw[AE h]
    rw[Af h,ea];refine AL ?_;refine Aj ?_;exact⟨rfl,_,trivial,AI⟩
  rintro n1 -;have hal:=jC r;have hsa:=NB (Cx r);rw[O9]at hsa;have hn:=Lr (Cx r);rw[O9]at hn;have hd:=Kt (Cx r);rw[(Pg r).2]at hd;have hh:=Nd (Cx r);rw[(Pg r).2]at hh;unfold Cj at hh;have hle:=Ik (Al (Cx r));have cs:=NT (Al (Cx r)) (by omega);have hszA:=CN (Al (Cx r));clear hsz hne hpos e2 en;generalize hT:Al (Cx r)=T at*;have eR:rR (Cx r)=str (sb T):=by rw[<-hT]
  rw[eR];clear hT eR;refine sR 700 ?_;refine cI cs ?_;have w8:IntKind.i64.wrap ((T.length:Int)-(BD T:Int))=((T.length-BD T:Nat):Int):=by rw[wI (by omega) (by omega)];omega
  have eb:decide (((T.length-BD T:Nat):Int)>10)=decide (10<T.length-BD T):=Cr.2 (by omega)
  by_cases h9:9<BD T
  ·have e8:decide ((BD T:Int)>9)=true:=AX (by omega)
   rw[AX h9]at eq;have eq2:qk r=false:=eq;rw[eq2];refine AC.seq ?_;refine sZ 800 ?_;refine AT e8 ?_;refine AD kT ?_;refine AL ?_;refine sR 900 ?_;refine Ab ?_;exact AO rfl AA.out
  have e8:decide ((BD T:Int)>9)=false:=Af (by omega);rw[Af h9]at eq
  by_cases h10:10<T.length-BD T
  ·rw[AX h10]at eq eb
   have eq2:qk r=false:=eq;rw[eq2];refine AC.seq ?_;refine sZ 800 ?_;refine AT e8 ?_;refine AD (BV kF hszA w8 eb) ?_;refine AL ?_;refine sR 900 ?_;refine Ab ?_;exact AO rfl AA.out
  rw[Af h10]at eq eb;have eq2:qk r=true:=eq;rw[eq2];refine AC.seq ?_;refine sZ 800 ?_;refine AT e8 ?_;refine AD (BV kF hszA w8 eb) ?_;refine AL ?_;refine Aj ?_;have hd1:=EM r.num.natAbs;have hd2:=EM r.den;have c1:=P5 (Lib.decDigits r.num.natAbs) hd1.1 (by omega);rw[hd1.2.1]at c1;have e10:(sb T).extract 0 (BD T)=sb (Lib.decDigits r.num.natAbs):=by
   rw[EH,FL,<-hn];rfl
  refine sZ 1000 ?_;refine AD (Ac hszA kN) ?_;refine AD e10 ?_;refine Az.same _ c1 AH ?_;refine BL ?_;refine Cp (α:=Nat) (λn=>⟨[(6,Aq (decide (r.num<0))),(8,i64 (r.num.natAbs:Int)),(9,i64 (r.den:Int))],[],n⟩) (λ_=>True) ?_ ?_
  ·by_cases hden:r.den=1
   ·rw[AX hden]at hh
    have e11:decide ((BD T:Int)<(T.length:Int))=false:=Af (by have:=C5 (p:=BD T<T.length) hh;omega);rw[hden];refine sZ 1100 ?_;refine AT (Ac hszA e11) ?_;refine AL ?_;refine Aj ?_;exact⟨rfl,_,trivial,AI⟩
   ·rw[Af hden]at hh
    rw[AE hden]at hd;have hlt:=Cz (p:=BD T<T.length) hh;have e11:decide ((BD T:Int)<(T.length:Int))=true:=AX (by omega);have wk:IntKind.i64.wrap (((BD T:Nat):Int)+1)=((BD T+1:Nat):Int):=wI (by omega) (by omega);have e12:(sb T).extract (BD T+1) T.length=sb (Lib.decDigits r.den):=by
     rw[EH,B1 (Ag _),<-hd];rfl
    have hdl:(Lib.decDigits r.den).length<=18:=by
     rw[<-hd];unfold BT;rw[DY];omega
    have c2:=P5 (Lib.decDigits r.den) hd2.1 hdl;rw[hd2.2.1]at c2;refine sZ 1100 ?_;refine AT (Ac hszA e11) ?_;refine AL ?_;refine An w1 1200 (by kernel_rfl) ?_;refine AD (At hszA wk kN) ?_;refine AD e12 ?_;refine Az.same _ c2 AH ?_;refine BL ?_;exact⟨trivial,_,trivial,AI⟩
  rintro n2 -;obtain⟨b1,b2⟩:=NK eq2;refine Cp (α:=Nat) (λn=>⟨[(8,i64 r.num),(9,i64 (r.den:Int))],[],n⟩) (λ_=>True) ?_ ?_
  ·refine sR 1300 ?_
   by_cases h:r.num<0
   ·have wn:IntKind.i64.wrap (0-(r.num.natAbs:Int))=r.num:=by rw[wI (by omega) (by omega)];omega
    rw[AX h];refine AL ?_;refine An w1 1400 (by kernel_rfl) ?_;refine AT wn ?_;exact⟨trivial,_,trivial,AI⟩
   ·have en:(r.num.natAbs:Int)=r.num:=by omega
    rw[Af h,en];refine AL ?_;refine Aj ?_;exact⟨rfl,_,trivial,AI⟩
  rintro n3 -;refine sR 1500 ?_;refine Ab ?_;exact AO rfl AA.out
theorem iG (b:Bool)(n:Nat):(sg b n).natAbs=n:=by unfold sg;split<;>omega
theorem aj (z:Int)(d:Nat)(hz:z.natAbs<=4000000000000000000)(hd0:0<d)(hd:d<=4000000000000000000):AK C0 122 [i64 z,i64 (d:Int)] (rR (mkRat z d)):=by
 refine Ai.walk w1 mc rfl λF=>?_
 have hg:0<Nat.gcd z.natAbs d:=OX _ hd0;have hgl:Nat.gcd z.natAbs d<=d:=Nat.gcd_le_right _ hd0;obtain⟨qn,qd⟩:=SA (x:=z) (d:=d) (by omega);have etx:Al (mkRat z d)=if d/Nat.gcd z.natAbs d=1 then Lib.itoa (mkRat z d).num else Lib.itoa (mkRat z d).num++47::Lib.decDigits (d/Nat.gcd z.natAbs d):=by
  unfold Al;rw[qd]
 have q1:z.tdiv (Nat.gcd z.natAbs d:Nat)=(mkRat z d).num:=by
  rw[qn];obtain⟨p,hp⟩:=Nat.gcd_dvd_left z.natAbs d;have e1:z.natAbs/Nat.gcd z.natAbs d=p:=Nat.div_eq_of_eq_mul_right hg hp;have e2:z=(Nat.gcd z.natAbs d:Int)*sg (decide (z<0)) p:=by
   have h0:(z.natAbs:Int)=(Nat.gcd z.natAbs d:Int)*(p:Int):=by rw[<-ER,<-hp]
   unfold sg
   by_cases hx:z<0
   ·rw[AX hx,AF rfl,Int.mul_neg,<-h0];omega
   ·rw[Af hx,AE (by decide),<-h0];omega
  rw[e1]
  conv=>lhs;arg 1;rw[e2]
  rw[Int.mul_tdiv_cancel_left _ (by omega)]
 have q2:(d:Int).tdiv (Nat.gcd z.natAbs d:Nat)=((d/Nat.gcd z.natAbs d:Nat):Int):=rfl;have q5:(mkRat z d).num.natAbs<=4000000000000000000:=by
  rw[qn];rw[iG];exact BO (GX _ _) hz
 have q4:d/Nat.gcd z.natAbs d<=4000000000000000000:=BO (GX _ _) hd;have hx:0<d/Nat.gcd z.natAbs d:=Nat.div_pos hgl hg;have ert:rR (mkRat z d)=str (sb (if d/Nat.gcd z.natAbs d=1 then Lib.itoa (mkRat z d).num else Lib.itoa (mkRat z d).num++47::Lib.decDigits (d/Nat.gcd z.natAbs d))):=by rw[<-etx]
 rw[ert];clear etx ert qn qd;generalize(mkRat z d).num=pz at*;refine fR 0 ?_;refine FU ⟨[(0,i64 z),(1,i64 d),(4,str ⟨#[]⟩)],[],50⟩ ?_ ?_
 ·refine AC.seq ?_
  have l1:(decide (z < -4000000000000000000))=false:=by apply Af;omega
  have l2:(decide (z>4000000000000000000))=false:=by apply Af;omega
  have l3:(decide ((d:Int) < -4000000000000000000))=false:=by apply Af;omega
  have l4:(decide ((d:Int)>4000000000000000000))=false:=by apply Af;omega
  refine An w1 100 (by kernel_rfl) ?_
  repeat'(first|(refine And.intro (by exact B4) ?_;(refine As ?_);(try simp only[MK,Qb,l1,l2,l3,l4]))|((refine Br (λhb=>?_) (λhb=>?_))<;>(try simp only[Bf,Bp]at hb)<;>(try simp only[hb])<;>(refine As ?_)))
  refine AL ?_;refine Aj ?_;exact And.intro (by trivial) (AI)
 refine FU ⟨[(0,i64 z),(1,i64 d),(4,str ⟨#[]⟩)],[],100⟩ ?_ ?_
 ·refine fR 300 ?_
  refine AL ?_;have e27:(decide ((d:Int)<0))=false:=by simp
  rw[e27];refine Aj ?_;exact And.intro (by trivial) (AI)
 refine AC.seq ?_;have m1:max z (IntKind.i64.wrap (0-z))=(z.natAbs:Int):=by rw[wI (by omega) (by omega)];omega
 refine An w1 500 (by kernel_rfl) ?_;refine JW m1 ?_;refine dI (kp z.natAbs d (by omega) (by omega)) ?_;refine AC.seq ?_;refine B5 w1 600 [0,1,2,3,4,5,6] [7] (by kernel_rfl) ?_;refine B8 ?_;have w1p:IntKind.i64.wrap pz=pz:=wI (by omega) (by omega);rw[q1,q2,w1p,wN (BO q4 (by decide))];clear q1 q2 hg hgl;generalize d/Nat.gcd z.natAbs d=y at*;refine fR 700 ?_;have c1:=Oz pz.natAbs 1 (by omega);have c2:=Oz y 1 (by omega);rw[Wx]at c1 c2;have s1:=La 18 pz.natAbs (DF q5 (by decide));have s2:=La 18 y (DF q4 (by decide));have z1:=NR (Lib.decDigits pz.natAbs);have z2:=NR (Lib.decDigits y);have m1:max pz (IntKind.i64.wrap (0-pz))=(pz.natAbs:Int):=by rw[wI (by omega) (by omega)];omega
 refine Cp (α:=Nat) (λn=>⟨[(0,i64 pz),(1,i64 (y:Int)),(4,str ⟨#[]⟩),(6,str (sb (if pz<0 then[45]else[])))],[],n⟩) (λ_=>True) ?_ ?_
 ·refine fR 800 ?_
  by_cases h:pz<0
  ·rw[AX h,AF h]
   refine AL ?_;refine fI 900 ?_;exact⟨rfl,_,trivial,AI⟩
  ·rw[Af h,AE h]
   refine AL ?_;refine Aj ?_;exact⟨rfl,_,trivial,AI⟩
 rintro n0 -;have ei:(if pz<0 then[45]else[])++Lib.decDigits pz.natAbs=Lib.itoa pz:=by
  unfold Lib.itoa;split
  ·rfl
  ·rw[show pz.toNat=pz.natAbs by omega];rfl
 have z3:=CN (if pz<0 then[45]else[]);have z4:(if pz<0 then[45]else[]:List UInt8).length<=1:=by split<;>simp
 have z5:(Lib.itoa pz).length<=20:=by rw[<-ei,B3];omega
 refine sZ 1000 ?_;refine JW m1 ?_;refine dI c1 ?_;rw[IS,ei];have z6:=NR (Lib.itoa pz);generalize Lib.itoa pz=t1 at*;clear ei z3 z4;refine Cp (α:=Nat) (λn=>⟨[(6,str (sb (if y=1 then t1 else t1++47::Lib.decDigits y)))],[],n⟩) (λ_=>True) ?_ ?_
 ·refine fR 1100 ?_
  by_cases hy:y=1
  ·rw[AF hy]
   have e54:(decide ((y:Int)>1))=false:=by apply Af;omega
   rw[e54];refine AL ?_;refine Aj ?_;exact⟨rfl,_,trivial,AI⟩
  ·rw[AE hy]
   have e54:(decide ((y:Int)>1))=true:=by apply AX;omega
   have s3:(⟨#[47]⟩:ByteArray).size=1:=rfl;have sc:((⟨t1.toArray⟩:ByteArray)++(⟨#[47]⟩:ByteArray)).size=(⟨t1.toArray⟩:ByteArray).size+(⟨#[47]⟩:ByteArray).size:=ByteArray.size_append;rw[e54];refine AL ?_;refine fI 1200 ?_;refine dI c2 ?_;have e47:(⟨#[47]⟩:ByteArray)=⟨([47]:List UInt8).toArray⟩:=rfl;rw[e47,IS,IS,Du,EF,FK];exact⟨rfl,_,trivial,AI⟩
 rintro n1 -;refine fR 1300 ?_;refine Ab ?_;exact AO rfl AA.out
theorem Si {n k:Nat}(h:(Ae n).length<=k):(AW n).length<=3*k:=by
 refine Je (CP (Iq n) ?_);rw[Nat.pow_mul];exact BO (FJ (by decide) h) (Mm (by decide) k)
theorem L9 {n k:Nat}(h:(Ae n).length<=k):(Lib.decDigits n).length<=27*k+1:=by
 have h1:=NW (EX n);rw[Dz]at h1
 have:=Si h
 omega
theorem XF {z:Int}{k:Nat}(h:(Ae z.natAbs).length<=k):(Lib.itoa z).length<=27*k+2:=by
 have:=L9 h
 unfold Lib.itoa;split
 ·rw[Bl];omega
 ·rw[show z.toNat=z.natAbs by omega];omega
theorem Ks {r:Rat}{k:Nat}(h:rk r k)(hk:k<=10000):GV r:=by
 have h1:=XF h.1;have h2:=L9 h.2;unfold GV Al;split
 ·omega
 ·rw[B3,Bl];omega
def LZ (x:Int)(p:Nat):Prop:=(AW x.natAbs).length<=p
theorem LZ.mul {x y:Int}{p q:Nat}(hx:LZ x p)(hy:LZ y q):LZ (x*y) (p+q):=by
 unfold LZ at*;rw[Mf]
 have:=RX x.natAbs y.natAbs
 omega
theorem LZ.add {x y:Int}{p q:Nat}(hx:LZ x p)(hy:LZ y q):LZ (x+y) (p+q+1):=by
 unfold LZ at*;have h1:=IF (x+y).natAbs (x.natAbs+y.natAbs) (Int.natAbs_add_le x y);have h2:=Um x.natAbs y.natAbs;omega
theorem LZ.few {x:Int}{p:Nat}(h:LZ x p)(hp:p<1000000):Fo x:=DF h hp
theorem LZ.num {r:Rat}{k:Nat}(h:rk r k):LZ r.num (3*k):=Si h.1
theorem LZ.den {r:Rat}{k:Nat}(h:rk r k):LZ (r.den:Int) (3*k):=Si h.2
theorem qj (a b:Rat):qZ (a.num*b.den+b.num*a.den) ((a.den:Int)*b.den)=a+b:=by
 unfold qZ;have h:¬((a.den:Int)*b.den<0):=by
  rw[<-ER];omega
 rw[AE h,<-ER,Dh,Rat.add_def',]
theorem qm (a b:Rat):qZ (a.num*b.num) ((a.den:Int)*b.den)=a*b:=by
 unfold qZ;have h:¬((a.den:Int)*b.den<0):=by
  rw[<-ER];omega
 rw[AE h,<-ER,Dh,Rat.mul_def']
theorem M8 {x y:Int}(hx:x.natAbs<10^9)(hy:y.natAbs<10^9):(x*y).natAbs<10^18:=by
 rw[Mf];exact CP (Nat.mul_lt_mul'' hx hy) (by decide)
theorem T6 (a b:Rat)(i j:Nat)(ha:rk a i)(hb:rk b j)(hij:i+j<=10000):AK C0 167 [rR a,rR b] (rR (a+b)):=by
 refine Ai.walk w1 oP rfl λF=>?_
 have ta:=Ks ha (by omega);have tb:=Ks hb (by omega);have qa:=Pt a ta;have qb:=Pt b tb
 by_cases hq:qk a=true/\qk b=true
 ·obtain⟨h1,h2⟩:=hq
  obtain⟨n1,d1⟩:=NK h1;obtain⟨n2,d2⟩:=NK h2;rw[h1,AF rfl,AF rfl]at qa;rw[h2,AF rfl,AF rfl]at qb;have p1:=M8 n1 (y:=(b.den:Int)) (by omega);have p2:=M8 n2 (y:=(a.den:Int)) (by omega);have p3:=M8 (x:=(a.den:Int)) (y:=(b.den:Int)) (by omega) (by omega);have m1:IntKind.i64.wrap (a.num*(b.den:Int))=a.num*b.den:=wI (by omega) (by omega);have m2:IntKind.i64.wrap (b.num*(a.den:Int))=b.num*a.den:=wI (by omega) (by omega);have m3:IntKind.i64.wrap (a.num*(b.den:Int)+b.num*(a.den:Int))=a.num*b.den+b.num*a.den:=wI (by omega) (by omega);have m4:IntKind.i64.wrap ((a.den:Int)*(b.den:Int))=((a.den*b.den:Nat):Int):=by rw[wI (by omega) (by omega),ER]
  have p4:a.den*b.den<10^18:=by rw[<-ER,Dh]at p3;exact p3
  have cf:=aj (a.num*b.den+b.num*a.den) (a.den*b.den) (by omega) (GK a.den_pos b.den_pos) (by omega);rw[<-Rat.add_def']at cf;refine sR 0 ?_;refine sR 100 ?_;refine cI qa ?_;refine sR 200 ?_;refine cI qb ?_;refine AC.seq ?_;refine sZ 300 ?_;refine AD kT ?_;refine AL ?_;refine sZ 400 ?_;refine AT (BV m1 m2 m3 m4) ?_;refine cI cf ?_;refine Ab ?_;exact AO rfl AA.out
 ·refine sR 0 ?_
  refine sR 100 ?_;refine cI qa ?_;refine sR 200 ?_;refine cI qb ?_;refine Cp (α:=Nat) (λn=>⟨[(0,rR a),(1,rR b)],[],n⟩) (λ_=>True) ?_ ?_
  ·cases h1:qk a
   ·refine sZ 300 ?_
    refine AD h1 ?_;refine AD kF ?_;refine AL ?_;refine Aj ?_;exact⟨rfl,_,trivial,AI⟩
   ·have h2:qk b=false:=by
     cases h2:qk b
     ·rfl
     ·exact AY ⟨h1,h2⟩ hq
    rw[h2];refine sZ 300 ?_;refine AD h1 ?_;refine AD kT ?_;refine AL ?_;refine Aj ?_;exact⟨rfl,_,trivial,AI⟩
  rintro n0 -;clear qa qb hq;have pa:=Ln (Al a) (NN a) (NM a) ta;have pb:=Ln (Al b) (NN b) (NM b) tb;rw[Pe,SN]at pa pb;have lan:=LZ.num ha;have lad:=LZ.den ha;have lbn:=LZ.num hb;have lbd:=LZ.den hb;have da:=a.den_pos;have db:=b.den_pos;have c1:=NV a.num b.den (lan.few (by omega)) (lbd.few (by omega));have c2:=NV b.num a.den (lbn.few (by omega)) (lad.few (by omega));have c3:=r6 (a.num*b.den) (b.num*a.den) ((lan.mul lbd).few (by omega)) ((lbn.mul lad).few (by omega));have c4:=NV (a.den:Int) b.den (lad.few (by omega)) (lbd.few (by omega));have c5:=Rb (a.num*b.den+b.num*a.den) ((a.den:Int)*b.den) (by rw[<-ER];have:=GK da db;omega) (((lan.mul lbd).add (lbn.mul lad)).few (by omega)) ((lad.mul lbd).few (by omega));rw[qj]at c5;refine sR 500 ?_;refine cI pa ?_;refine sR 600 ?_;refine cI pb ?_;refine AC.seq ?_;refine B5 w1 700 [0,1,2,3,4,5,6,7,8] [9,10,11] (by kernel_rfl) ?_;refine AD kN ?_
  first|refine BS.same _ c1 AH ?_|refine Az.same _ c1 AH ?_
  refine AD kN ?_
  first|refine BS.same _ c2 AH ?_|refine Az.same _ c2 AH ?_
  refine AD kN ?_
  first|refine BS.same _ c3 AH ?_|refine Az.same _ c3 AH ?_
  refine AD kN ?_
  first|refine BS.same _ c4 AH ?_|refine Az.same _ c4 AH ?_
  refine AD kN ?_
  first|refine BS.same _ c5 AH ?_|refine Az.same _ c5 AH ?_
  refine AD kN ?_;refine Ab ?_;exact AO rfl AA.out
theorem UA (a b:Rat)(i j:Nat)(ha:rk a i)(hb:rk b j)(hij:i+j<=10000):AK C0 69 [rR a,rR b] (rR (a*b)):=by
 refine Ai.walk w1 sM rfl λF=>?_
 have ta:=Ks ha (by omega);have tb:=Ks hb (by omega);have qa:=Pt a ta;have qb:=Pt b tb
 by_cases hq:qk a=true/\qk b=true
 ·obtain⟨h1,h2⟩:=hq
  obtain⟨n1,d1⟩:=NK h1;obtain⟨n2,d2⟩:=NK h2;rw[h1,AF rfl,AF rfl]at qa;rw[h2,AF rfl,AF rfl]at qb;have p1:=M8 n1 (y:=b.num) n2;have p3:=M8 (x:=(a.den:Int)) (y:=(b.den:Int)) (by omega) (by omega);have m1:IntKind.i64.wrap (a.num*b.num)=a.num*b.num:=wI (by omega) (by omega);have m4:IntKind.i64.wrap ((a.den:Int)*(b.den:Int))=((a.den*b.den:Nat):Int):=by rw[wI (by omega) (by omega),ER]
  have p4:a.den*b.den<10^18:=by rw[<-ER,Dh]at p3;exact p3
  have cf:=aj (a.num*b.num) (a.den*b.den) (by omega) (GK a.den_pos b.den_pos) (by omega);rw[<-Rat.mul_def']at cf;refine sR 0 ?_;refine sR 100 ?_;refine cI qa ?_;refine sR 200 ?_;refine cI qb ?_;refine AC.seq ?_;refine sZ 300 ?_;refine AD kT ?_;refine AL ?_;refine sZ 400 ?_;refine AT (Ac m1 m4) ?_;refine cI cf ?_;refine Ab ?_;exact AO rfl AA.out
 ·refine sR 0 ?_
  refine sR 100 ?_;refine cI qa ?_;refine sR 200 ?_;refine cI qb ?_;refine Cp (α:=Nat) (λn=>⟨[(0,rR a),(1,rR b)],[],n⟩) (λ_=>True) ?_ ?_
  ·cases h1:qk a
   ·refine sZ 300 ?_
    refine AD h1 ?_;refine AD kF ?_;refine AL ?_;refine Aj ?_;exact⟨rfl,_,trivial,AI⟩
   ·have h2:qk b=false:=by
     cases h2:qk b
     ·rfl
     ·exact AY ⟨h1,h2⟩ hq
    rw[h2];refine sZ 300 ?_;refine AD h1 ?_;refine AD kT ?_;refine AL ?_;refine Aj ?_;exact⟨rfl,_,trivial,AI⟩
  rintro n0 -;clear qa qb hq;have pa:=Ln (Al a) (NN a) (NM a) ta;have pb:=Ln (Al b) (NN b) (NM b) tb;rw[Pe,SN]at pa pb;have lan:=LZ.num ha;have lad:=LZ.den ha;have lbn:=LZ.num hb;have lbd:=LZ.den hb;have da:=a.den_pos;have db:=b.den_pos;have c1:=NV a.num b.num (lan.few (by omega)) (lbn.few (by omega));have c4:=NV (a.den:Int) b.den (lad.few (by omega)) (lbd.few (by omega));have c5:=Rb (a.num*b.num) ((a.den:Int)*b.den) (by rw[<-ER];have:=GK da db;omega) ((lan.mul lbn).few (by omega)) ((lad.mul lbd).few (by omega));rw[qm]at c5;refine sR 500 ?_;refine cI pa ?_;refine sR 600 ?_;refine cI pb ?_;refine AC.seq ?_;refine B5 w1 700 [0,1,2,3,4] [5,6,7] (by kernel_rfl) ?_;refine AD kN ?_
  first|refine BS.same _ c1 AH ?_|refine Az.same _ c1 AH ?_
  refine AD kN ?_
  first|refine BS.same _ c4 AH ?_|refine Az.same _ c4 AH ?_
  refine AD kN ?_
  first|refine BS.same _ c5 AH ?_|refine Az.same _ c5 AH ?_
  refine AD kN ?_;refine Ab ?_;exact AO rfl AA.out
theorem io (c:UInt8):Ba c=(!decide ((c.toNat:Int)<48) && !decide ((c.toNat:Int)>57)):=by
 unfold Ba;rw[GW,BZ,BZ];simp only[Bf,KM,Nat.ble_eq];omega
theorem cU {l:List UInt8}{i:Nat}{c:UInt8}(hc:l[i]?=some c)(h:(l.take i).all Ba=true):(l.take (i+1)).all Ba=Ba c:=by
 rw[Dv,hc,LS,h];simp
theorem lh {l:List UInt8}{i:Nat}{c:UInt8}(hc:l[i]?=some c)(h:Ba c=false):l.all Ba=false:=by
 cases ha:l.all Ba
 ·rfl
 ·have:=CI.1 ha c (A8 hc)
  rw[h]at this;cases this
theorem iX (l:List UInt8)(hl:l.length<=1000000000):AK C0 268 [str (sb l)] (Aq (l.all Ba)):=by
 refine Ai.walk w1 qA rfl λF=>?_
 have hsz:=CN l;refine sR 0 ?_;refine AC.seq ?_;refine sR 100 ?_;refine AC.block ?_;refine AC.loop (α:=Nat×Nat) (λp=>⟨[(0,str (sb l)),(3,i64 (p.1:Int))],[],p.2⟩) (λp=>l.length-p.1) (λp=>p.1<=l.length/\(l.take p.1).all Ba=true) (0,_) ⟨BR _,rfl⟩ AI ?_;rintro⟨i,n⟩ F ⟨hi,ha⟩;dsimp only at hi ha⊢;refine AC.seq ?_;refine sZ 200 ?_;refine AT hsz ?_;refine AL ?_
 (refine Br (λhlt=>?_) (λhlt=>?_))<;>(try simp only[Bf,Bp]at hlt)<;>(try simp only[hlt])
 ·have hi2:i<l.length:=by
   have:=Cz hlt
   omega
  obtain⟨c,hc⟩:∃c,l[i]?=some c:=⟨l[i],BF hi2⟩
  have hg:l.getD i 0=c:=by simp[hc]
  have wi:IntKind.i64.wrap ((i:Int)+1)=((i+1:Nat):Int):=wI (by omega) (by omega);have hid:=io c;have hat:=cU hc ha;have hno:=lh hc;refine Aj ?_;refine AC.seq ?_;refine AC.block ?_;refine sZ 400 ?_;refine AT (Ac kN hg) ?_
  by_cases c1:(c.toNat:Int)<48
  ·rw[AX c1]at hid
   have e4:=AX c1;simp only[e4];refine AD kT ?_;refine AL ?_;refine sR 500 ?_;refine Ab ?_;exact AO (by rw[hno hid]) AA.out
  ·rw[Af c1]at hid
   have e4:=Af c1;simp only[e4];refine AD (At kF kN hg) ?_
   by_cases c2:(c.toNat:Int)>57
   ·rw[AX c2]at hid⊢
    refine AL ?_;refine sR 500 ?_;refine Ab ?_;exact AO (by rw[hno hid]) AA.out
   ·rw[Af c2]at hid⊢
    refine AL ?_;refine Aj ?_;refine An w1 300 (by kernel_rfl) ?_;refine AT wi ?_;exact⟨(i+1,_),⟨hi2,hat.trans hid⟩,by dsimp only;omega,AI⟩
 ·have hi2:i=l.length:=by
   have:=C5 hlt
   omega
  subst hi2;rw[B1 (Ag _)]at ha;refine B7 ?_;refine sR 600 ?_;refine Ab ?_;exact AO (by rw[ha]) AA.out
theorem gE (c:UInt8):(((c.toNat:Nat):Int)==48)=decide (c=48):=by
 rw[GW,Dw,decide_eq_true_iff,<-UInt8.toNat_inj];exact⟨λh=>(show c.toNat=48 by omega),λh=>by rw[h];rfl⟩
theorem Zo (l:List UInt8)(hl:l.length<=1000000000):AK C0 224 [str (sb l)] (Aq (Cv l)):=by
 refine Ai.walk w1 nr rfl λF=>?_
 have hsz:=CN l;have cd:=iX l hl;refine sR 0 ?_;refine AC.seq ?_;refine AC.seq ?_
 match l,hl,hsz,cd with
 | [],_,hsz,_=>
  have e1:((((sb []).size:Nat):Int)==0)=true:=rfl;refine An w1 100 (by kernel_rfl) ?_;refine AT e1 ?_;refine AD kT ?_;refine AL ?_;refine sR 200 ?_;refine Ab ?_;exact AO rfl AA.out
 | [c],hl,hsz,cd=>
  have e1:((((sb [c]).size:Nat):Int)==0)=false:=rfl;have e2:decide ((((sb [c]).size:Nat):Int)>1)=false:=rfl;have ep:Cv [c]=[c].all Ba:=by
   unfold Cv J8
   by_cases h:c=48
   ·subst h;rfl
   ·simp[h]
  rw[ep];refine An w1 100 (by kernel_rfl) ?_;refine AT e1 ?_;refine AD kF ?_;simp only[e2];refine AD kF ?_;refine AL ?_;refine Aj ?_;refine sR 300 ?_;refine cI cd ?_;refine Ab ?_;exact AO rfl AA.out
 |c::d::l,hl,hsz,cd=>
  have hs2:(sb (c::d::l)).size=l.length+2:=hsz;have e1:((((sb (c::d::l)).size:Nat):Int)==0)=false:=B6.2 (by omega);have e2:decide ((((sb (c::d::l)).size:Nat):Int)>1)=true:=AX (by omega);have e3:((((c::d::l).getD (Int.toNat 0) 0).toNat:Int)==48)=decide (c=48):=gE c;have ep:Cv (c::d::l)=if c=48 then false else(c::d::l).all Ba:=by
   unfold Cv J8
   by_cases h:c=48
   ·subst h;simp
   ·simp[h]
  rw[ep];refine An w1 100 (by kernel_rfl) ?_;refine AT e1 ?_;refine AD (Ac kF e2) ?_;refine AD (BV kT e2 e3 kF) ?_
  by_cases h:c=48
  ·rw[AX h,AF h]
   refine AL ?_;refine sR 200 ?_;refine Ab ?_;exact AO rfl AA.out
  ·rw[Af h,AE h]
   refine AL ?_;refine Aj ?_;refine sR 300 ?_;refine cI cd ?_;refine Ab ?_;exact AO rfl AA.out
theorem ql (r:Rat)(h:r≠0):qZ (r.den:Int) r.num=r⁻¹:=by
 have hn:r.num≠0:=λh1=>h (Rat.num_eq_zero.1 h1)
 rw[Rat.inv_def];unfold qZ;rcases Int.lt_or_gt_of_ne hn with h1|h1
 ·rw[AF h1]
  obtain⟨m,hm⟩:∃m,r.num=Int.negSucc m:=by
   cases hy:r.num with
   |ofNat n=>rw[hy]at h1;simp at h1;omega
   |negSucc k=>exact⟨k,rfl⟩
  rw[hm];show mkRat (-(r.den:Int)) (m+1)=Rat.normalize (-(r.den:Int)) (m+1) (Nat.succ_ne_zero m);rw[Rat.normalize_eq_mkRat]
 ·rw[AE (by omega)]
  obtain⟨m,hm⟩:∃m:Nat,r.num=(m:Int):=⟨r.num.natAbs,by omega⟩
  rw[hm,Rat.divInt_ofNat,Dh]
theorem uL (r:Rat)(k:Nat)(h:rk r k)(hk:k<=10000)(h0:r≠0):AK C0 168 [rR r] (rR r⁻¹):=by
 refine Ai.walk w1 oQ rfl λF=>?_
 have tr:=Ks h hk;have pa:=Ln (Al r) (NN r) (NM r) tr;rw[Pe,SN]at pa;have ln:=LZ.num h;have ld:=LZ.den h;have cf:=Rb (r.den:Int) r.num (λh1=>h0 (Rat.num_eq_zero.1 h1)) (ld.few (by omega)) (ln.few (by omega));rw[ql r h0]at cf;refine sR 0 ?_;refine sR 100 ?_;refine cI pa ?_;refine sR 200 ?_;refine cI cf ?_;refine Ab ?_;exact AO rfl AA.out
theorem km (a b:Rat)(i j:Nat)(ha:rk a i)(hb:rk b j)(hij:i+j<=10000)(h0:b≠0):AK C0 120 [rR a,rR b] (rR (a/b)):=by
 refine Ai.walk w1 ma rfl λF=>?_
 have c1:=uL b j hb (by omega) h0;have c2:=UA a b⁻¹ i j ha (Ta hb h0) hij;rw[<-Rat.div_def]at c2;refine sR 0 ?_;refine sR 100 ?_;refine cI c1 ?_;refine cI c2 ?_;refine Ab ?_;exact AO rfl AA.out
def CL (r:Rat):Bool:=decide (600<(Lib.decDigits r.num.natAbs).length)||decide (600<(Lib.decDigits r.den).length)
theorem ZM (r:Rat)(k:Nat)(h:rk r k)(hk:k<=10000):AK C0 87 [rR r] (i64 (if CL r then 4 else 0)):=by
 refine Ai.walk w1 sX rfl λF=>?_
 have tr:=Ks h hk;have c1:=tl r tr;have hn:rk ((r.num:Int):Rat) (k+1):=by
  refine⟨by rw[Rat.num_intCast];have:=h.1;omega,by rw[Rat.den_intCast];have:=GN (n:=1) (k:=1) (by decide);omega⟩
 have c2:=re ((r.num:Int):Rat) (by
  unfold GV;rw[Jp]
  have:=XF h.1
  omega)
 have c3:=rn r tr;have e2:Al (if((r.num:Int):Rat).num<0 then -((r.num:Int):Rat)else((r.num:Int):Rat))=Lib.decDigits r.num.natAbs:=by
  have e:=O9 ((r.num:Int):Rat);rw[Rat.num_intCast]at e⊢;rw[<-e];unfold Cx;rw[Rat.num_intCast];split
  ·rw[<-Rat.intCast_neg,Jp,Rat.num_intCast]
  ·rw[Jp,Rat.num_intCast]
 have e3:Al ((r.den:Int):Rat)=Lib.decDigits r.den:=by
  rw[Jp];rfl
 have s2:=CN (Lib.decDigits r.num.natAbs);have s3:=CN (Lib.decDigits r.den);unfold CL;unfold rR at c2 c3;rw[e2]at c2;rw[e3]at c3;generalize Lib.decDigits r.num.natAbs=A at*;generalize Lib.decDigits r.den=B at*;have t2:decide ((A.length:Int)>600)=decide (600<A.length):=Cr.2 (by omega);have t3:decide ((B.length:Int)>600)=decide (600<B.length):=Cr.2 (by omega);refine sR 0 ?_;refine AC.seq ?_;refine sR 100 ?_;refine cI c1 ?_;refine cI c2 ?_;simp only[s2,t2]
 by_cases h9:600<A.length
 ·rw[AX h9]
  refine AD kT ?_;refine AL ?_;refine sR 200 ?_;refine Ab ?_;exact AO rfl AA.out
 ·rw[Af h9]
  refine AD kF ?_;refine LU kF ?_;refine Az.same _ c3 AH ?_;refine AD (At kF s3 t3) ?_
  by_cases h8:600<B.length
  ·rw[AX h8]
   refine AL ?_;refine sR 200 ?_;refine Ab ?_;exact AO rfl AA.out
  ·rw[Af h8]
   refine AL ?_;refine Aj ?_;refine sR 300 ?_;refine Ab ?_;exact AO rfl AA.out
end Go.Ide
