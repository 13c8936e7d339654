/- The layer of own lemmas and contracts, part 8. -/
import Derived.Test.YtaoojbnciofmcaaGreatDoorAA7
import Derived.Test.YtaoojbnciofmcaaGreatDoorAA3
set_option linter.unusedVariables false
set_option linter.unusedSimpArgs false
namespace Go.Ide
open Go.Proofs Go.RowKit
set_option maxRecDepth 20000
def C4 (b:Nat):Bool:=((decide (97<=b)&&decide (b<=122))||(decide (65<=b)&&decide (b<=90)))||(decide (48<=b)&&decide (b<=57))||b==45||b==95||b==46
def B4 (l:List UInt8):Bool:=l.all (λb=>C4 b.toNat)&&(decide (1<=l.length)&&decide (l.length<=24))
theorem iO (s:ByteArray)(p:Nat)(hp:p<s.size):s.data.toList[p]?=some (s.get! p):=by
 have hp':p<s.data.size:=hp;rw[Jo,B3 hp']
 congr 1
 show _=s.data[p]!;rw[getElem!_pos s.data p hp']
theorem Zk (s:ByteArray)(p:Nat)(h:(s.get! p).toNat<128):Utf8.decode s p=((s.get! p).toNat,1):=by
 unfold Utf8.decode;exact AH h
theorem oB (s:ByteArray)(p:Nat)(h:¬(s.get! p).toNat<128):128<=(Utf8.decode s p).1:=by
 unfold Utf8.decode;dsimp only;simp only[Dq];rw[AG h];have hv:128<=Utf8.runeError:=by decide
 repeat' split
 all_goals first|exact hv|(rename_i h1;simp only[ge_iff_le,Ba,G4]at h1;dsimp only;omega)
theorem mC (s:ByteArray):AK C0 34 [str s] (Ai (B4 s.data.toList)):=by
 refine AZ.walk w1 fW rfl λB=>?_
 have hsz:s.data.toList.length=s.size:=IW;refine fR 0 ?_;refine AC.seq ?_;refine AC.seq ?_;refine e0i w1 100 [0] 1 rfl (by kernel_rfl) rfl ?_;refine CL ?_;intro F hF;refine BJ ?_;refine AC.block ?_;refine Gb (α:=Nat×Nat) (λp=>⟨[(0,str s),(7,.optr 101 2 0 0 0)],[],p.2⟩) (λp=>s.size-p.1) (λp F=>NK C0 B F 101 2 s p.1/\p.1<=s.size/\(s.data.toList.take p.1).all (λb=>C4 b.toNat)=true) (0,3) ⟨hF,BU _,rfl⟩ AL ?_;rintro⟨p,n⟩ F ⟨hIt,hp,hall⟩;dsimp only at hIt hp hall⊢;refine AC.seq ?_;refine e0g w1 200 0 [1] rfl (by kernel_rfl) s p ?_;refine BK hIt (BK (λhlt F hIt=>?_) (λhge=>?_))
 ·refine CL ?_
  generalize hc:(Utf8.decode s p).1=c;refine AC.seq ?_;refine AN ?_;refine Aj ?_;refine AC.block ?_;refine fR 300 ?_;refine D6 ⟨[(0,str s),(7,.optr 101 2 0 0 0),(4,.prim (.int .i32 c)),(5,Ai ((decide ((c:Int)>=97)&&decide ((c:Int)<=122))||(decide ((c:Int)>=65)&&decide ((c:Int)<=90))))],[],n+30⟩ (Ao 400 ?_) ?_
  ·repeat'(first|(refine BK (by exact CF) ?_;refine BJ ?_)|((refine B1 (λhb=>?_) (λhb=>?_))<;>(try simp only[Bl,Bz]at hb)<;>(try simp only[hb])<;>(refine BJ ?_)))
   all_goals exact AL
  generalize hL:((decide ((c:Int)>=97)&&decide ((c:Int)<=122))||(decide ((c:Int)>=65)&&decide ((c:Int)<=90)))=L;refine D6 ⟨[(0,str s),(7,.optr 101 2 0 0 0),(47,Ai ((((!L && !(decide ((c:Int)>=48)&&decide ((c:Int)<=57)))&&((c:Int) != 45))&&((c:Int) != 95))&&((c:Int) != 46)))],[],n+60⟩ (Ao 500 ?_) ?_
  ·repeat'(first|(refine BK (by exact CF) ?_;refine BJ ?_)|((refine B1 (λhb=>?_) (λhb=>?_))<;>(try simp only[Bl,Bz]at hb)<;>(try simp only[hb])<;>(refine BJ ?_)))
   all_goals exact AL
  have hbad:((((!L && !(decide ((c:Int)>=48)&&decide ((c:Int)<=57)))&&((c:Int) != 45))&&((c:Int) != 95))&&((c:Int) != 46)) = !(C4 c):=by
   subst hL;rw[F7];simp only[C4,Ba,Bl,I8,Bool.and_eq_false_iff,IT,bne_iff_ne,ne_eq,Br];omega
  rw[hbad];refine AN ?_
  (refine B1 (λhb=>?_) (λhb=>?_))<;>(try simp only[Bl,Bz]at hb)<;>(try simp only[hb])
  ·have hbf:C4 c=false:=by simpa using hb
   refine fR 600 ?_;refine Ad ?_;refine AJ ?_ AA.out;have hb8:C4 (s.get! p).toNat=false:=by
    by_cases hlow:(s.get! p).toNat<128
    ·rw[Zk s p hlow]at hc
     rw[show(s.get! p).toNat=c from hc];exact hbf
    ·unfold C4;simp;omega
   have:B4 s.data.toList=false:=by
    unfold B4
    have:s.data.toList.all (λb=>C4 b.toNat)=false:=by
     rw[List.all_eq_false];exact⟨_,Ay (iO s p hlt),by rw[hb8];simp⟩
    rw[this];rfl
   rw[this]
  ·have hbt:C4 c=true:=by simpa using hb
   have hclt:c<128:=by
    unfold C4 at hbt;simp only[JC,Ba,G4,EQ]at hbt;omega
   have hlow:(s.get! p).toNat<128:=by
    apply DB;intro h
    have:=oB s p h
    omega
   rw[Zk s p hlow]at hc hIt;refine Aj ?_;refine⟨(p+1,n+60),⟨hIt,hlt,?_⟩,by dsimp only;omega,AL⟩;rw[D8,iO s p hlt,KY,hall];simp;rw[show(s.get! p).toNat=c from hc];exact hbt
 ·have hpe:p=s.size:=by omega
  refine CL ?_;refine AC.seq ?_;refine AN ?_;refine CK ?_;refine D6 ⟨[(2,Ai (decide (1<=(s.size:Int))&&decide ((s.size:Int)<=24)))],[],n+60⟩ (Ao 700 ?_) ?_
  ·repeat'(first|(refine BK (by exact CF) ?_;refine BJ ?_)|((refine B1 (λhb=>?_) (λhb=>?_))<;>(try simp only[Bl,Bz]at hb)<;>(try simp only[hb])<;>(refine BJ ?_)))
   all_goals exact AL
  refine Ad ?_;refine AJ ?_ AA.out;have hall':s.data.toList.all (λb=>C4 b.toNat)=true:=by rw[<-hall,hpe,<-hsz,C6]
  unfold B4;rw[hall',Gc,hsz];have e:(decide (1<=(s.size:Int))&&decide ((s.size:Int)<=24))=(decide (1<=s.size)&&decide (s.size<=24)):=by
   rw[F7];simp only[Ba,G4];omega
  rw[<-e]
def Vq:Value->Value->Bool
 | .int .i64 a,.int .i64 b=>a==b
 | .string a,.string b=>a.data.toList==b.data.toList
 | .bool a,.bool b=>a==b
 | .slice none 0 0,.slice none 0 0=>true
 |_,_=>false
theorem oM {a b:Value}(h:Vq a b=true):a=b:=by
 unfold Vq at h;split at h
 ·rw[eq_of_beq h]
 ·rename_i a b
  have:=eq_of_beq h
  congr 1
  exact ByteArray.ext (Array.toList_inj.1 this)
 ·rw[eq_of_beq h]
 ·rfl
 ·cases h
def Ln (f:D->D->Bool):List D->List D->Bool
 | [],[]=>true
 |a::l,b::m=>f a b&&Ln f l m
 |_,_=>false
theorem R6 {f:D->D->Bool}(hf:∀a b,f a b=true->a=b):∀ {l m:List D},Ln f l m=true->l=m
 | [],[],_=>rfl
 |a::l,b::m,h=>by
  simp only[Ln,Ba]at h;rw[hf a b h.1,R6 hf h.2]
 | [],_::_,h=>by simp[Ln]at h
 |_::_,[],h=>by simp[Ln]at h
def OF:Nat->D->D->Bool
 | 0,_,_=>false
 |n+1,a,b=>match a,b with
  | .prim a,.prim b=>Vq a b
  | .agg l,.agg m=>Ln (OF n) l m
  | .sl x y l,.sl x' y' m=>(x==x')&&Nat.beq y y'&&Ln (OF n) l m
  |_,_=>false
theorem U7:∀(n:Nat) (a b:D),OF n a b=true->a=b
 | 0,_,_,h=>by simp[OF]at h
 |n+1,a,b,h=>by
  unfold OF at h;split at h
  ·rw[oM h]
  ·rw[R6 (U7 n) h]
  ·simp only[Ba]at h
   rw[eq_of_beq h.1.1,CA h.1.2,R6 (U7 n) h.2]
  ·cases h
def dig:Nat->Nat->List UInt8
 | 0,_=>[]
 |k+1,u=>match Nat.blt u 10 with
  |true=>[UInt8.ofNat (48+u)]
  |false=>dig k (u/10)++[UInt8.ofNat (48+u%10)]
def TH (t:Nat)(name:String):Option Nat:=match Nat.beq t 83 with
 |true=>match decide (name = "Cmp")with
  |true=>some 234
  |false=>none
 |false=>none
theorem eF (t:Nat)(name:String)(f:Nat)(h:TH t name=some f)(v:Value)(w:World):(method (C0.P.types.size+Made.depth) t v name).run C0.P w=.ok (f,v) w:=by
 unfold TH at h;split at h<;>try(cases h;done)
 rename_i ht;split at h<;>try(cases h;done)
 rename_i hn;obtain rfl:=CA ht;obtain rfl:=DJ hn;cases h
 kernel_rfl
def d9q:Aw:=⟨.arr 256 1 false,256,256,true,.agg (Array.replicate 256 (.bool false))⟩
noncomputable def QO (t:Nat):Option Aw:=match Nat.beq t 314 with
 |true=>some d9q
 |false=>QM.get t
theorem WL:Cx C0.P QO:=λt i h=>by
 unfold QO at h;split at h
 ·rename_i ht
  obtain rfl:=CA ht;cases h
  kernel_rfl
 ·exact jC t i h
set_option maxHeartbeats 2000000
def Bj (c:UInt8):Bool:=Nat.ble 48 c.toNat&&Nat.ble c.toNat 57
def Hu:D:=.agg ((List.range 256).map λi=>Ai (Nat.ble 48 i&&Nat.ble i 57))
abbrev TR:List UInt8:=[48,49,50,51,52,53,54,55,56,57]
noncomputable def X4:EV:=⟨QO,Mx.get,OG.get,λ_=>false,λ_ _=>none,λ_ _=>none,Ld⟩
theorem WH:FX C0 X4:=⟨WL,Sw,Kh,λ_ _ _ h=>by simp[X4]at h,by kernel_rfl,λ_ _ _ h=>by simp[X4]at h,RR⟩
theorem w4:Dd C0 X4:=WH.w
theorem ke:AK C0 291 [str (sb TR)] (.tup [Hu,Ai true]):=Px WH 1000 40 (by kernel_rfl)
def WW (o:Option D)(b:Bool):Bool:=match o with
 |some (.prim (.bool c))=>c==b
 |_=>false
theorem mQ {o:Option D}{b:Bool}(h:WW o b=true):o=some (Ai b):=by
 unfold WW at h;split at h
 ·rw[EQ]at h;subst h;rfl
 ·cases h
theorem jW:((List.range 256).all λc=>WW ((Gg X4 1000 40).1 296 [.pptr Hu,.prim (.int .u8 (c:Nat))]) (Nat.ble 48 c&&Nat.ble c 57))=true:=by kernel_rfl
theorem W4 (c:UInt8):AK C0 296 [.pptr Hu,.prim (.int .u8 (c.toNat:Nat))] (Ai (Bj c)):=by
 refine Px WH 1000 40 ?_;have h:=CY.1 jW c.toNat (List.mem_range.2 c.toNat_lt);exact mQ h
instance:AO Hu:=⟨λc hc=>by
 change c∈(List.range 256).map (λi=>Ai (Nat.ble 48 i&&Nat.ble i 57))at hc;obtain⟨i,_,rfl⟩:=By.1 hc;exact .prim _⟩
def Gv (l:List UInt8):List UInt8:=(l.reverse.dropWhile Bj).reverse
theorem kt (m:List UInt8)(c:UInt8):Gv (m++[c])=if Bj c then Gv m else m++[c]:=by
 unfold Gv;rw[List.reverse_append,List.reverse_singleton,List.singleton_append,N8];split
 ·rfl
 ·rw[List.reverse_cons,List.reverse_reverse]
theorem ol (l:List UInt8):((Gv l).dropWhile Bj=[])↔l.all Bj=true:=by
 constructor
 ·intro h
  have h1:∀m:List UInt8,m.dropWhile Bj=[]->m.all Bj=true:=λm=>by
   induction m with
   |nil=>intro _;rfl
   |cons c m ih=>
    intro hm;rw[N8]at hm;split at hm
    ·rename_i hc
     rw[GN,hc,ih hm];rfl
    ·cases hm
  have h2:(l.reverse.dropWhile Bj).all Bj=true:=by
   have:=h1 _ h
   unfold Gv at this
   rwa [List.all_reverse]at this
  have h3:∀m:List UInt8,(m.dropWhile Bj).all Bj=true->m.all Bj=true:=λm=>by
   induction m with
   |nil=>intro _;rfl
   |cons c m ih=>
    intro hm;rw[N8]at hm;split at hm
    ·rename_i hc
     rw[GN,hc,ih hm];rfl
    ·exact hm
  have:=h3 _ h2
  rwa [List.all_reverse]at this
 ·intro h
  have h1:∀m:List UInt8,m.all Bj=true->m.dropWhile Bj=[]:=λm=>by
   induction m with
   |nil=>intro _;rfl
   |cons c m ih=>
    intro hm;rw[GN,Ba]at hm;rw[N8,AH hm.1];exact ih hm.2
  have hx:=h1 l.reverse (by rw[List.all_reverse];exact h);unfold Gv;rw[hx];rfl
theorem ji (l:List UInt8)(hl:l.length<=1000000000):AK C0 292 [str (sb l),.pptr Hu] (str (sb (l.dropWhile Bj))):=by
 refine AZ.walk w1 di rfl λF=>?_
 have hps:AO Hu:=AI;have hcc:=W4;generalize Hu=sd at*;refine sR 0 ?_;refine AC.seq ?_;refine AC.block ?_;refine AC.loop (α:=List UInt8×Nat) (λp=>⟨[(0,str (sb p.1)),(1,.pptr sd)],[],p.2⟩) (λp=>p.1.length) (λp=>p.1.dropWhile Bj=l.dropWhile Bj/\p.1.length<=l.length) (l,_) ⟨rfl,Al _⟩ AL ?_;rintro⟨m,n⟩ F ⟨h1,h2⟩;dsimp only at h1 h2⊢;refine AC.seq ?_;refine AC.seq ?_;cases m with
 |nil=>
  have e1:decide (((sb []).size:Int)>0)=false:=rfl;refine KX w1 100 (by kernel_rfl) ?_;refine AW e1 ?_;refine AN ?_;refine CK ?_;refine sR 400 ?_;refine Ad ?_;exact AJ (by rw[<-h1];rfl) AA.out
 |cons c m=>
  have hsz:=Cd (c::m);have e1:decide (((sb (c::m)).size:Int)>0)=true:=Au (by rw[hsz,Bq];omega);have hx:(((sb (c::m)).data.toList.getD ((0:Int)).toNat 0).toNat:Int)=(c.toNat:Int):=rfl;have b1:(0:Int)<((sb (c::m)).size:Int):=by rw[hsz,Bq];omega
  have b2:(1:Int)<=((sb (c::m)).size:Int):=by omega
  have e3:(sb (c::m)).extract ((1:Int)).toNat (sb (c::m)).size=sb m:=by
   rw[Em,hsz,Ch (Al _)];rfl
  have cc:=hcc c;refine KX w1 100 (by kernel_rfl) ?_;refine AW e1 ?_;refine AN ?_;refine Aj ?_;refine AC.block ?_;refine AC.seq ?_;refine sZ 200 ?_;refine AW hx ?_;refine cI cc ?_;rcases hb:Bj c with _|_
  ·refine AN ?_
   refine CK ?_;refine sR 400 ?_;refine Ad ?_;refine AJ ?_ AA.out;rw[<-h1,N8,AG (by rw[hb];simp)]
  ·refine AN ?_
   refine Aj ?_;refine KX w1 300 (by kernel_rfl) ?_;refine AW e3 ?_;refine⟨(m,_),⟨?_,?_⟩,?_,AL⟩
   ·rw[<-h1,N8,AH hb]
   ·rw[Bq]at h2;dsimp only;omega
   ·show m.length<m.length+1;omega
theorem je (l:List UInt8)(hl:l.length<=1000000000):AK C0 293 [str (sb l),.pptr Hu] (str (sb (Gv l))):=by
 refine AZ.walk w1 dj rfl λF=>?_
 have hps:AO Hu:=AI;have hcc:=W4;generalize Hu=sd at*;refine sR 0 ?_;refine AC.seq ?_;refine AC.block ?_;refine AC.loop (α:=List UInt8×Nat) (λp=>⟨[(0,str (sb p.1)),(1,.pptr sd)],[],p.2⟩) (λp=>p.1.length) (λp=>Gv p.1=Gv l/\p.1.length<=l.length) (l,_) ⟨rfl,Al _⟩ AL ?_;rintro⟨m,n⟩ F ⟨h1,h2⟩;dsimp only at h1 h2⊢;refine AC.seq ?_;refine AC.seq ?_;rcases S7 m with rfl|⟨m,c,rfl⟩
 ·have e1:decide (((sb []).size:Int)>0)=false:=rfl
  refine KX w1 100 (by kernel_rfl) ?_;refine AW e1 ?_;refine AN ?_;refine CK ?_;refine sR 400 ?_;refine Ad ?_;exact AJ (by rw[<-h1];rfl) AA.out
 ·rw[S6]at h1 h2⊢
  have hsz:=Cd (m++[c]);rw[Bp,GM]at hsz h2;have e1:decide (((sb (m++[c])).size:Int)>0)=true:=Au (by rw[hsz];omega);have wk1:IntKind.i64.wrap (((sb (m++[c])).size:Int)-1)=(m.length:Int):=by rw[hsz,wI];omega
  have hx:(((sb (m++[c])).data.toList.getD (((m.length:Nat):Int)).toNat 0).toNat:Int)=(c.toNat:Int):=by
   show(((m++[c]).getD m.length 0).toNat:Int)=_;simp
  have b1:((m.length:Nat):Int)<((sb (m++[c])).size:Int):=by rw[hsz];omega
  have e3:(sb (m++[c])).extract 0 (((m.length:Nat):Int)).toNat=sb m:=by
   rw[Em];simp
  have cc:=hcc c;have ht:=kt m c;refine KX w1 100 (by kernel_rfl) ?_;refine AW e1 ?_;refine AN ?_;refine Aj ?_;refine AC.block ?_;refine AC.seq ?_;refine sZ 200 ?_;refine AW (Ab wk1 hx) ?_;refine cI cc ?_;rcases hb:Bj c with _|_
  ·rw[AG (by rw[hb];simp)]at ht
   refine AN ?_;refine CK ?_;refine sR 400 ?_;refine Ad ?_;exact AJ (by rw[<-h1,ht]) AA.out
  ·rw[AH hb]at ht
   refine AN ?_;refine Aj ?_;refine KX w1 300 (by kernel_rfl) ?_;refine AW (Ab wk1 e3) ?_;refine⟨(m,_),⟨by rw[<-h1,ht],by dsimp only;omega⟩,?_,AL⟩;dsimp only;rw[Bp,GM];omega
namespace TrimW
theorem w1:Dd C0 X4:=w4
theorem trim_ok (l:List UInt8)(hl:l.length<=1000000000):AK C0 285 [str (sb l),str (sb TR)] (str (sb ((Gv l).dropWhile Bj))):=by
 refine AZ.walk w1 dh rfl λF=>?_
 have cm:=ke;have c1:=je l hl;have hlr:(Gv l).length<=1000000000:=by
  unfold Gv;rw[List.length_reverse];exact BT (List.dropWhile_sublist _).length_le (by rw[List.length_reverse];exact hl)
 have c2:=ji (Gv l) hlr;have hps:AO Hu:=AI;have eS:=Ep l [];have e2:(((sb TR).size:Int)==1)=false:=rfl;have e4:BI (sb TR) (sb [])=false:=by rw[Ep];exact Av (by simp)
 have hfit:EY true 256 Hu:=by
  have h:((List.range 256).map λi=>Ai (Nat.ble 48 i&&Nat.ble i 57)).length=256:=by rw[Ag,List.length_range]
  have:=EY.agg (ds:=(List.range 256).map λi=>Ai (Nat.ble 48 i&&Nat.ble i 57))
  rw[h]at this;exact this
 refine sR 0 ?_
 by_cases h0:l=[]
 ·subst h0
  have eS':BI (sb []) (sb [])=true:=by rw[Ep];exact Au rfl
  refine AC.seq ?_;refine sZ 100 ?_;refine AW eS' ?_;refine AD (Ab eS' kT) ?_;refine AN ?_;refine sR 200 ?_;refine Ad ?_;exact AJ rfl AA.out
 ·rw[Av h0]at eS
  refine AC.seq ?_;refine sZ 100 ?_;refine AW eS ?_;refine AD (Ar eS e4 kF) ?_;refine AD (Ar eS e4 kF) ?_;refine AN ?_;refine Aj ?_;refine AC.seq ?_;refine sZ 300 ?_;refine AW e2 ?_;refine AD e2 ?_;refine AD e2 ?_;refine AN ?_;refine Aj ?_;refine AC.seq ?_;refine sR 500 ?_;refine A7.same _ cm AI ?_;refine BJ ?_;generalize Hu=sd at*
  repeat(refine ET rfl rfl ?_;refine In (λ_ _=>rfl) ?_)
  refine Oe (BK (by repeat'(first|exact hfit|refine BK ?_ ?_|exact CF)) ?_);refine BJ ?_;refine sR 600 ?_;refine AN ?_;refine sR 700 ?_;refine A7.own _ (Jk c1 rfl ?_ AI (KQ.prim _)) ?_
  ·intro i x y hx hy
   match i with
   | 0=>simp at hx hy;subst hx;subst hy;exact DO.refl _ _
   | 1=>simp at hx hy;subst hx;subst hy;exact DO.ptr rfl rfl rfl rfl
   |i+2=>simp at hx
  rintro d H' n' ⟨rfl,rfl,rfl⟩;refine BO ?_;refine A7.own _ (Jk c2 rfl ?_ AI (KQ.prim _)) ?_
  ·intro i x y hx hy
   match i with
   | 0=>simp at hx hy;subst hx;subst hy;exact DO.refl _ _
   | 1=>simp at hx hy;subst hx;subst hy;exact DO.ptr rfl rfl rfl rfl
   |i+2=>simp at hx
  rintro d H' n' ⟨rfl,rfl,rfl⟩;refine BO ?_;refine Ad ?_;exact AJ rfl AA.out
end TrimW
def HO (a:Nat)(l:List UInt8):Nat:=l.foldl (λa c=>a*10+(c.toNat-48)) a
def dv (l:List UInt8):Nat:=HO 0 l
theorem am (l:List UInt8):∀a,HO a l=a*10^l.length+dv l:=by
 induction l with
 |nil=>intro a;simp[HO,dv]
 |cons c l ih=>
  intro a;have h1:∀b,HO b (c::l)=HO (b*10+(c.toNat-48)) l:=λb=>rfl
  have h2:dv (c::l)=HO (0*10+(c.toNat-48)) l:=rfl;rw[h1,h2,ih,ih (0*10+(c.toNat-48)),Bq,CQ];rw[Bv,HS,BZ,Bx,BY 10];omega
theorem OX (l m:List UInt8):dv (l++m)=dv l*10^m.length+dv m:=by
 have:dv (l++m)=HO (dv l) m:=by unfold dv HO;rw[List.foldl_append]
 rw[this,am]
theorem ja (l:List UInt8):∀a,l.all Bj=true->Lib.decFrom a l=some (HO a l):=by
 induction l with
 |nil=>intro a _;rfl
 |cons c l ih=>
  intro a h;rw[GN,Ba]at h;have hd:Lib.digitVal c=some (c.toNat-48):=by
   have h1:=h.1;unfold Bj at h1;rw[Ba]at h1;unfold Lib.digitVal;rw[AH ⟨Dj h1.1,Dj h1.2⟩]
  rw[Lib.decFrom,hd];exact ih _ h.2
theorem Lw {c:UInt8}(h:Bj c=true):48<=c.toNat/\c.toNat<=57:=by
 unfold Bj at h;rw[Ba]at h;exact⟨Dj h.1,Dj h.2⟩
theorem ni {l:List UInt8}(h0:l≠[])(h:l.all Bj=true):Lib.atoi l=some (dv l:Int):=by
 cases l with
 |nil=>exact Af rfl h0
 |cons c l=>
  have hc:Bj c=true:=by rw[GN,Ba]at h;exact h.1
  obtain⟨c1,c2⟩:=Lw hc;have e1:(c==45)=false:=by
   rw[Br];intro hh;subst hh;simp at c1
  have e2:(c==43)=false:=by
   rw[Br];intro hh;subst hh;simp at c1
  unfold Lib.atoi;dsimp only;rw[e1,e2];simp only[Gd,if_false];unfold Lib.decNat;simp only[List.isEmpty_cons,Gd,if_false];rw[ja _ _ h];rfl
theorem Gr (l:List UInt8)(h:l.all Bj=true):dv l<10^l.length:=by
 induction l with
 |nil=>decide
 |cons c l ih=>
  rw[GN,Ba]at h;have h1:dv (c::l)=HO (0*10+(c.toNat-48)) l:=rfl;have h2:=ih h.2;obtain⟨c1,c2⟩:=Lw h.1;rw[h1,am,HS,BZ,Bq,CQ,BY _ 10];have h3:(c.toNat-48)*10^l.length<=9*10^l.length:=CP _ (by omega);omega
def WX (o:Option D)(z:Int):Bool:=match o with
 |some (.agg [.prim (.int .i64 a),.prim (.slice none 0 0)])=>a==z
 |_=>false
theorem mR {o:Option D}{z:Int}(h:WX o z=true):o=some (DL z):=by
 unfold WX at h;split at h
 ·rw[EQ]at h;subst h;rfl
 ·cases h
theorem qE:((List.range 19).all λk=>WX ((Gg X1 1000 60).1 156 [DL 10,i64 (k:Nat)]) ((10^k:Nat):Int))=true:=by kernel_rfl
theorem wY (k:Nat)(h:k<19):AK C0 156 [DL 10,i64 k] (DL ((10^k:Nat):Int)):=by
 refine Px Dv 1000 60 ?_;exact mR (CY.1 qE k (List.mem_range.2 h))
theorem WB {n:Nat}(h:n<9223372036854775808):DL (n:Int)=(AX (n:Int)).D:=by
 rw[KH ⟨by omega,by omega⟩];rfl
theorem zp (a b:Nat)(ha:(Ae a).length<1000000)(hb:(Ae b).length<1000000):AK C0 122 [(AX (a:Int)).D,(AX (b:Int)).D] (AX ((a+b:Nat):Int)).D:=by
 have:=PS (AX (a:Int)) (AX (b:Int)) (Cv _) (Cv _) (Ik ha) (Ik hb)
 have e:EZ (AX (a:Int)) (AX (b:Int))=AX ((a+b:Nat):Int):=by
  have h1:=NO (AX (a:Int)) (AX (b:Int));rw[EA,EA]at h1;rw[PT (NC _ _) (by rw[h1];omega),h1]
  congr 1
 rw[e]at this;exact this
theorem M3 {n k:Nat}(h:n<10^k):(Ae n).length<=k:=G9 (Co h (OA (by decide) k))
def rv (l:List UInt8):Int:=if Dh l then -(dv (Bs l):Int)else dv (Bs l)
theorem qF (k:Nat)(h:k<19):AK C0 156 [DL 10,i64 k] (AX ((10^k:Nat):Int)).D:=by
 have:=wY k h
 have h2:10^k<9223372036854775808:=DH (FO (by decide) (show k<=18 by omega)) (by decide)
 rwa [WB h2]at this
theorem v6 (n:Nat)(h:n<9223372036854775808):AK C0 82 [i64 n] (AX (n:Int)).D:=by
 have:=Pc (n:Int)
 rwa [WB h]at this
theorem RW (l:List UInt8)(hd:(Bs l).all Bj=true)(hl:l.length<=100000):AK C0 119 [str (sb l)] (AX (rv l)).D:=by
 refine AZ.walk w1 bp rfl λF=>?_
 have c1:=jT l (by omega);have c2:=Ta l (by omega);have hml:(Bs l).length<=100000:=by
  unfold Bs;split
  ·rw[Dp];omega
  ·exact hl
 unfold rv;generalize hm0:Bs l=m0 at*;generalize Dh l=ng at*;generalize sb l=sl at*;have ez:DL 0=(AX ((0:Nat):Int)).D:=WB (by decide);have hpm:∀n:Nat,AA (AX (n:Int)).w:=λn=>AI
 refine sR 0 ?_;refine sR 100 ?_;refine cI c1 ?_;refine sR 200 ?_;refine cI c2 ?_;refine sR 300 ?_;refine DE (α:=Nat) (λn=>⟨[(2,.optr 0 0 2 0 0),(3,Ai ng),(4,.optr 301 8 2 0 0)],[⟨301,8,81,2,[(AX (dv m0:Int)).D]⟩,⟨0,0,81,2,[DL 0]⟩],n⟩) (λ_=>True) ?_ ?_
 ·refine AC.block ?_
  refine Gb (α:=List UInt8×Nat×Nat) (λp=>⟨[(0,str (sb p.1)),(2,.optr 0 0 2 0 0),(3,Ai ng),(4,.optr 301 8 2 0 0)],[⟨301,8,81,2,[(AX (p.2.1:Int)).D]⟩,⟨0,0,81,2,[DL 0]⟩],p.2.2⟩) (λp=>p.1.length)
   (λp F'=>F'=F/\p.1.all Bj=true/\p.1.length<=m0.length/\p.2.1<10^(m0.length-p.1.length)/\dv m0=p.2.1*10^p.1.length+dv p.1) (m0,0,20) ⟨rfl,hd,Al _,by simp,by simp⟩ (by rw[<-ez];exact AL) ?_
  rintro⟨m,A,n⟩ F' ⟨rfl,h1,h2,h3,h4⟩;dsimp only at h1 h2 h3 h4⊢;refine AC.seq ?_;refine AC.seq ?_
  by_cases hm:m=[]
  ·subst hm
   have e1:decide (((sb []).size:Int)>0)=false:=rfl;have hA:dv m0=A:=by simpa[dv,HO]using h4
   rw[hA];refine Ao 400 ?_;refine AW e1 ?_;refine AN ?_;refine CK ?_;exact⟨rfl,_,trivial,AL⟩
  ·have hm1:0<m.length:=List.length_pos_iff.2 hm
   have hsz:=Cd m;obtain⟨k,hk⟩:∃k,k=min 18 m.length:=⟨_,rfl⟩
   have e1:decide (((sb m).size:Int)>0)=true:=Au (by rw[hsz];omega);have ek:min (18:Int) ((sb m).size:Int)=(k:Int):=by rw[hsz];omega
   have b1:(k:Int)<=((sb m).size:Int):=by rw[hsz];omega
   have e22:(sb m).extract 0 ((k:Int)).toNat=sb (m.take k):=by rw[Em];rfl
   have e36:(sb m).extract ((k:Int)).toNat (sb m).size=sb (m.drop k):=by
    rw[Em,hsz,Ch (Al _)];rfl
   have htk:(m.take k).all Bj=true:=CY.2 λc hc=>CY.1 h1 c (JA hc)
   have hdk:(m.drop k).all Bj=true:=CY.2 λc hc=>CY.1 h1 c (Li hc)
   have hlk:(m.take k).length=k:=by rw[Bi];omega
   have hv:=Gr _ htk;rw[hlk]at hv;have h18:10^k<=10^18:=FO (by decide) (by omega);have ca:=ph (sb (m.take k)) (dv (m.take k):Int) (by rw[Cd,hlk];omega) (ni (by intro h;change m.take k=[]at h;rw[h]at hlk;simp at hlk;omega) htk);have hval:dv m=dv (m.take k)*10^(m.drop k).length+dv (m.drop k):=by
    conv=>lhs;rw[<-Fj k m]
    exact OX _ _
   generalize dv (m.take k)=v at*;have hAl:(Ae A).length<=100000:=BT (M3 h3) (by omega);have h10:(Ae (10^k)).length<=19:=M3 (k:=19) (Nat.pow_lt_pow_right (by decide) (by omega));have hmul:=L1 A (10^k);have cp:=qF k (by omega);have c3:=WS A (10^k) (by omega) (by omega);have cv:=v6 v (by omega);have hvl:(Ae v).length<=19:=M3 (k:=19) (Co hv (FO (by decide) (by omega)));have c4:=zp (A*10^k) v (by omega) (by omega);refine Ao 400 ?_;refine AW e1 ?_;refine AN ?_;refine Aj ?_;refine AC.block ?_;refine sZ 500 ?_;refine AW ek ?_;refine sZ 600 ?_;refine AW e22 ?_;refine cI ca ?_;refine AC.seq ?_;refine CM 700 [0,1,2,3,4,5] [6,7,8] ?_;refine BO ?_;refine Bb.same _ (Pc 10) AI ?_;refine BO ?_;refine Bb.same _ (cp) AI ?_;refine BO ?_;refine Bb.same _ (c3) AI ?_;refine BO ?_;refine cI cv ?_;refine cI c4 ?_;refine Ao 800 ?_;refine AW e36 ?_;refine⟨(m.drop k,A*10^k+v,_),⟨trivial,hdk,?_,?_,?_⟩,?_,AL⟩
   ·dsimp only;rw[Dp];omega
   ·dsimp only
    rw[Dp,show m0.length-(m.length-k)=(m0.length-m.length)+k by omega,Ge];have h5:(A+1)*10^k<=10^(m0.length-m.length)*10^k:=CP _ h3;rw[Bv]at h5;omega
   ·dsimp only
    rw[h4,hval,Dp];have h6:10^m.length=10^k*10^(m.length-k):=by rw[<-Ge];congr 1;omega
    rw[h6,Bv,Bx];omega
   ·dsimp only;rw[Dp];omega
 rintro n -;have hAl:(Ae (dv m0)).length<=100000:=BT (M3 (Gr _ hd)) hml;have cn:=Pb (AX (dv m0:Int)) (Cv _) (Ik (by omega));rw[EA]at cn;have hpn:AA (AX (-(dv m0:Int))).w:=AI;refine AC.seq ?_;refine sR 900 ?_;cases ng with
 |true=>
  rw[AH rfl];refine AN ?_;refine sR 1000 ?_;refine cI cn ?_;refine Ad ?_;exact AJ rfl AA.out
 |false=>
  rw[AG (by simp)];refine AN ?_;refine Aj ?_;refine sR 1100 ?_;refine Ad ?_;exact AJ rfl AA.out
def LO (l:List UInt8):Bool:=!decide (l=[])&&l.all Bj
def DR (l:List UInt8):Bool:=LO l&&(decide (l=[48]) || !decide (l.head? = some 48))
def B6 (l:List UInt8):List UInt8:=l.take (BC l)
def Be (l:List UInt8):List UInt8:=l.drop (BC l+1)
def C5 (l:List UInt8):Bool:=decide (BC l<l.length)
def B9 (l:List UInt8):List UInt8:=Bs (B6 l)
def J7 (l:List UInt8):Bool:=!DR (B9 l)||decide (B6 l=[45,48])||(C5 l&&(!DR (Be l)||decide (Be l=[48])||decide (Be l=[49])))
def Cj (l:List UInt8):Nat:=if J7 l then 1 else if 600<(B9 l).length\/600<(Be l).length then 4
 else if C5 l=true/\Nat.gcd (dv (B9 l)) (dv (Be l))≠1 then 1 else 0
theorem Kt {l:List UInt8}(h:DR l=true):l≠[]/\l.all Bj=true:=by
 unfold DR LO at h;rw[Ba,Ba]at h;exact⟨by have:=h.1.1;simpa using this,h.1.2⟩
theorem Tj {l:List UInt8}(h:l.all Bj=true):Dh l=false:=by
 cases l with
 |nil=>rfl
 |cons c l=>
  rw[GN,Ba]at h;obtain⟨c1,c2⟩:=Lw h.1;show(c==45)=false;rw[Br];intro hh;subst hh;simp at c1
theorem Kq {l:List UInt8}(h:l.all Bj=true):Bs l=l:=by unfold Bs;rw[Tj h];rfl
theorem NU {l:List UInt8}(h:l.all Bj=true):rv l=(dv l:Int):=by
 unfold rv;rw[Tj h,Kq h];rfl
theorem lT (l:List UInt8)(hl:l.length<=1000000000):AK C0 271 [str (sb l)] (Ai (LO l)):=by
 refine AZ.walk w1 dg rfl λF=>?_
 have ct:=TrimW.trim_ok l hl;have eS:=Ep l [];have eT:=Ep ((Gv l).dropWhile Bj) [];have hall:decide ((Gv l).dropWhile Bj=[])=l.all Bj:=by
  rw[F7,decide_eq_true_iff];exact ol l
 rw[hall]at eT;unfold LO;rw[<-eS];generalize hb:BI (sb l) (sb [])=b at*;refine sR 0 ?_;refine AC.seq ?_;cases b with
 |true=>
  have e1:(!BI (sb l) (sb []))=false:=by rw[hb];rfl
  refine Ao 100 ?_;refine AW e1 ?_;refine AD e1 ?_;refine Ad ?_;exact AJ rfl AA.out
 |false=>
  have e1:(!BI (sb l) (sb []))=true:=by rw[hb];rfl
  refine Ao 100 ?_;refine AW e1 ?_;refine AD e1 ?_;refine Ms e1 ?_;refine A7.same _ ct AI ?_;refine AD (Ab e1 eT) ?_;refine Ad ?_;exact AJ rfl AA.out
theorem ZD (l:List UInt8)(hl:l.length<=1000000000):AK C0 232 [str (sb l)] (Ai (DR l)):=by
 refine AZ.walk w1 b6 rfl λF=>?_
 have cd:=lT l hl;have e0:=Ep l [48];unfold DR;refine sR 0 ?_;refine sR 100 ?_;refine cI cd ?_;rcases hd:LO l with _|_
 ·refine AD (Ab kT Gd) ?_
  refine AD (Ab kT Gd) ?_;refine Ad ?_;exact AJ rfl AA.out
 ·obtain⟨c,m,rfl⟩:∃c m,l=c::m:=by
   cases l with
   |nil=>cases hd
   |cons c m=>exact⟨c,m,rfl⟩
  have hsz:=Cd (c::m);rw[Bq]at hsz;have hx:(((sb (c::m)).data.toList.getD ((0:Int)).toNat 0).toNat:Int)=(c.toNat:Int):=rfl;have b0:(0:Int)<((sb (c::m)).size:Int):=by rw[hsz];omega
  by_cases h0:(c::m)=[48]
  ·rw[Au h0]at e0⊢
   refine AD e0 ?_;refine AD (Ab e0 kT) ?_;refine AD (Ab e0 kT) ?_;refine Ad ?_;exact AJ rfl AA.out
  ·rw[Av h0]at e0⊢
   have e1:((c.toNat:Int) != 48) = !decide (c=48):=by
    rw[F7];simp only[bne_iff_ne,ne_eq,Bl,IT];constructor
    ·intro h hc;subst hc;exact h rfl
    ·intro h hc
     apply h
     have:c.toNat=48:=by omega
     exact UInt8.toNat_inj.1 this
   refine AD e0 ?_;refine AD (BS e0 kF hx e1) ?_;refine AD (BS e0 kF hx e1) ?_;refine Ad ?_;exact AJ (by simp) AA.out
theorem rP (n:Nat):AK C0 233 [(AX (n:Int)).D] (.tup [i64 (AX (n:Int)).s,Ai (decide (Sm (n:Int)))]):=by
 refine AZ.walk w1 dW rfl λF=>?_
 by_cases hs:Sm (n:Int)
 ·obtain⟨a1,a2⟩:=Sq hs
  dsimp only[GI.D];rw[a1,a2,Au hs];refine sR 0 ?_;refine AC.seq ?_;refine CM 100 [0,1,2,3,4,5] [6] ?_;refine BO ?_;refine Ad ?_;exact AJ rfl AA.out
 ·obtain⟨a1,a2,a3⟩:=WQ hs
  dsimp only[GI.D];rw[a1,a2,Av hs];generalize(Ae n).map AS=l at*;refine sR 0 ?_;refine AC.seq ?_;refine CM 100 [0,1,2,3,4,5] [6] ?_;refine AW (Ar (@ne_eq (List D)) a3 Es) ?_;refine Ad ?_;exact AJ rfl AA.out
def Gs (l:List UInt8):GF:=⟨AX (rv (B6 l)),if C5 l then dv (Be l)else 1⟩
theorem qL (l:List UInt8)(hl:l.length<=100000)(h1:(B9 l).all Bj=true)(h2:C5 l=true->(Be l).all Bj=true):AK C0 78 [str (sb l)] (Gs l).D:=by
 refine AZ.walk w1 gT rfl λF=>?_
 have cc:=aj l (by omega);have r1:=RW (B6 l) h1 (by unfold B6;rw[Bi];omega);have hpw:AA (AX (rv (B6 l))).w:=AI;unfold Gs;change AK C0 _ _ (.tup [str (sb (B6 l)),str (sb (Be l)),Ai (C5 l)])at cc;rcases hs:C5 l with _|_
 ·rw[hs]at cc
  have wg:=aQ (AX (rv (B6 l)));have hp1:AA (AX ((1:Nat):Int)).w:=AI;rw[AG (by simp)];dsimp only[GI.D,GF.D]at*;refine sR 0 ?_;refine sR 100 ?_;refine cI cc ?_;refine AC.seq ?_;refine sR 200 ?_;refine AN ?_;refine sR 300 ?_;refine cI r1 ?_;refine cI wg ?_;refine Ad ?_;exact AJ rfl AA.out
 ·rw[hs]at cc
  have hd:=h2 hs;have r2:=RW (Be l) (by rw[Kq hd];exact hd) (by unfold Be;rw[Dp];omega);rw[NU hd]at r2;have hp1:AA (AX (dv (Be l):Int)).w:=AI;rw[AH rfl];dsimp only[GI.D,GF.D]at*;refine sR 0 ?_;refine sR 100 ?_;refine cI cc ?_;refine AC.seq ?_;refine sR 200 ?_;refine AN ?_;refine Aj ?_;refine sR 400 ?_;refine cI r1 ?_;refine cI r2 ?_;refine Ad ?_;exact AJ rfl AA.out
set_option maxHeartbeats 4000000
theorem vY (g:Nat):((g:Int) != 1)=decide (g≠1):=by
 rw[F7,bne_iff_ne,decide_eq_true_iff];omega
theorem nm (l:List UInt8)(hl:l.length<=100000):AK C0 191 [str (sb l)] (i64 (Cj l)):=by
 refine AZ.walk w1 bU rfl λF=>?_
 have cc:=aj l (by omega);change AK C0 _ _ (.tup [str (sb (B6 l)),str (sb (Be l)),Ai (C5 l)])at cc;have hnl:(B6 l).length<=100000:=by unfold B6;rw[Bi];omega
 have hdl:(Be l).length<=100000:=by unfold Be;rw[Dp];omega
 have hsl:(B9 l).length<=100000:=by
  unfold B9 Bs;split
  ·rw[Dp];omega
  ·exact hnl
 have ct:=Ta (B6 l) (by omega);change AK C0 _ _ (str (sb (B9 l)))at ct;have p1:=ZD (B9 l) (by omega);have p2:=ZD (Be l) (by omega);have en:=Ep (B6 l) [45,48];have e0:=Ep (Be l) [48];have e1:=Ep (Be l) [49];have z1:=Cd (B9 l);have z2:=Cd (Be l);have hbf:∃b,b=J7 l:=⟨_,rfl⟩
 obtain⟨bf,hbf⟩:=hbf;unfold Cj;rw[<-hbf];unfold J7 at hbf;refine sR 0 ?_;refine sR 100 ?_;refine cI cc ?_;refine sR 200 ?_;refine cI ct ?_;refine AC.seq ?_;refine DE (α:=Nat) (λn=>⟨[(4,str (sb (Be l))),(5,Ai (C5 l)),(6,str (sb (B9 l))),(39,Ai bf)],[],n⟩) (λ_=>True) ?_ ?_
 ·refine rI 300 ?_
  refine cI p1 ?_;rcases hp:DR (B9 l)with _|_
  ·rw[hp]at hbf
   have hb:bf=true:=by rw[hbf];rfl
   subst hb;simp only[S1];refine AD kT ?_;refine AD kT ?_;exact⟨trivial,_,trivial,AL⟩
  ·rw[hp]at hbf
   simp only[P5]
   by_cases hn:B6 l=[45,48]
   ·rw[Au hn]at en hbf
    have hb:bf=true:=by rw[hbf];rfl
    subst hb;refine AD (Ab kF en) ?_;refine AD (Ar kF kT en) ?_;exact⟨trivial,_,trivial,AL⟩
   ·rw[Av hn]at en hbf
    rcases hs:C5 l with _|_
    ·rw[hs]at hbf
     have hb:bf=false:=by rw[hbf];rfl
     subst hb;refine AD (Ab kF en) ?_;refine AD (BS kF kT en hs) ?_;refine AD (BS kF kT en hs) ?_;exact⟨trivial,_,trivial,AL⟩
    ·rw[hs]at hbf
     refine AD (Ab kF en) ?_;refine AD (Ar kF en hs) ?_;refine Ms hs ?_;refine A7.same _ p2 AI ?_;refine BJ ?_;rcases hq:DR (Be l)with _|_
     ·rw[hq]at hbf
      have hb:bf=true:=by rw[hbf];rfl
      subst hb;refine AD (Ar kF kT hq) ?_;refine AD (Ar kF kT hq) ?_;refine AD (Ar kF kT hq) ?_;exact⟨trivial,_,trivial,AL⟩
     ·rw[hq]at hbf
      refine AD hq ?_;simp only[P5];refine AD kF ?_
      by_cases h0:Be l=[48]
      ·rw[Au h0]at e0 hbf
       have hb:bf=true:=by rw[hbf];rfl
       subst hb;simp only[e0,imp_self];refine AD kT ?_;refine Ii rfl rfl rfl (by simp only[S1]) (by simp) (In (λ_ _=>rfl) ?_);refine AD kF ?_;exact⟨trivial,_,trivial,AL⟩
      ·rw[Av h0]at e0 hbf
       simp only[e0];refine AD kF ?_
       by_cases h1:Be l=[49]
       ·rw[Au h1]at e1 hbf
        have hb:bf=true:=by rw[hbf];rfl
        subst hb;simp only[e1];exact⟨trivial,_,trivial,AL⟩
       ·rw[Av h1]at e1 hbf
        have hb:bf=false:=by rw[hbf];rfl
        subst hb;simp only[e1];exact⟨trivial,_,trivial,AL⟩
 rintro n -;cases bf with
 |true=>
  rw[AH rfl];refine AN ?_;refine sR 400 ?_;refine Ad ?_;exact AJ rfl AA.out
 |false=>
  rw[AG (by simp)];have hbf:=hbf.symm;simp only[I8,Bz,Bool.and_eq_false_iff]at hbf;obtain⟨⟨hp,hn⟩,hd⟩:=hbf;refine AN ?_;refine Aj ?_;have hsd:=(Kt hp).2;refine AC.seq ?_;refine DE (α:=Nat) (λn=>⟨[(4,str (sb (Be l))),(5,Ai (C5 l)),(6,str (sb (B9 l))),(47,Ai (decide (600<(B9 l).length\/600<(Be l).length)))],[],n⟩) (λ_=>True) ?_ ?_
  ·by_cases hA:600<(B9 l).length
   ·have ea:decide (((sb (B9 l)).size:Int)>600)=true:=Au (by rw[z1];omega)
    have eb:decide (600<(B9 l).length\/600<(Be l).length)=true:=Au (Or.inl hA);rw[eb];refine Ao 500 ?_;refine AW ea ?_;refine AD kT ?_;exact⟨trivial,_,trivial,AL⟩
   ·have ea:decide (((sb (B9 l)).size:Int)>600)=false:=Av (by rw[z1];omega)
    have eb:decide (((sb (Be l)).size:Int)>600)=decide (600<(B9 l).length\/600<(Be l).length):=by
     rw[DA,z2];omega
    refine Ao 500 ?_;refine AW ea ?_;refine AD kF ?_;simp only[eb];exact⟨trivial,_,trivial,AL⟩
  rintro n -
  by_cases hL:600<(B9 l).length\/600<(Be l).length
  ·rw[Au hL,AH hL]
   refine AN ?_;refine sR 600 ?_;refine Ad ?_;exact AJ rfl AA.out
  ·rw[Av hL,AG hL]
   refine AN ?_;refine Aj ?_;refine AC.seq ?_;refine sR 700 ?_;rcases hs:C5 l with _|_
   ·rw[AG (by simp)]
    refine AN ?_;refine Aj ?_;refine sR 1100 ?_;refine Ad ?_;exact AJ rfl AA.out
   ·rw[hs]at hd
    have hd':=hd.resolve_left (by simp);have hdd:=(Kt hd'.1.1).2;have r1:=RW (B9 l) (by rw[Kq hsd];exact hsd) hsl;have r2:=RW (Be l) (by rw[Kq hdd];exact hdd) hdl;rw[NU hsd]at r1;rw[NU hdd]at r2;have l1:(Ae (dv (B9 l))).length<=100000:=BT (M3 (Gr _ hsd)) hsl;have l2:(Ae (dv (Be l))).length<=100000:=BT (M3 (Gr _ hdd)) hdl;have cg:=gh (AX (dv (B9 l):Int)) (AX (dv (Be l):Int)) (Cv _) (Cv _) (Ik (by omega)) (Ik (by omega));rw[EA,EA,D7,D7]at cg;have cs:=rP (Nat.gcd (dv (B9 l)) (dv (Be l)));obtain⟨g,hg0⟩:∃g,g=Nat.gcd (dv (B9 l)) (dv (Be l)):=⟨_,rfl⟩
    rw[<-hg0]at cg cs;simp only[<-hg0];have hpa:AA (AX (dv (B9 l):Int)).w:=AI;have hpb:AA (AX (dv (Be l):Int)).w:=AI;have hpg:AA (AX (g:Int)).w:=AI;dsimp only[GI.D]at r1 r2 cg cs;refine AN ?_;refine sR 800 ?_;refine cI r1 ?_;refine cI r2 ?_;refine cI cg ?_;refine cI cs ?_;refine DE (α:=Nat) (λn=>⟨[(63,Ai (decide (g≠1)))],[],n⟩) (λ_=>True) ?_ ?_
    ·by_cases hg:Sm (g:Int)
     ·obtain⟨a1,a2⟩:=Sq hg
      have eg:=vY g;rw[a1,Au hg];refine rI 900 ?_;simp only[P5];refine AD kF ?_;simp only[eg];exact⟨trivial,_,trivial,AL⟩
     ·have eg:decide (g≠1)=true:=Au λh=>hg (by rw[h];exact⟨by decide,by decide⟩)
      rw[eg,Av hg];refine rI 900 ?_;simp only[S1];refine AD kT ?_;exact⟨trivial,_,trivial,AL⟩
    rintro n -
    by_cases hg:g=1
    ·rw[Av (λh=>h hg),AG (λh=>h.2 hg)]
     refine AN ?_;refine Aj ?_;refine sR 1100 ?_;refine Ad ?_;exact AJ rfl AA.out
    ·rw[Au hg,AH ⟨trivial,hg⟩]
     refine AN ?_;refine sR 1000 ?_;refine Ad ?_;exact AJ rfl AA.out
abbrev RB:Nat:=1000000000
def Aa (n:Nat):List Nat:=if _h:n=0 then[]else(n%RB)::Aa (n/RB)
termination_by n
decreasing_by exact Ia (EP _h) (by decide)
def AR:List Nat->Nat
 | []=>0
 |a::l=>a+RB*AR l
def Rd (l:List Nat):Prop:=∀a∈l,a<RB
theorem HA:Aa 0=[]:=by unfold Aa;rfl
theorem JO {n:Nat}(h:n≠0):Aa n=(n%RB)::Aa (n/RB):=by rw[Aa,dif_neg h]
theorem FD (n:Nat):Rd (Aa n):=by
 induction n using Nat.strongRecOn with
 |ind n ih=>
  by_cases h:n=0
  ·subst h;rw[HA];intro a ha;cases ha
  ·rw[JO h]
   intro a ha;rcases Az.1 ha with rfl|ha
   ·exact B7 _ (by decide)
   ·exact ih _ (Ia (EP h) (by decide)) a ha
theorem ES (n:Nat):AR (Aa n)=n:=by
 induction n using Nat.strongRecOn with
 |ind n ih=>
  by_cases h:n=0
  ·subst h;rw[HA];rfl
  ·rw[JO h,AR,ih _ (Ia (EP h) (by decide))]
   exact FM n RB
theorem Jv (l m:List Nat):AR (l++m)=AR l+RB^l.length*AR m:=by
 induction l with
 |nil=>simp[AR]
 |cons a l ih=>
  simp only[E2,AR,ih,Bq,CQ,BN];rw[BY (RB^l.length) RB,Bx,E5]
theorem Rd.tail {a:Nat}{l:List Nat}(h:Rd (a::l)):Rd l:=λb hb=>h b (CT _ hb)
theorem Rd.head {a:Nat}{l:List Nat}(h:Rd (a::l)):a<RB:=h a CO
theorem Rd.append {l m:List Nat}(h:Rd l)(k:Rd m):Rd (l++m):=λa ha=>(B0.1 ha).elim (h a) (k a)
theorem Rd.take {l:List Nat}(h:Rd l)(n:Nat):Rd (l.take n):=λa ha=>h a (JA ha)
theorem Gm:∀ {l:List Nat},Rd l->AR l<RB^l.length
 | [],_=>by simp[AR]
 |a::l,h=>by
  have h1:=Gm h.tail;have h2:=h.head;rw[AR,Bq,CQ]
  calc a+RB*AR l<RB+RB*AR l:=by omega
   _=RB*(AR l+1):=by rw[BN,EO,Lj]
   _<=RB*RB^l.length:=Cr _ h1
   _=_:=BY _ _
theorem XL:∀ {l:List Nat},Rd l->(∀a∈l.getLast?,a≠0)->Aa (AR l)=l
 | [],_,_=>HA
 | [a],h,hl=>by
  have ha:a≠0:=hl a (by simp);have hb:=h.head;rw[show AR [a]=a from by simp[AR],JO ha,Ff hb,Hy hb,HA]
 |a::b::l,h,hl=>by
  have ih:=XL h.tail (λx hx=>hl x (by simpa using hx));have hb:=h.head;have hv:AR (b::l)≠0:=by
   intro h0;rw[h0,HA]at ih;cases ih
  have e1:AR (a::b::l)%RB=a:=by rw[AR,S3,Ff hb]
  have e2:AR (a::b::l)/RB=AR (b::l):=by
   rw[AR,TC _ _ (by decide),Hy hb,BZ]
  have hne:AR (a::b::l)≠0:=by
   intro h0;rw[h0]at e2;exact hv (by rw[<-e2];rfl)
  rw[JO hne,e1,e2,ih]
theorem Wy:∀(k:Nat),AR (List.replicate k 0)=0
 | 0=>rfl
 |k+1=>by rw[List.replicate_succ,AR,Wy k,E6]
theorem JM (b:Nat):∀a,b<=a->(Aa b).length<=(Aa a).length:=by
 induction b using Nat.strongRecOn with
 |ind b ih=>
  intro a h
  by_cases hb:b=0
  ·subst hb;rw[HA];exact BU _
  ·rw[JO hb,JO (n:=a) (by omega),Bq,Bq]
   exact Nat.succ_le_succ (ih _ (Ia (EP hb) (by decide)) _ (Nat.div_le_div_right h))
theorem Wq {a b:Nat}(h:(Aa a).length<(Aa b).length):a<b:=by
 rcases BA a b with h1|h1
 ·exact h1
 ·have:=JM b a h1;omega
theorem OY {l:List Nat}{k a:Nat}(h:l[k]?=some a):AR l=AR (l.take k)+RB^k*(a+RB*AR (l.drop (k+1))):=by
 have hk:k<l.length:=(BQ.1 h).1
 conv=>lhs;rw[<-Fj k l]
 rw[Jv,Bi,Fh (by omega)]
 have:l.drop k=a::l.drop (k+1):=by
  rw[EN hk]
  congr 1
  exact(BQ.1 h).2
 rw[this,AR]
theorem Wx {l m:List Nat}{k a b:Nat}(hl:Rd l)(ha:l[k]?=some a)(hb:m[k]?=some b)(hd:l.drop (k+1)=m.drop (k+1))(hab:a<b):AR l<AR m:=by
 have hk:k<l.length:=(BQ.1 ha).1;rw[OY ha,OY hb,hd];have h1:=Gm (hl.take k);rw[Bi,Fh (by omega)]at h1;generalize AR (m.drop (k+1))=r;have h2:RB^k*(a+RB*r)+RB^k<=RB^k*(b+RB*r):=by
  rw[<-Nat.mul_succ];exact Cr _ (by omega)
 omega
theorem Hd {l:List Nat}{i a:Nat}(hi:l.length=i):AR (l++[a])=AR l+RB^i*a:=by rw[Jv,hi];simp[AR]
theorem Rd.set {l:List Nat}(h:Rd l){i a:Nat}(ha:a<RB):Rd (l.set i a):=λb hb=>by
 rcases List.mem_or_eq_of_mem_set hb with h1|rfl
 ·exact h b h1
 ·exact ha
theorem Tr (n:Nat):Rd (List.replicate n 0):=λa ha=>by rw[P1 ha];decide
theorem OS:∀ {l:List Nat} {k o d:Nat},l[k]?=some o->AR (l.set k d)+RB^k*o=AR l+RB^k*d
 |a::l,0,o,d,h=>by
  simp only[S5,BL]at h;subst h;simp only[List.set_cons_zero,AR,Mq,JD];omega
 |a::l,k+1,o,d,h=>by
  simp only[Kb]at h;have ih:=OS (d:=d) h;simp only[List.set_cons_succ,AR];have h1:RB^(k+1)*o=RB*(RB^k*o):=by rw[CQ,BY (RB^k) RB,Bx]
  have h2:RB^(k+1)*d=RB*(RB^k*d):=by rw[CQ,BY (RB^k) RB,Bx]
  have h3:RB*AR (l.set k d)+RB*(RB^k*o)=RB*AR l+RB*(RB^k*d):=by rw[<-BN,<-BN,ih]
  omega
theorem Ks {n k:Nat}(h:n<RB^k):(Aa n).length<=k:=by
 induction k generalizing n with
 |zero=>
  have:n=0:=by simpa using h
  subst this;rw[HA];exact Al _
 |succ k ih=>
  by_cases h0:n=0
  ·subst h0;rw[HA];exact BU _
  ·rw[JO h0,Bq]
   exact Nat.succ_le_succ (ih (Fk (by rw[BY,<-CQ];exact h)))
theorem JP (n:Nat):n<RB^(Aa n).length:=by
 have:=Gm (FD n)
 rwa [ES]at this
theorem XJ (a b:Nat):(Aa (a+b)).length<=max (Aa a).length (Aa b).length+1:=by
 refine Ks ?_;have h1:=JP a;have h2:=JP b;have m1:RB^(Aa a).length<=RB^max (Aa a).length (Aa b).length:=FO (by decide) (Nat.le_max_left _ _);have m2:RB^(Aa b).length<=RB^max (Aa a).length (Aa b).length:=FO (by decide) (Nat.le_max_right _ _);rw[CQ];generalize RB^max (Aa a).length (Aa b).length=q at*;unfold RB;omega
theorem XK (a b:Nat):(Aa (a-b)).length<=(Aa a).length:=JM _ _ (Nat.sub_le _ _)
theorem Tc (a b:Nat):(Aa (a*b)).length<=(Aa a).length+(Aa b).length:=by
 refine Ks ?_;rw[Ge];exact Nat.mul_lt_mul'' (JP a) (JP b)
theorem QW {n:Nat}(h0:n≠0)(h:n<RB):Aa n=[n]:=by
 rw[JO h0,Ff h,Hy h,HA]
theorem VT {l:List Nat}{k a:Nat}(hl:l.length=k+1)(ha:l[k]?=some a):AR l=AR (l.take k)+RB^k*a:=by
 rw[OY ha,HP (by omega)];simp[AR]
theorem xB {l:List Nat}{k a b:Nat}(hl:l.length=k+2)(ha:l[k]?=some a)(hb:l[k+1]?=some b):AR l=AR (l.take k)+RB^k*(a+RB*b):=by
 rw[OY ha]
 have:l.drop (k+1)=[b]:=by
  rw[EN (by omega),HP (by omega)]
  congr 1
  exact(BQ.1 hb).2
 rw[this];simp[AR]
theorem xC {l:List Nat}{k a b c:Nat}(hl:l.length=k+3)(ha:l[k]?=some a)(hb:l[k+1]?=some b)(hc:l[k+2]?=some c):AR l=AR (l.take k)+RB^k*(a+RB*(b+RB*c)):=by
 rw[OY ha];have h1:=VT (l:=l.drop (k+1)) (k:=1) (a:=c) (by rw[Dp];omega) (by rw[G3,E5];exact hc);have h2:(l.drop (k+1)).take 1=[b]:=by
  rw[EN (by omega)];simp only[List.take_succ_cons,OC]
  congr 1
  exact(BQ.1 hb).2
 rw[h1,h2];simp[AR]
structure LI (P v:List Nat)(m p0 p1 p2 v2 v1:Nat):Prop where
 lP:P.length=m+3
 lv:v.length=m+2
 wP:Rd P
 wv:Rd v
 h0:P[m]?=some p0
 h1:P[m+1]?=some p1
 h2:P[m+2]?=some p2
 g2:v[m]?=some v2
 g1:v[m+1]?=some v1
 top:0<v1
 less:AR P<AR v*RB
namespace LI
variable {P v:List Nat} {m p0 p1 p2 v2 v1:Nat} (S:LI P v m p0 p1 p2 v2 v1)
include S
theorem valP:AR P=AR (P.take m)+RB^m*(p0+RB*(p1+RB*p2)):=xC S.lP S.h0 S.h1 S.h2
theorem valv:AR v=AR (v.take m)+RB^m*(v2+RB*v1):=xB S.lv S.g2 S.g1
theorem lowP:AR (P.take m)<RB^m:=by
 have:=Gm (S.wP.take m)
 rwa [Bi,Fh (by have:=S.lP;omega)]at this
theorem lowv:AR (v.take m)<RB^m:=by
 have:=Gm (S.wv.take m)
 rwa [Bi,Fh (by have:=S.lv;omega)]at this
theorem p0l:p0<RB:=S.wP _ (Ay S.h0)
theorem p1l:p1<RB:=S.wP _ (Ay S.h1)
theorem p2l:p2<RB:=S.wP _ (Ay S.h2)
theorem v1l:v1<RB:=S.wv _ (Ay S.g1)
theorem v2l:v2<RB:=S.wv _ (Ay S.g2)
theorem below3:AR P<(p0+RB*(p1+RB*p2)+1)*RB^m:=by
 rw[S.valP,Bv,JD,BY (RB^m)]
 have:=S.lowP
 omega
theorem below2:AR P<(p1+RB*p2+1)*RB^(m+1):=by
 have h:=S.below3;have h1:=S.p0l;generalize p1+RB*p2=t at*;have h2:(p0+RB*t+1)*RB^m<=(RB*(t+1))*RB^m:=CP _ (by rw[BN RB t 1];omega);have h3:(t+1)*RB^(m+1)=(RB*(t+1))*RB^m:=by rw[CQ,BY (RB^m) RB,<-Bx,BY (t+1) RB]
 omega
theorem abovev:v1*RB^(m+1)<=AR v:=by
 rw[S.valv,CQ,BN]
 have:v1*(RB^m*RB)=RB^m*(RB*v1):=by rw[BY v1,Bx]
 omega
theorem abovev2:(v2+RB*v1)*RB^m<=AR v:=by
 rw[S.valv,BY];omega
theorem pos:0<AR v:=Co (G7 S.top (Nat.pow_pos (by decide))) S.abovev
theorem p2v1:p2<=v1:=by
 rcases BA v1 p2 with h|h
 ·exfalso
  have e1:RB^(m+2)*p2<=AR P:=by
   rw[S.valP,BN,BN,BN]
   have:RB^(m+2)*p2=RB^m*(RB*(RB*p2)):=by rw[CQ,CQ,Bx,Bx]
   omega
  have e2:AR v<RB^(m+1)*(v1+1):=by
   have h1:=S.lowv;have h2:=S.v2l;have e3:RB^(m+1)*(v1+1)=RB^m*(RB*v1+RB):=by rw[CQ,Bx,BN,EO]
   have e4:RB^m*(v2+RB*v1+1)<=RB^m*(RB*v1+RB):=Cr _ (by omega);rw[BN _ _ 1,EO]at e4;rw[S.valv,e3];omega
  have e5:RB^(m+1)*(v1+1)*RB=RB^(m+2)*(v1+1):=by rw[Nat.mul_right_comm,<-CQ]
  have e6:RB^(m+2)*(v1+1)<=RB^(m+2)*p2:=Cr _ h;have e7:(AR v)*RB<=RB^(m+1)*(v1+1)*RB:=CP _ (Jn e2)
  have:=S.less
  omega
 ·exact h
end LI
theorem jJ {A P v:List Nat}{q i z x d b c b' c' lo:Nat}(hz:A[i]?=some z)(hx:v[i]?=some x)(hI:AR A+q*AR (v.take i)=AR P+RB^i*(c+b))
  (h1:lo+RB*c'=q*x+c) (h2:d+lo+b=z+RB*b'):AR (A.set i d)+q*AR (v.take (i+1))=AR P+RB^(i+1)*(c'+b'):=by
 have hs:=OS (d:=d) hz;have hi:i<v.length:=(BQ.1 hx).1;rw[Fq hx,Hd (i:=i) (by rw[Bi];omega),BN,JB q,CQ,Bx];have e:RB^i*(d+q*x+(c+b))=RB^i*(z+RB*(c'+b')):=by congr 1;rw[BN RB];omega
 rw[BN,BN,BN (RB^i) z]at e;omega
theorem jG {A P v:List Nat}{i z x c:Nat}(hz:A[i]?=some z)(hx:v[i]?=some x)(hI:AR A+RB^i*c=AR P+AR (v.take i)):
  AR (A.set i ((z+x+c)%RB))+RB^(i+1)*((z+x+c)/RB)=AR P+AR (v.take (i+1)):=by
 have hs:=OS (d:=(z+x+c)%RB) hz;have hi:i<v.length:=(BQ.1 hx).1;rw[Fq hx,Hd (i:=i) (by rw[Bi];omega),CQ,Bx];have e:RB^i*((z+x+c)%RB+RB*((z+x+c)/RB))=RB^i*(z+x+c):=by rw[FM]
 rw[BN,BN,BN (RB^i) z]at e;omega
theorem jf {n k:Nat}(h1:RB^k<=n)(h2:n<RB^(k+1)):(Aa n).length=k+1:=by
 have h3:=Ks h2;have h4:=DH h1 (JP n);have h5:=(Nat.pow_lt_pow_iff_right (show 1<RB by decide)).1 h4;omega
theorem QX:∀(n:Nat) {k a:Nat},(Aa n).length=k+1->(Aa n)[k]?=some a->a≠0:=λn=>by
 induction n using Nat.strongRecOn with
 |ind n ih=>
  intro k a h1 h2
  by_cases h0:n=0
  ·subst h0;rw[HA]at h1;cases h1
  ·rw[JO h0]at h1 h2
   rw[Bq]at h1;have h3:=Nat.succ.inj h1;cases k with
   |zero=>
    have h4:Aa (n/RB)=[]:=F6 h3;have h5:n/RB=0:=by rw[<-ES (n/RB),h4];rfl
    have h6:=FM n RB;rw[h5]at h6;simp at h2;intro h7;subst h7;rw[h2]at h6;omega
   |succ k=>
    rw[Kb]at h2;exact ih _ (Ia (EP h0) (by decide)) h3 h2
theorem Tp {n k:Nat}(h:(Aa n).length=k+1):RB^k<=n:=by
 obtain⟨a,ha⟩:=Cg (l:=Aa n) (i:=k) (by omega);have h1:=QX n h ha;have h2:=VT h ha;rw[ES]at h2;have h3:=Cr (RB^k) (show 1<=a by omega);omega
theorem Qg {l:List Nat}{j a:Nat}(h:l[j]?=some a):AR (l.drop j)=a+RB*AR (l.drop (j+1)):=by
 have hj:j<l.length:=(BQ.1 h).1;rw[EN hj,(BQ.1 h).2];rfl
theorem jb {a q:List Nat}{j x b rest:Nat}(hb:0<b)(hx:a[j]?=some x)(hj:j<q.length)(hI:AR (q.drop (j+1))*b+rest=AR (a.drop (j+1))):
  AR ((q.set j ((rest*RB+x)/b)).drop j)*b+(rest*RB+x)%b=AR (a.drop j)/\(rest*RB+x)%b<b:=by
 refine⟨?_,B7 _ hb⟩;rw[RI hj,Qg hx,<-hI,AR];have e:=E3 (rest*RB+x) b;rw[Bv,BN RB,Bx RB,BY RB rest,BY _ b];omega
structure Md (X:Nat)(v U q:List Nat)(lu lq k:Nat):Prop where
 lU:U.length=lu
 lQ:q.length=lq
 wU:Rd U
 wq:Rd q
 val:RB^k*AR (q.drop k)*AR v+AR U=X
 less:AR (U.drop k)<AR v
theorem ki {X:Nat}{v U q:List Nat}{lu lq j m:Nat}(I:Md X v U q lu lq (j+1))(hv:v.length=m+2)(wv:Rd v)(v1 v2:Nat)(h2:v[m]?=some v2)(h1:v[m+1]?=some v1)(ht:0<v1)(hj:j+(m+3)<=lu):
  ∃p0 p1 p2,LI ((U.drop j).take (m+3)) v m p0 p1 p2 v2 v1/\AR (U.drop (j+(m+3)))=0/\AR ((U.drop j).take (m+3))=AR (U.drop j):=by
 obtain⟨lU,lQ,wU,wq,val,less⟩:=I;obtain⟨x,hx⟩:=Cg (l:=U) (i:=j) (by omega);have hxl:=wU x (Ay hx);have e1:=Qg hx;have hlt:AR (U.drop j)<AR v*RB:=by
  have:RB*(AR (U.drop (j+1))+1)<=RB*AR v:=Cr _ less
  rw[BN,BY RB (AR v)]at this;omega
 have hPl:((U.drop j).take (m+3)).length=m+3:=by rw[Bi,Dp];omega
 have e2:AR (U.drop j)=AR ((U.drop j).take (m+3))+RB^(m+3)*AR (U.drop (j+(m+3))):=by
  conv=>lhs;rw[<-Fj (m+3) (U.drop j)]
  rw[Jv,hPl,List.drop_drop]
 have hvl:=Gm wv;rw[hv]at hvl;have hz:AR (U.drop (j+(m+3)))=0:=by
  rcases ED (AR (U.drop (j+(m+3))))with h|h
  ·exact h
  ·exfalso
   have e3:RB^(m+3)*1<=RB^(m+3)*AR (U.drop (j+(m+3))):=Cr _ h;have e4:AR v*RB<=RB^(m+2)*RB:=CP _ (Jn hvl);have e5:RB^(m+2)*RB=RB^(m+3):=(CQ RB (m+2)).symm;rw[e5]at e4;omega
 rw[hz,E6,Dq]at e2;obtain⟨p0,h0⟩:=Cg (l:=(U.drop j).take (m+3)) (i:=m) (by omega);obtain⟨p1,h3⟩:=Cg (l:=(U.drop j).take (m+3)) (i:=m+1) (by omega);obtain⟨p2,h4⟩:=Cg (l:=(U.drop j).take (m+3)) (i:=m+2) (by omega);exact⟨p0,p1,p2,⟨hPl,hv,λa ha=>wU a (Li (JA ha)),wv,h0,h3,h4,h2,h1,ht,by rw[<-e2];exact hlt⟩,hz,e2.symm⟩
theorem kh {X:Nat}{v U q P':List Nat}{lu lq j m:Nat}(I:Md X v U q lu lq (j+1))(hv:0<AR v)(hj:j+(m+3)<=lu)(hjq:j<lq)(hz:AR (U.drop (j+(m+3)))=0)(hP:AR ((U.drop j).take (m+3))=AR (U.drop j))
  (h1:P'.length=m+3) (h2:Rd P') (h3:AR P'=AR ((U.drop j).take (m+3))%AR v) (hd:AR ((U.drop j).take (m+3))/AR v<RB):
  Md X v (U.take j++(P'++U.drop (j+(m+3)))) (q.set j (AR ((U.drop j).take (m+3))/AR v)) lu lq j:=by
 obtain⟨lU,lQ,wU,wq,val,less⟩:=I;have hA:(U.take j).length=j:=by rw[Bi];omega
 have e0:AR U=AR (U.take j)+RB^j*AR (U.drop j):=by
  conv=>lhs;rw[<-Fj j U]
  rw[Jv,hA]
 have e1:AR (P'++U.drop (j+(m+3)))=AR P':=by rw[Jv,hz,E6,Dq]
 refine⟨?_,by rw[D9];exact lQ,?_,wq.set hd,?_,?_⟩
 ·rw[Bp,Bp,hA,h1,Dp];omega
 ·exact Rd.append (wU.take j) (Rd.append h2 λa ha=>wU a (Li ha))
 ·rw[RI (by omega),AR,Jv,hA,e1,h3,hP]
  rw[e0]at val;have e2:=E3 (AR (U.drop j)) (AR v);have e3:RB^(j+1)*AR (q.drop (j+1))*AR v=RB^j*(RB*AR (q.drop (j+1))*AR v):=by
   rw[CQ,Bx,Bx,Bx]
  rw[e3]at val;have e4:RB^j*AR (U.drop j)=RB^j*(AR v*(AR (U.drop j)/AR v))+RB^j*(AR (U.drop j)%AR v):=by
   rw[<-BN,e2]
  rw[Bx,Bv,BN,BY (AR (U.drop j)/AR v)];omega
 ·rw[List.drop_left' hA,e1,h3]
  exact B7 _ hv
set_option maxHeartbeats 2000000
abbrev Ac (n:Nat):D:=i64 (n:Int)
def rL (l:List Nat):D:=.sl false 1 (l.map Ac)
def rD (n:Nat):D:=rL (Aa n)
theorem PA (l:List Nat):CC (rL l):=.sl λe he d hd=>by
 obtain⟨a,_,rfl⟩:=By.1 he;simp only[D.cells,Az,Dk,or_false]at hd;subst hd;exact .prim _
instance  (l:List Nat):AA (rL l):=⟨PA l⟩
instance  (n:Nat):AA (rD n):=⟨PA _⟩
theorem EB {l:List Nat}{i a:Nat}(h:l[i]?=some a):(l.map Ac)[i]?=some (Ac a):=by rw[A8,h];rfl
theorem NS {l:List Nat}{i a:Nat}:(l.map Ac).set i (Ac a)=(l.set i a).map Ac:=List.map_set.symm
theorem xX (c:Nat):((c:Int)==0)=decide (c=0):=by rw[F7,EQ,decide_eq_true_iff];omega
theorem Uj (m:List Nat):AR (m++[0])=AR m:=by rw[Hd rfl];simp
theorem aD {m:List Nat}{c:Nat}(h:Rd (m++[c]))(hc:c≠0):Aa (AR (m++[c]))=m++[c]:=XL h λa ha=>by
 rw[List.getLast?_append]at ha;simp at ha;rw[<-ha];exact hc
theorem ML (l:List Nat)(h:Rd l)(hlen:l.length<4000000000):AK C0 269 [rL l] (rD (AR l)):=by
 refine AZ.walk w1 de rfl λF=>?_
 unfold rL;refine sR 0 ?_;refine AC.seq ?_;refine AC.block ?_;refine AC.loop (α:=List Nat×Nat) (λp=>⟨[(0,.sl false 1 (p.1.map Ac))],[],p.2⟩) (λp=>p.1.length)
  (λp=>AR p.1=AR l/\Rd p.1/\p.1.length<=l.length) (l,_) ⟨rfl,h,Al _⟩ AL ?_
 rintro⟨m,n⟩ F ⟨h1,h2,h3⟩;dsimp only at h1 h2 h3⊢;refine AC.seq ?_;refine AC.seq ?_;rcases S7 m with rfl|⟨m,c,rfl⟩
 ·have e1:decide (((0:Nat):Int)>0)=false:=rfl
  refine Ao 100 ?_;refine AW e1 ?_;refine AD e1 ?_;refine AN ?_;refine CK ?_;refine sR 300 ?_;refine Ad ?_;refine AJ (d0:=rL []) ?_ AA.out;rw[<-h1];unfold rD;rw[show AR []=0 from rfl,HA]
 ·rw[S6]at h1 h2 h3⊢
  have el:((((m++[c]).map Ac).length:Nat):Int)=((m.length+1:Nat):Int):=by rw[Ag,Bp];rfl
  rw[Bp,GM]at h3;have e1:decide (((m.length+1:Nat):Int)>0)=true:=BV;have wk:IntKind.i64.wrap (((m.length+1:Nat):Int)-1)=(m.length:Int):=by rw[wI];omega
  have wraw:IntKind.i64.wrap (((((m++[c]).map Ac).length:Nat):Int)-1)=(m.length:Int):=by rw[el,wk]
  have hx:((m++[c]).map Ac)[m.length]?=some (Ac c):=EB (by simp);have ec:=xX c;refine Ao 100 ?_;refine AW (Ab el e1) ?_;refine AD (CI e1 wraw el wk kN) ?_;refine Bw e1 hx ?_;refine AD (CI e1 wraw el wk ec) ?_
  by_cases hc:c=0
  ·rw[Au hc]
   subst hc;have e4:List.take (m.length-0) (List.drop 0 ((m++[0]).map Ac))=m.map Ac:=by simp
   have e5:List.take m.length ((m++[0]).map Ac)=m.map Ac:=by simp
   rw[Uj]at h1;refine AN ?_;refine Aj ?_;refine AC.block ?_;refine Ao 200 ?_;refine AW (CI el wk wraw kN e4) ?_;exact⟨(m,_),⟨h1,λa ha=>h2 a (Ke _ ha),by dsimp only;omega⟩,by dsimp only;rw[Bp,GM];omega,AL⟩
  ·rw[Av hc]
   refine AN ?_;refine CK ?_;refine sR 300 ?_;refine Ad ?_;refine AJ (d0:=rL (m++[c])) ?_ AA.out;unfold rD;rw[<-h1,aD h2 hc]
theorem Uh (l:List Nat)(i:Nat)(hlen:l.length<4000000000)(hi:i<4000000000):AK C0 284 [rL l,Ac i] (Ac (l.getD i 0)):=by
 refine AZ.walk w1 vB rfl λF=>?_
 unfold rL;have el:(((l.map Ac).length:Nat):Int)=(l.length:Int):=by rw[Ag]
 refine sR 0 ?_;refine AC.seq ?_;refine AC.seq ?_
 by_cases h:i<l.length
 ·have e1:decide ((i:Int)<(l.length:Int))=true:=BV
  obtain⟨a,ha⟩:=Cg h;have hx:=EB ha;have eg:l.getD i 0=a:=by rw[Do,ha];rfl
  rw[eg];refine Ao 100 ?_;refine AW (Ab el e1) ?_;refine AN ?_;refine sZ 200 ?_;refine AD kN ?_;refine Bw kT hx ?_;refine AD kN ?_;refine Ad ?_;exact AJ rfl AA.out
 ·have e1:decide ((i:Int)<(l.length:Int))=false:=Bc
  have eg:l.getD i 0=0:=by rw[Do,Dy (by omega)];rfl
  rw[eg];refine Ao 100 ?_;refine AW (Ab el e1) ?_;refine AN ?_;refine Aj ?_;refine sR 300 ?_;refine Ad ?_;exact AJ rfl AA.out
theorem SV (a b:Nat)(ha:(Aa a).length<4000000000)(hb:(Aa b).length<4000000000):AK C0 266 [rD a,rD b] (i64 (EJ a b)):=by
 refine AZ.walk w1 uM rfl λF=>?_
 have hwa:=FD a;have hwb:=FD b;have va:=ES a;have vb:=ES b;have hlt:=@Wq a b;have hgt:=@Wq b a;unfold rD rL EJ;generalize Aa a=la at*;generalize Aa b=lb at*;have ea:(((la.map Ac).length:Nat):Int)=(la.length:Int):=by rw[Ag]
 have eb:(((lb.map Ac).length:Nat):Int)=(lb.length:Int):=by rw[Ag]
 refine sR 0 ?_;refine AC.seq ?_;refine sZ 100 ?_;refine AW (Ab ea eb) ?_;refine AN ?_
 (refine B1 (λh10=>?_) (λh10=>?_))<;>(try simp only[Bl,Bz]at h10)<;>(try simp only[h10])
 ·have hne:la.length≠lb.length:=by
   have:(la.length:Int)≠lb.length:=by simpa using h10
   omega
  refine AC.seq ?_;refine sZ 200 ?_;refine AW (Ab ea eb) ?_;refine AN ?_
  (refine B1 (λh15=>?_) (λh15=>?_))<;>(try simp only[Bl,Bz]at h15)<;>(try simp only[h15])
  ·have h1:la.length<lb.length:=by
    have:(la.length:Int)<lb.length:=by simpa using h15
    omega
   rw[AH (by have:=hlt h1;omega)];refine sR 300 ?_;refine Ad ?_;exact AJ rfl AA.out
  ·have h1:lb.length<la.length:=by
    have:¬(la.length:Int)<lb.length:=by simpa using h15
    omega
   have h2:=hgt h1;rw[CR,DQ];refine Aj ?_;refine sR 400 ?_;refine Ad ?_;exact AJ rfl AA.out
 ·have hl:la.length=lb.length:=by
   have:(la.length:Int)=lb.length:=by simpa using h10
   omega
  clear hlt hgt;refine Aj ?_;refine AC.seq ?_;refine sZ 500 ?_;refine AW ea ?_;refine AC.block ?_;have w0:IntKind.i64.wrap ((la.length:Int)-1)=(la.length:Int)-1:=wI;rw[w0];refine AC.loop (α:=Nat×Nat) (λp=>⟨[(0,.sl false 1 (la.map Ac)),(1,.sl false 1 (lb.map Ac)),(5,i64 ((p.1:Int)-1))],[],p.2⟩) (λp=>p.1)
   (λp=>p.1<=la.length/\la.drop p.1=lb.drop p.1) (la.length,_) ⟨Al _,by rw[Jr,hl,Jr]⟩ AL ?_
  rintro⟨k,m⟩ F ⟨h1,h2⟩;dsimp only at h1 h2⊢;refine AC.seq ?_;refine sR 600 ?_;refine AN ?_
  (refine B1 (λh20=>?_) (λh20=>?_))<;>(try simp only[Bl,Bz]at h20)<;>(try simp only[h20])
  ·obtain⟨j,rfl⟩:∃j,k=j+1:=⟨k-1,by
    have:(k:Int)-1>=0:=by simpa using h20
    omega⟩
   have wj:((j+1:Nat):Int)-1=(j:Int):=by omega
   obtain⟨x,hx⟩:∃x,la[j]?=some x:=⟨la[j],Cf⟩
   obtain⟨y,hy⟩:∃y,lb[j]?=some y:=⟨lb[j],Cf⟩
   have hx':=EB hx;have hy':=EB hy;rw[wj];refine Aj ?_;refine AC.seq ?_;refine AC.block ?_;refine AC.seq ?_;refine AC.seq ?_;refine CM 800 [0,1,2,3,4,5,6,7] [8] ?_;refine AD kN ?_;refine Bw kT hx' ?_;refine AD kN ?_;refine Bw kT hy' ?_;refine AD kN ?_;refine AD kN ?_;refine AN ?_
   (refine B1 (λh31=>?_) (λh31=>?_))<;>(try simp only[Bl,Bz]at h31)<;>(try simp only[h31])
   ·have hxy:x<y:=by
     have:=DJ h31
     omega
    have:=Wx hwa hx hy h2 hxy
    rw[DQ];refine sR 900 ?_;refine Ad ?_;exact AJ rfl AA.out
   ·have hxy0:¬x<y:=by
     have:=Db h31
     omega
    refine Aj ?_;refine AC.seq ?_;refine CM 1000 [0,1,2,3,4,5,6,7] [8] ?_;refine AD kN ?_;refine Bw kT hx' ?_;refine AD kN ?_;refine Bw kT hy' ?_;refine AD kN ?_;refine AD kN ?_;refine AN ?_
    (refine B1 (λh40=>?_) (λh40=>?_))<;>(try simp only[Bl,Bz]at h40)<;>(try simp only[h40])
    ·have hxy:y<x:=by
      have:=DJ h40
      omega
     have:=Wx hwb hy hx h2.symm hxy
     rw[CR,DQ];refine sR 1100 ?_;refine Ad ?_;exact AJ rfl AA.out
    ·have hxy:x=y:=by
      have:=Db h40
      omega
     subst hxy;have w5:IntKind.i64.wrap ((j:Int)-1)=(j:Int)-1:=wI;refine Aj ?_;refine Ao 700 ?_;refine AW w5 ?_;have hj:=(BQ.1 hx)
     have hj':=(BQ.1 hy)
     refine⟨(j,_),⟨by dsimp only;omega,?_⟩,by dsimp only;omega,AL⟩;dsimp only;rw[EN hj.1,EN hj'.1,hj.2,hj'.2,h2]
  ·have hk:k=0:=by
    have:¬((k:Int)-1>=0):=by simpa using h20
    omega
   subst hk;have hab:a=b:=by
    rw[<-va,<-vb]
    have:la=lb:=by simpa using h2
    rw[this]
   subst hab;rw[CR,CR];refine CK ?_;refine sR 1200 ?_;refine Ad ?_;exact AJ rfl AA.out
theorem Td (l:List Nat)(i:Nat):AR (l.take (i+1))=AR (l.take i)+RB^i*l.getD i 0:=by
 by_cases h:i<l.length
 ·obtain⟨a,ha⟩:=Cg h
  rw[Fq ha,Hd (i:=i) (by rw[Bi];omega),Do,ha];rfl
 ·rw[Gj,Gj,Do,Dy (by omega)]
  simp
theorem T9 {l:List Nat}(h:Rd l)(i:Nat):l.getD i 0<RB:=by
 by_cases hi:i<l.length
 ·obtain⟨a,ha⟩:=Cg hi
  rw[Do,ha];exact h a (Ay ha)
 ·rw[Do,Dy (by omega)];decide
theorem YU (l:List Nat)(i:Nat):AR (l.take i)<=AR l:=by
 conv=>rhs;rw[<-Fj i l]
 rw[Jv];exact Nat.le_add_right _ _
theorem XS {a i:Nat}(h:i<(Aa a).length):RB^i<=a:=by
 obtain⟨k,hk⟩:∃k,(Aa a).length=k+1:=⟨(Aa a).length-1,by omega⟩
 exact BT (FO (by decide) (by omega)) (Tp hk)
structure PE (a b:Nat)(i c:Nat)(out:List Nat):Prop where
 len:out.length=i
 wd:Rd out
 c1:c<=1
 val:AR out+RB^i*c=AR ((Aa a).take i)+AR ((Aa b).take i)
 can:i=0\/RB^(i-1)<=a+b
theorem mu {a b i c:Nat}{out:List Nat}(I:PE a b i c out)(h:i<(Aa a).length\/i<(Aa b).length\/0<c):
  PE a b (i+1) (((Aa a).getD i 0+(Aa b).getD i 0+c)/RB) (out++[((Aa a).getD i 0+(Aa b).getD i 0+c)%RB])/\(Aa a).getD i 0+(Aa b).getD i 0+c<2*RB:=by
 obtain⟨len,wd,c1,val,can⟩:=I;have h1:=T9 (FD a) i;have h2:=T9 (FD b) i;have hs:(Aa a).getD i 0+(Aa b).getD i 0+c<2*RB:=by omega
 have e1:=Td (Aa a) i;have e2:=Td (Aa b) i;have ta:=YU (Aa a) i;have tb:=YU (Aa b) i;rw[ES]at ta tb;refine⟨⟨by rw[Bp,len];rfl,Rd.append wd λx hx=>?_,?_,?_,.inr ?_⟩,hs⟩
 ·simp only[Az,Dk,or_false]at hx
  subst hx;exact B7 _ (by decide)
 ·exact OB (Fk (by rw[BY];exact hs))
 ·rw[Hd len,e1,e2,CQ,Bx]
  have e:=FM ((Aa a).getD i 0+(Aa b).getD i 0+c) RB;generalize(Aa a).getD i 0=p at*;generalize(Aa b).getD i 0=q at*;have e3:RB^i*((p+q+c)%RB+RB*((p+q+c)/RB))=RB^i*(p+q+c):=by rw[e]
  rw[BN,BN,BN (RB^i) p]at e3;omega
 ·rw[IY]
  rcases h with h|h|h
  ·have:=XS h;omega
  ·have:=XS h;omega
  ·have hc:c=1:=by omega
   subst hc;rw[EO]at val;omega
theorem mr {a b i:Nat}{out:List Nat}(I:PE a b i 0 out)(h1:¬i<(Aa a).length)(h2:¬i<(Aa b).length):out=Aa (a+b):=by
 obtain⟨len,wd,c1,val,can⟩:=I;rw[Gj,Gj,ES,ES,E6,Dq]at val;rcases S7 out with rfl|⟨m,c,rfl⟩
 ·rw[<-val];unfold Aa;rfl
 ·rw[S6]at*
  rw[Bp,GM]at len;have hc:c≠0:=by
   intro hc;subst hc;rcases can with h|h
   ·omega
   ·rw[Uj]at val
    have:=Gm (l:=m) λx hx=>wd x (Ke _ hx)
    rw[show i-1=m.length by omega]at h;omega
  rw[<-val,aD wd hc]
theorem xP (a b:Nat)(ha:(Aa a).length<1000000)(hb:(Aa b).length<1000000):AK C0 265 [rD a,rD b] (rD (a+b)):=by
 refine AZ.walk w1 uL rfl λF=>?_
 have hT:Fz [] [] (rD a) (rD a):=.refl _;change AC C0 F none F _ ⟨Dg 0 [.sl false 1 ((Aa a).map Ac),.sl false 1 ((Aa b).map Ac)],[],0⟩ _;have ea:((((Aa a).map Ac).length:Nat):Int)=((Aa a).length:Int):=by rw[Ag]
 have eb:((((Aa b).map Ac).length:Nat):Int)=((Aa b).length:Int):=by rw[Ag]
 have I0:PE a b 0 0 []:=⟨rfl,(λx hx=>Af hx Dk),BU _,by simp[AR],.inl rfl⟩
 refine sR 0 ?_;refine sR 100 ?_;refine sR 200 ?_;refine AC.seq ?_;refine sR 300 ?_;refine AC.block ?_;refine AC.loop (α:=Nat×Nat×List Nat×List D×Nat×Nat) (λp=>⟨[(0,.sl false 1 ((Aa a).map Ac)),(1,.sl false 1 ((Aa b).map Ac)),(5,EI 704 p.2.2.2.2.1 1 p.2.2.2.1),(6,Ac p.2.1),(7,Ac p.1)],EC 704 p.2.2.2.2.1 3 1 p.2.2.2.1,p.2.2.2.2.2⟩)
  (λp=>(max (Aa a).length (Aa b).length-p.1)*2+p.2.1) (λp=>PE a b p.1 p.2.1 p.2.2.1/\p.2.2.2.1=p.2.2.1.map Ac/\p.1<=max (Aa a).length (Aa b).length+1) (0,0,[],[],0,_) ⟨I0,rfl,BU _⟩ AL ?_
 rintro⟨i,c,out,L,g,n⟩ F ⟨I,hL,hi⟩;dsimp only at I hL hi⊢;have c1:=I.c1;have hol:=I.len;refine AC.seq ?_;refine DE (α:=Nat) (λn=>⟨[(0,.sl false 1 ((Aa a).map Ac)),(1,.sl false 1 ((Aa b).map Ac)),(5,EI 704 g 1 L),(6,Ac c),(7,Ac i),(22,Ai (decide (i<(Aa a).length\/i<(Aa b).length\/0<c)))],EC 704 g 3 1 L,n⟩) (λ_=>True) ?_ ?_
 ·generalize EI 704 g 1 L=od at*
  generalize EC 704 g 3 1 L=oh at*
  by_cases h1:i<(Aa a).length
  ·have e1:decide ((i:Int)<((Aa a).length:Int))=true:=BV
   have e:decide (i<(Aa a).length\/i<(Aa b).length\/0<c)=true:=Au (.inl h1);rw[e];refine Ao 400 ?_;refine AW (Ab ea e1) ?_;refine AD kT ?_;refine AD kT ?_;exact⟨trivial,_,trivial,AL⟩
  ·have e1:decide ((i:Int)<((Aa a).length:Int))=false:=Bc
   by_cases h2:i<(Aa b).length
   ·have e2:decide ((i:Int)<((Aa b).length:Int))=true:=BV
    have e:decide (i<(Aa a).length\/i<(Aa b).length\/0<c)=true:=Au (.inr (.inl h2));rw[e];refine Ao 400 ?_;refine AW (Ab ea e1) ?_;refine AD kF ?_;simp only[eb,e2];refine AD kT ?_;exact⟨trivial,_,trivial,AL⟩
   ·have e2:decide ((i:Int)<((Aa b).length:Int))=false:=Bc
    have e:decide ((c:Int)>0)=decide (i<(Aa a).length\/i<(Aa b).length\/0<c):=by rw[DA];omega
    rw[<-e];refine Ao 400 ?_;refine AW (Ab ea e1) ?_;refine AD kF ?_;simp only[eb,e2];refine AD kF ?_;exact⟨trivial,_,trivial,AL⟩
 rintro n2 -
 by_cases h:i<(Aa a).length\/i<(Aa b).length\/0<c
 ·obtain⟨J,hs⟩:=mu I h
  have d1:=Uh (Aa a) i (by omega) (by omega);have d2:=Uh (Aa b) i (by omega) (by omega);unfold rL at d1 d2;have hmu:∀c',c'<=1->(max (Aa a).length (Aa b).length<=i->c'=0)->(max (Aa a).length (Aa b).length-(i+1))*2+c'<(max (Aa a).length (Aa b).length-i)*2+c:=λc' h1 h2=>by
   rcases BA i (max (Aa a).length (Aa b).length)with h3|h3
   ·omega
   ·have:=h2 h3;omega
  have hmu2:max (Aa a).length (Aa b).length<=i->((Aa a).getD i 0+(Aa b).getD i 0+c)/RB=0:=λh3=>by
   rw[Do,Dy (by omega),Do,Dy (by omega)];show(0+0+c)/1000000000=0;omega
  have hbnd:i<max (Aa a).length (Aa b).length+1:=by
   rcases h with h|h|h
   ·omega
   ·omega
   ·rcases BA i (max (Aa a).length (Aa b).length+1)with h3|h3
    ·exact h3
    ·exfalso
     obtain⟨len,wd,_,val,_⟩:=I;have hc:c=1:=by omega
     subst hc;rw[Gj,Gj,ES,ES,EO]at val;have l1:=JP a;have l2:=JP b;have m1:RB^(Aa a).length<=RB^max (Aa a).length (Aa b).length:=FO (by decide) (Nat.le_max_left _ _);have m2:RB^(Aa b).length<=RB^max (Aa a).length (Aa b).length:=FO (by decide) (Nat.le_max_right _ _);have m3:RB^(max (Aa a).length (Aa b).length+1)<=RB^i:=FO (by decide) h3;rw[CQ]at m3;generalize RB^max (Aa a).length (Aa b).length=Q at*;change Q*1000000000<=_ at m3;omega
  have hmu3:=hmu _ J.c1 hmu2;rw[Au h];generalize hp:(Aa a).getD i 0=p at*;generalize hq:(Aa b).getD i 0=q at*;have k1:IntKind.i64.wrap ((p:Int)+(q:Int))=((p+q:Nat):Int):=by rw[wI (by omega) (by unfold RB at hs;omega)];omega
  have k2:IntKind.i64.wrap (((p+q:Nat):Int)+(c:Int))=((p+q+c:Nat):Int):=by rw[wI (by omega) (by unfold RB at hs;omega)];omega
  have k3:((p+q+c:Nat):Int).tmod 1000000000=(((p+q+c)%RB:Nat):Int):=rfl;have k4:IntKind.i64.wrap (((p+q+c:Nat):Int).tdiv 1000000000)=(((p+q+c)/RB:Nat):Int):=by
   show IntKind.i64.wrap ((((p+q+c)/1000000000:Nat)):Int)=_;exact wN (by unfold RB at hs;omega)
  have wi:IntKind.i64.wrap ((i:Int)+1)=((i+1:Nat):Int):=wI;generalize(p+q+c)%RB=d at*;generalize(p+q+c)/RB=c' at*;have hlo:L.length<=1000001:=by rw[hL,Ag];omega
  have hmo:L++[Ac d]=(out++[d]).map Ac:=by rw[hL,DK];rfl
  clear hmu hmu2 ea eb hL I;refine AN ?_;refine Aj ?_;refine AC.seq ?_;refine AC.block ?_;refine sR 600 ?_;refine cI d1 ?_;refine cI d2 ?_;simp only[k1,k2];refine AC.seq ?_;rcases L with _|⟨x,L⟩
  all_goals
   (try simp only[Bq]at hlo)
   dsimp only[JQ,JR,H7,H8];refine Ao 700 ?_;refine AW k3 ?_;refine Ao 800 ?_;refine AW k4 ?_;refine Ao 500 ?_;refine AW wi ?_
  ·exact⟨(i+1,c',out++[d],[]++[Ac d],_,_),⟨J,hmo,hbnd⟩,hmu3,AL⟩
  ·have htk:List.take (L.length+1) (x::L)=x::L:=by simp
   rw[htk];refine⟨(i+1,c',out++[d],x::L++[Ac d],_,_),⟨J,hmo,hbnd⟩,hmu3,by(dsimp only;rw[OV];exact AL)⟩
 ·rw[Av h]
  have hc:c=0:=by omega
  subst hc;have hout:=mr I (by omega) (by omega);refine AN ?_;refine CK ?_;refine sR 900 ?_;refine Ad ?_;refine⟨_,Rv _ _ _ _ _,?_,?_⟩
  ·rw[hL];exact PA _
  ·rw[hL,hout];rfl
set_option maxHeartbeats 4000000
theorem xe {env:Ap}{t K g T n:Nat}{l:List D}(he:env.get t=EI K g 1 l:=by exact rfl):Wk ⟨env,EC K g T 1 l,n⟩ ⟨[(t,.sl false 1 l)],[],n⟩:=by
 refine⟨?_,⟨?_,trivial⟩,Al _⟩
 ·cases l with
  |nil=>exact .nil
  |cons x l=>exact .drop .nil
 ·dsimp only
  rw[he];exact Rv _ _ _ _ _
theorem qt {env:Ap}{t K g n N:Nat}{z:List Nat}{T:Nat}(hl:z.length=N)(he:env.get t=.osl K g 1 0 N:=by exact rfl):Wk ⟨env,[⟨K,g,T,1,z.map Ac⟩],n⟩ ⟨[(t,.sl false 1 (z.map Ac))],[],n⟩:=by
 subst hl;refine⟨.drop .nil,⟨?_,trivial⟩,Al _⟩;dsimp only;rw[he]
 have:=Rw K g T 1 (z.map Ac)
 rwa [Ag]at this
theorem jg {a v c:Nat}(ha:a<RB)(hv:v<RB)(hc:c<=1):∃d c',d<RB/\c'<=1/\d+v+c=a+RB*c'/\((c'=0/\(a:Int)-v-c=d)\/(c'=1/\(a:Int)-v-c<0/\(a:Int)-v-c+1000000000=d)):=by
 unfold RB at ha hv⊢
 by_cases h:a<v+c
 ·exact⟨a+1000000000-v-c,1,by omega,by omega,by omega,.inr ⟨rfl,by omega,by omega⟩⟩
 ·exact⟨a-v-c,0,by omega,by omega,by omega,.inl ⟨rfl,by omega⟩⟩
theorem gl (a b:Nat)(hab:b<=a)(ha:(Aa a).length<1000000):AK C0 267 [rD a,rD b] (rD (a-b)):=by
 refine AZ.walk w1 uN rfl λF=>?_
 change AC C0 F none F _ ⟨Dg 0 [.sl false 1 ((Aa a).map Ac),.sl false 1 ((Aa b).map Ac)],[],0⟩ _;have hlb:=JM b a hab;have va:=ES a;have vb:=ES b;have wx:=FD a;have wy:=FD b;generalize Aa a=x at*;generalize Aa b=y at*;have ea:(((x.map Ac).length:Nat):Int)=(x.length:Int):=by rw[Ag]
 refine sR 0 ?_;refine sR 100 ?_;refine sR 200 ?_;refine AC.seq ?_;refine sR 300 ?_;refine AC.block ?_;refine AC.loop (α:=Nat×Nat×List Nat×List D×Nat×Nat) (λp=>⟨[(0,.sl false 1 (x.map Ac)),(1,.sl false 1 (y.map Ac)),(5,EI 1103 p.2.2.2.2.1 1 p.2.2.2.1),(6,Ac p.2.1),(7,Ac p.1)],EC 1103 p.2.2.2.2.1 3 1 p.2.2.2.1,p.2.2.2.2.2⟩)
  (λp=>x.length-p.1) (λp=>p.1<=x.length/\p.2.1<=1/\p.2.2.1.length=p.1/\Rd p.2.2.1/\AR p.2.2.1+AR (y.take p.1)=AR (x.take p.1)+RB^p.1*p.2.1/\p.2.2.2.1=p.2.2.1.map Ac) (0,0,[],[],0,_) ⟨BU _,BU _,rfl,(λx hx=>Af hx Dk),by simp[AR],rfl⟩ AL ?_
 rintro⟨i,c,out,L,g,n⟩ F ⟨hi,hc,hol,how,hI,hL⟩;dsimp only at hi hc hol how hI hL⊢;refine AC.seq ?_;refine AC.seq ?_
 by_cases h:i<x.length
 ·have e1:decide ((i:Int)<(x.length:Int))=true:=BV
  obtain⟨p,hp⟩:=Cg h;have hx:=EB hp;have hpl:=wx p (Ay hp);have d2:=Uh y i (by omega) (by omega);unfold rL at d2;have hql:=T9 wy i;have ty:=Td y i;have tx:AR (x.take (i+1))=AR (x.take i)+RB^i*p:=by rw[Fq hp,Hd (i:=i) (by rw[Bi];omega)]
  generalize y.getD i 0=q at*;obtain⟨d,c',hd,hc',hdig,hcase⟩:=jg hpl hql hc;have k1:IntKind.i64.wrap ((p:Int)-(q:Int))=(p:Int)-q:=wI (by unfold RB at*;omega) (by unfold RB at*;omega);have k2:IntKind.i64.wrap ((p:Int)-q-(c:Int))=(p:Int)-q-c:=wI (by unfold RB at*;omega) (by unfold RB at*;omega);have wi:IntKind.i64.wrap ((i:Int)+1)=((i+1:Nat):Int):=wI;have hlo:L.length<=1000001:=by rw[hL,Ag];omega
  have hmo:L++[Ac d]=(out++[d]).map Ac:=by rw[hL,DK];rfl
  have hvn:AR (out++[d])+AR (y.take (i+1))=AR (x.take (i+1))+RB^(i+1)*c':=by
   rw[Hd hol,ty,tx,CQ,Bx];have e3:RB^i*(d+q+c)=RB^i*(p+RB*c'):=by rw[hdig]
   rw[BN,BN,BN (RB^i) p]at e3;omega
  have how':Rd (out++[d]):=Rd.append how λx hx=>by
   simp only[Az,Dk,or_false]at hx;subst hx;exact hd
  have hol':(out++[d]).length=i+1:=by rw[Bp,hol];rfl
  clear hI hL how;refine Ao 400 ?_;refine AW (Ab ea e1) ?_;refine AN ?_;refine Aj ?_;refine AC.seq ?_;refine AC.block ?_;refine AC.seq ?_;refine CM 600 [0,1,2,3,4,5,6,7,8] [9,10] ?_;refine AD kN ?_;refine Bw kT hx ?_;refine AD kN ?_;refine Bb.same _ d2 AI ?_;refine AD (Ab k1 k2) ?_;refine sR 700 ?_;refine DE (α:=Nat) (λn=>⟨[(0,.sl false 1 (x.map Ac)),(1,.sl false 1 (y.map Ac)),(5,EI 1103 g 1 L),(6,Ac c'),(7,Ac i),(8,Ac d)],EC 1103 g 3 1 L,n⟩) (λ_=>True) ?_ ?_
  ·generalize EI 1103 g 1 L=od at*
   generalize EC 1103 g 3 1 L=oh at*;refine AC.seq ?_;rcases hcase with⟨rfl,h2⟩|⟨rfl,h2,h3⟩
   ·have e2:decide ((p:Int)-q-c<0)=false:=Bc
    rw[h2]at e2;rw[h2];refine Ao 800 ?_;refine AW e2 ?_;refine AN ?_;refine Aj ?_;exact⟨rfl,_,trivial,AL⟩
   ·have e2:decide ((p:Int)-q-c<0)=true:=Au h2
    have k3:IntKind.i64.wrap ((p:Int)-q-c+1000000000)=(d:Int):=by rw[h3];exact wI (by unfold RB at*;omega) (by unfold RB at*;omega)
    refine Ao 800 ?_;refine AW e2 ?_;refine AN ?_;refine sZ 900 ?_;refine AW k3 ?_;refine rI 1000 ?_;exact⟨rfl,_,trivial,AL⟩
  rintro n3 -;rcases L with _|⟨x0,L⟩
  all_goals
   (try simp only[Bq]at hlo)
   dsimp only[JQ,JR,H7,H8];refine rI 1100 ?_;refine Ao 500 ?_;refine AW wi ?_
  ·exact⟨(i+1,c',out++[d],[]++[Ac d],_,_),⟨h,hc',hol',how',hvn,hmo⟩,by dsimp only;omega,AL⟩
  ·have htk:List.take (L.length+1) (x0::L)=x0::L:=by simp
   rw[htk];refine⟨(i+1,c',out++[d],x0::L++[Ac d],_,_),⟨h,hc',hol',how',hvn,hmo⟩,by dsimp only;omega,by(dsimp only;rw[OV];exact AL)⟩
 ·have e1:decide ((i:Int)<(x.length:Int))=false:=Bc
  have hix:i=x.length:=by omega
  subst hix;rw[Gj,Gj,va,vb]at hI;have hlt:=Gm how;rw[hol]at hlt;have hxl:=Gm wx;rw[va]at hxl;have hov:AR out=a-b:=by
   rcases ED c with h|h
   ·subst h;rw[E6]at hI;omega
   ·have:c=1:=by omega
    subst this;rw[EO]at hI;omega
  refine Ao 400 ?_;refine AW (Ab ea e1) ?_;refine AN ?_;refine CK ?_;refine AC.weak ⟨[(5,.sl false 1 L)],[],_⟩ xe ?_;rw[hL];refine sR 1200 ?_;refine A7.same _ (ML out how (by omega)) AI ?_;refine BO ?_;refine Ad ?_;exact AJ (by rw[hov]) AA.out
theorem Vu (a b:Nat)(hla:(Aa a).length<1000000)(hlb:(Aa b).length<1000000):AK C0 231 [rD a,rD b] (rD (a*b)):=by
 refine AZ.walk w1 ud rfl λF=>?_
 change AC C0 F none F _ ⟨Dg 0 [.sl false 1 ((Aa a).map Ac),.sl false 1 ((Aa b).map Ac)],[],0⟩ _;have va:=ES a;have vb:=ES b;have ha:=FD a;have hb:=FD b;generalize Aa a=x at*;generalize Aa b=y at*;subst va;subst vb;have ea:(((x.map Ac).length:Nat):Int)=(x.length:Int):=by rw[Ag]
 have eb:(((y.map Ac).length:Nat):Int)=(y.length:Int):=by rw[Ag]
 have wl:IntKind.i64.wrap ((x.length:Int)+(y.length:Int))=((x.length+y.length:Nat):Int):=by rw[wI];omega
 have r3:List.replicate (x.length+y.length) (ofV (.int .i64 0))=(List.replicate (x.length+y.length) 0).map Ac:=by rw[Kf];rfl
 refine sR 0 ?_;refine sZ 100 ?_;refine AW (BS ea eb wl kN) ?_;refine AC.seq ?_;refine sR 200 ?_;refine AC.block ?_;refine AC.loop (α:=Nat×List Nat×Nat) (λp=>⟨[(0,.sl false 1 (x.map Ac)),(1,.sl false 1 (y.map Ac)),(5,.osl 105 6 1 0 (x.length+y.length)),(6,i64 p.1)],[⟨105,6,3,1,p.2.1.map Ac⟩],p.2.2⟩) (λp=>x.length-p.1)
  (λp=>p.1<=x.length/\p.2.1.length=x.length+y.length/\Rd p.2.1/\AR p.2.1=AR (x.take p.1)*AR y/\∀k,p.1+y.length<=k->∀d,p.2.1[k]?=some d->d=0) (0,List.replicate (x.length+y.length) 0,_)
  ⟨BU _,by simp,Tr _,by simp[AR,Wy],λk _ d hd=>P1 (Ay hd)⟩ (by rw[<-r3];exact AL) ?_
 rintro⟨i,o,m⟩ F ⟨h1,h2,h3,h4,h5⟩;dsimp only at h1 h2 h3 h4 h5⊢;refine AC.seq ?_;refine AC.seq ?_
 by_cases hi:i<x.length
 ·have e1:decide ((i:Int)<(x.length:Int))=true:=BV
  obtain⟨p,hp⟩:=Cg hi;have hp':=EB hp;have hpl:p<RB:=ha p (Ay hp);have wi:IntKind.i64.wrap ((i:Int)+1)=((i+1:Nat):Int):=wI;have hax:AR (x.take (i+1))=AR (x.take i)+RB^i*p:=by rw[Fq hp,Hd (i:=i) (by rw[Bi];omega)]
  refine Ao 300 ?_;refine AW (Ab ea e1) ?_;refine AN ?_;refine Aj ?_;refine AC.seq ?_;refine AC.block ?_;refine sR 500 ?_;refine AC.seq ?_;refine sR 600 ?_;refine AC.block ?_;refine AC.loop (α:=Nat×Nat×List Nat×Nat) (λq=>⟨[(0,.sl false 1 (x.map Ac)),(1,.sl false 1 (y.map Ac)),(5,.osl 105 6 1 0 (x.length+y.length)),(6,i64 i),(7,Ac q.2.1),(8,i64 q.1)],[⟨105,6,3,1,q.2.2.1.map Ac⟩],q.2.2.2⟩) (λq=>y.length-q.1)
   (λq=>q.1<=y.length/\q.2.1<RB/\q.2.2.1.length=x.length+y.length/\Rd q.2.2.1/\AR q.2.2.1+RB^(i+q.1)*q.2.1=AR (x.take i)*AR y+RB^i*p*AR (y.take q.1)/\∀k,i+y.length<=k->∀d,q.2.2.1[k]?=some d->d=0) (0,0,o,_)
   ⟨BU _,(show 0<RB by decide),h2,h3,by simp[AR,h4],h5⟩ AL ?_
  rintro⟨j,c,q,m2⟩ F ⟨g1,g2,g3,g4,g5,g6⟩;dsimp only at g1 g2 g3 g4 g5 g6⊢;clear h2 h3 h4 h5 r3 wl;refine AC.seq ?_;refine AC.seq ?_
  by_cases hj:j<y.length
  ·have e2:decide ((j:Int)<(y.length:Int))=true:=BV
   obtain⟨r,hr⟩:=Cg hj;have hr':=EB hr;have hrl:r<RB:=hb r (Ay hr);obtain⟨z,hz⟩:=Cg (l:=q) (i:=i+j) (by omega);have hz':=EB hz;have hzl:z<RB:=g4 z (Ay hz);have wj:IntKind.i64.wrap ((j:Int)+1)=((j+1:Nat):Int):=wI;have wij:IntKind.i64.wrap ((i:Int)+(j:Int))=((i+j:Nat):Int):=by rw[wI];omega
   have hbx:AR (y.take (j+1))=AR (y.take j)+RB^j*r:=by rw[Fq hr,Hd (i:=j) (by rw[Bi];omega)]
   have hpr:p*r<=999999999*999999999:=F9 (by unfold RB at hpl;omega) (by unfold RB at hrl;omega);have k0:IntKind.i64.wrap ((p:Int)*(r:Int))=((p*r:Nat):Int):=by rw[<-E7,wI]
   have k1:IntKind.i64.wrap ((z:Int)+((p*r:Nat):Int))=((z+p*r:Nat):Int):=by rw[wI (by omega) (by unfold RB at*;omega)];omega
   have k2:IntKind.i64.wrap (((z+p*r:Nat):Int)+(c:Int))=((z+p*r+c:Nat):Int):=by rw[wI (by omega) (by unfold RB at*;omega)];omega
   have hs:=OS (d:=(z+p*r+c)%RB) hz;have e:=FM (z+p*r+c) RB;have hq:(z+p*r+c)/RB<RB:=Fk (by unfold RB at*;omega);have hd:(z+p*r+c)%RB<RB:=B7 _ (by decide);have k3:((z+p*r+c:Nat):Int).tmod 1000000000=(((z+p*r+c)%RB:Nat):Int):=rfl;have k4:IntKind.i64.wrap (((z+p*r+c:Nat):Int).tdiv 1000000000)=(((z+p*r+c)/RB:Nat):Int):=by
    show IntKind.i64.wrap ((((z+p*r+c)/1000000000:Nat)):Int)=_;exact wN (by change(z+p*r+c)/RB<=_;unfold RB at hq⊢;omega)
   have hval:AR (q.set (i+j) ((z+p*r+c)%RB))+RB^(i+(j+1))*((z+p*r+c)/RB)=AR (x.take i)*AR y+RB^i*p*AR (y.take (j+1)):=by
    rw[hbx,BN,<-E5 (AR (x.take i)*AR y),<-g5];have h6:RB^(i+j)*((z+p*r+c)%RB)+RB^(i+(j+1))*((z+p*r+c)/RB)=RB^i*p*(RB^j*r)+RB^(i+j)*z+RB^(i+j)*c:=by
     have:RB^i*p*(RB^j*r)=RB^(i+j)*(p*r):=by
      rw[Ge,Bx,Bx,JB p]
     rw[this,<-E5 i j 1,CQ,Bx,<-BN,<-BN,<-BN,e]
     congr 1;omega
    omega
   generalize(z+p*r+c)%RB=d at*;generalize(z+p*r+c)/RB=c' at*;clear hs e g5 hax hbx;refine Ao 700 ?_;refine AW (Ab eb e2) ?_;refine AN ?_;refine Aj ?_;refine AC.seq ?_;refine AC.block ?_;refine AC.seq ?_;refine CM 900 [0,1,2,3,4,5,6,7,8,9,10,11,12,13,14,15,16] [17,18] ?_;refine AD (BS wij kN BZ hz') ?_;refine Bw kT hp' ?_;refine AD (BS wij kN BZ hz') ?_;refine Bw kT hr' ?_;refine AD (Ar k0 k1 k2) ?_;refine sZ 1000 ?_;refine AD (CI wij kN BZ hz' k3) ?_;rw[NS];refine Ao 1100 ?_;refine AW k4 ?_;refine Ao 800 ?_;refine AW wj ?_;refine⟨(j+1,c',q.set (i+j) d,_),⟨hj,hq,by dsimp only;rw[D9];exact g3,g4.set hd,hval,λk hk d hd=>?_⟩,by dsimp only;omega,AL⟩;dsimp only at hk hd;rw[I9 (by omega)]at hd;exact g6 k hk d hd
  ·have e2:decide ((j:Int)<(y.length:Int))=false:=Bc
   have hj:j=y.length:=by omega
   subst hj;obtain⟨z,hz⟩:=Cg (l:=q) (i:=i+y.length) (by omega);have hz0:z=0:=g6 _ (Al _) _ hz;subst hz0;have hz':=EB hz;have wij:IntKind.i64.wrap ((i:Int)+(y.length:Int))=((i+y.length:Nat):Int):=by rw[wI];omega
   have wij0:IntKind.i64.wrap ((i:Int)+(((y.map Ac).length:Nat):Int))=((i+y.length:Nat):Int):=by rw[eb];exact wij
   have k1:IntKind.i64.wrap (((0:Nat):Int)+(c:Int))=(c:Int):=by rw[wI (by omega) (by unfold RB at*;omega)];omega
   have hs:=OS (d:=c) hz;rw[Ch (Al _)]at g5;have hval:AR (q.set (i+y.length) c)=AR (x.take (i+1))*AR y:=by
    rw[hax,Bv];omega
   clear hs g5 hax;refine Ao 700 ?_;refine AW (Ab eb e2) ?_;refine AN ?_;refine CK ?_;refine Ao 1200 ?_;refine AD (Ek eb wij kN BZ hz' k1) ?_;rw[NS];refine Ao 400 ?_;refine AW wi ?_;refine⟨(i+1,q.set (i+y.length) c,_),⟨hi,by dsimp only;rw[D9];exact g3,g4.set g2,hval,λk hk d hd=>?_⟩,by dsimp only;omega,AL⟩;dsimp only at hk hd;rw[I9 (by omega)]at hd;exact g6 k (by omega) d hd
 ·have e1:decide ((i:Int)<(x.length:Int))=false:=Bc
  have hi:i=x.length:=by omega
  subst hi;rw[Ch (Al _)]at h4;refine Ao 300 ?_;refine AW (Ab ea e1) ?_;refine AN ?_;refine CK ?_;refine AC.weak ⟨[(5,.sl false 1 (o.map Ac))],[],_⟩ (qt h2) ?_;refine sR 1300 ?_;refine A7.same _ (ML o h3 (by omega)) AI ?_;refine BO ?_;refine Ad ?_;exact AJ (by rw[h4]) AA.out
theorem Pe (a b:Nat)(h:a/b<=9223372036854775807):IntKind.i64.wrap ((a:Int).tdiv (b:Int))=((a/b:Nat):Int):=by
 rw[<-Int.ofNat_tdiv];exact wN h
theorem SZ (a b:Nat):(a:Int).tmod (b:Int)=((a%b:Nat):Int):=(Int.ofNat_tmod a b).symm
theorem oP {env:Ap}{t K g n N t2:Nat}{z:List Nat}{T:Nat}{d2:D}(hl:z.length=N)(he:env.get t=.osl K g 1 0 N:=by exact rfl)(h2:env.get t2=d2:=by exact rfl):Wk ⟨env,[⟨K,g,T,1,z.map Ac⟩],n⟩ ⟨[(t,.sl false 1 (z.map Ac)),(t2,d2)],[],n⟩:=by
 subst hl;refine⟨.drop .nil,⟨?_,?_,trivial⟩,Al _⟩
 ·dsimp only
  rw[he]
  have:=Rw K g T 1 (z.map Ac)
  rwa [Ag]at this
 ·dsimp only
  rw[h2];exact .refl _
theorem oX {r p d:Nat}(h:r*RB+p<d*RB)(hd:d<RB):IntKind.i64.wrap ((r:Int)*1000000000)=((r*RB:Nat):Int)/\IntKind.i64.wrap (((r*RB:Nat):Int)+(p:Int))=((r*RB+p:Nat):Int):=by
 unfold RB at*;refine⟨?_,?_⟩
 ·rw[wI];omega
 ·rw[wI];omega
theorem XZ (a d:Nat)(hd:0<d)(hdl:d<RB)(hl:(Aa a).length<1000000):AK C0 268 [rD a,Ac d] (.tup [rD (a/d),Ac (a%d)]):=by
 refine AZ.walk w1 uo rfl λF=>?_
 change AC C0 F none F _ ⟨Dg 0 [.sl false 1 ((Aa a).map Ac),Ac d],[],0⟩ _;have va:=ES a;have wa:=FD a;generalize Aa a=x at*;have ea:(((x.map Ac).length:Nat):Int)=(x.length:Int):=by rw[Ag]
 have wl:IntKind.i64.wrap ((x.length:Int)-1)=(x.length:Int)-1:=wI;have r3:List.replicate x.length (ofV (.int .i64 0))=(List.replicate x.length 0).map Ac:=by rw[Kf];rfl
 have d0:¬(d:Int)=0:=by omega
 refine sR 0 ?_;refine sZ 100 ?_;refine AW (Ab ea kN) ?_;refine sR 200 ?_;refine AC.seq ?_;refine sZ 300 ?_;refine AW (Ab ea wl) ?_;refine AC.block ?_;refine AC.loop (α:=Nat×Nat×List Nat×Nat) (λp=>⟨[(0,.sl false 1 (x.map Ac)),(1,Ac d),(6,.osl 102 4 1 0 x.length),(7,Ac p.2.1),(8,i64 ((p.1:Int)-1))],[⟨102,4,3,1,p.2.2.1.map Ac⟩],p.2.2.2⟩) (λp=>p.1)
  (λp=>p.1<=x.length/\p.2.1<d/\p.2.2.1.length=x.length/\Rd p.2.2.1/\AR (p.2.2.1.drop p.1)*d+p.2.1=AR (x.drop p.1)) (x.length,0,List.replicate x.length 0,_)
  ⟨Al _,hd,by simp,Tr _,by simp[AR]⟩ (by rw[<-r3];exact AL) ?_
 rintro⟨k,r,q,m⟩ F ⟨h1,h2,h3,h4,h5⟩;dsimp only at h1 h2 h3 h4 h5⊢;clear ea wl r3;refine AC.seq ?_;refine sR 400 ?_;refine AN ?_
 (refine B1 (λh20=>?_) (λh20=>?_))<;>(try simp only[Bl,Bz]at h20)<;>(try simp only[h20])
 ·obtain⟨j,rfl⟩:∃j,k=j+1:=⟨k-1,by
   have:=DJ h20
   omega⟩
  have wj:((j+1:Nat):Int)-1=(j:Int):=by omega
  obtain⟨p,hp⟩:=Cg (l:=x) (i:=j) (by omega);obtain⟨z,hz⟩:=Cg (l:=q) (i:=j) (by omega);have hp':=EB hp;have hz':=EB hz;have hpl:=wa p (Ay hp);obtain⟨J1,J2⟩:=jb hd hp (by omega) h5;have hsb:r*RB+p<d*RB:=by
   have:(r+1)*RB<=d*RB:=CP _ h2
   rw[Bv]at this;omega
  have hql:(r*RB+p)/d<RB:=Fk hsb;obtain⟨k1,k2⟩:=oX hsb hdl;have k3:=Pe (r*RB+p) d (BT (Jn hql) (by decide));have k4:=SZ (r*RB+p) d;have wi:IntKind.i64.wrap ((j:Int)-1)=(j:Int)-1:=wI;generalize(r*RB+p)/d=e at*;generalize(r*RB+p)%d=r' at*;rw[wj];refine Aj ?_;refine AC.seq ?_;refine AC.block ?_;refine sZ 600 ?_;refine AD kN ?_;refine Bw kT hp' ?_;refine AD (Ab k1 k2) ?_;refine sZ 700 ?_;refine AD (BS kN BZ hz' k3) ?_;rw[NS];refine Ao 800 ?_;refine AW k4 ?_;refine Ao 500 ?_;refine AW wi ?_;exact⟨(j,r',q.set j e,_),⟨by dsimp only;omega,J2,by dsimp only;rw[D9];exact h3,h4.set hql,J1⟩,by dsimp only;omega,AL⟩
 ·have hk:k=0:=by
   have:=Db h20
   omega
  subst hk;rw[Fi,Fi,va]at h5;obtain⟨q1,q2⟩:=Qm h5 h2;refine CK ?_;refine AC.weak ⟨[(6,.sl false 1 (q.map Ac)),(7,Ac r)],[],_⟩ (oP h3) ?_;refine sR 900 ?_;refine A7.same _ (ML q h4 (by omega)) AI ?_;refine BO ?_;refine Ad ?_;exact AJ (by rw[q1,q2]) AA.out
structure KF (U V n2 v1 p1 q r:Nat):Prop where
 eq:q*v1+r=n2
 up:U<(q+1)*V
 cap:n2<=v1*RB+p1
 p1l:p1<RB
namespace KF
variable {U V n2 v1 p1 q r:Nat} (G:KF U V n2 v1 p1 q r)
include G
theorem small (h:RB<=r):q<RB:=by
 rcases BA q RB with h1|h1
 ·exact h1
 ·exfalso
  have h2:=CP v1 h1;have h3:=G.eq;have h4:=G.cap;have h5:=G.p1l;rw[BY RB v1]at h2;omega
theorem qle (hv:0<v1):q<=2*RB:=by
 rcases BA (2*RB) q with h1|h1
 ·exfalso
  have h2:=CP v1 h1;have h3:=G.eq;have h4:=G.cap;have h5:=G.p1l;have h6:RB*1<=RB*v1:=Cr _ hv;rw[Nat.succ_mul,Bx,BY RB v1]at h2;rw[BY RB v1]at h6;omega
 ·exact h1
end KF
section
variable {P v:List Nat} {m p0 p1 p2 v2 v1:Nat} (S:LI P v m p0 p1 p2 v2 v1)
include S
theorem jS:KF (AR P) (AR v) (p1+RB*p2) v1 p1 ((p2*RB+p1)/v1) ((p2*RB+p1)%v1):=by
 have c0:p2*RB+p1=p1+RB*p2:=by rw[BY,Lj]
 rw[c0];have e:=E3 (p1+RB*p2) v1;have l:=B7 (p1+RB*p2) S.top;have c1:=BY v1 ((p1+RB*p2)/v1);refine⟨by omega,W9 S.below2 S.abovev ?_,?_,S.p1l⟩
 ·rw[Bv];omega
 ·have:=Cr RB S.p2v1
  rw[BY v1];omega
theorem jn {q r:Nat}(G:KF (AR P) (AR v) (p1+RB*p2) v1 p1 q r)(h:RB<=q\/r*RB+p0<q*v2):0<q/\KF (AR P) (AR v) (p1+RB*p2) v1 p1 (q-1) (r+v1):=by
 obtain⟨e,u,cp,pl⟩:=G;have hq:0<q:=by
  rcases h with h|h
  ·unfold RB at h;omega
  ·rcases ED q with h0|h0
   ·subst h0;omega
   ·exact h0
 obtain⟨k,rfl⟩:∃k,q=k+1:=⟨q-1,by omega⟩
 refine⟨hq,⟨?_,?_,cp,pl⟩⟩
 ·rw[IY,<-e,Bv];omega
 ·rw[IY]
  rcases h with h|h
  ·have h1:AR v*RB<=(k+1)*AR v:=by rw[BY];exact CP _ h
   have:=S.less
   omega
  ·have e2:(k+1)*(v2+RB*v1)=(k+1)*v2+RB*((k+1)*v1):=by rw[BN,JB]
   refine Xi S.below3 S.abovev2 ?_;rw[e2,<-e,BN RB,BY RB r];omega
theorem XA {q r:Nat}(G:KF (AR P) (AR v) (p1+RB*p2) v1 p1 q r)(h:RB<=r\/(q<RB/\q*v2<=r*RB+p0)):q<RB/\q*AR v<=AR P+AR v:=by
 have hqB:q<RB:=by
  rcases h with h|h
  ·exact G.small h
  ·exact h.1
 obtain⟨e,u,cp,pl⟩:=G;have h5:=S.v2l;have hq:q*v2<=r*RB+p0:=by
  rcases h with h|h
  ·have h2:q*v2<=RB*RB:=F9 (by omega) (by omega)
   have h3:RB*RB<=r*RB:=CP _ h;omega
  ·exact h.2
 have e2:q*(v2+RB*v1)=q*v2+RB*(q*v1):=by rw[BN,JB]
 refine⟨hqB,Xx (n3:=p0+RB*(p1+RB*p2)) (D:=v2+RB*v1) (P:=RB^m) (B:=RB) (v:=AR (v.take m)) ?_ ?_ S.lowv ?_ (by omega) ?_⟩
 ·rw[S.valP,BY];omega
 ·rw[S.valv,BY];omega
 ·rw[e2,<-e,BN RB,BY RB r]
  omega
 ·have:=S.top
  have h1:=Cr RB (show 1<=v1 from this);omega
end
theorem DO.of {H:Hp}{d0 d:D}(h:Fz H [] d0 d):DO H d0 d:=λ_ _ _ _ m hO hN _ hv=>h.rep m hO (λe he b hb _=>hN e he b hb) hv
theorem e0C {C:A9}{f:Nat}{ds ds':List D}{Φ:D->Prop}{H:Hp}{n:Nat}(hc:AZ C f ds' Φ)(hl:ds'.length=ds.length)(hv:∀(i:Nat) (a b:D),ds[i]?=some a->ds'[i]?=some b->DO H a b)
  (hp:Ah ds') (hflat:∀d,Φ d->KQ d):Ct C f ds H n (λd' H' n'=>Φ d'/\H'=H/\n'=n+1):=by
 refine⟨hc.1,λF ρ w vs m hfr hg hvs hr=>?_⟩;have hH:Cw H [] H []:=by
  generalize H=H0
  have:∀H1:Hp,Cw H0 [] H1 []:=λH1=>by
   induction H1 with
   |nil=>exact .nil
   |cons e r ih=>exact .drop ih
  exact this H0
 obtain⟨m',hO,hN⟩:=hH.mem m;refine(hc.2 (AM F.X ρ []) w vs m.g (BT m.gn m.size) (λb hb=>m'.own_lt hb) (by omega) λi x hx=>?_).mono ?_
 ·have hi:i<ds'.length:=(BQ.1 hx).1
  have hd0:ds[i]?=some ds[i]:=Cf;exact hp.out x (Ay hx) _ _ _ _ _ (hv i _ x hd0 hx C F ρ w m hO (λe he b hb=>hN e he b hb rfl) _ (hr i _ hd0))
 ·rintro e w' ⟨v,d',rfl,hb,hd',rep⟩
  have x:BX ρ (AM F.X ρ H) w ρ (AM F.X ρ H) w':=⟨hb.size,λ_ _ _ h=>h,λb hb' hO=>⟨hO,hb.block b hb'⟩,λb cs T fz hh=>⟨cs,_,by
   rw[hb.block b (C7.1 hh).1];exact hh,rfl⟩⟩
  exact⟨v,_,H,n+1,ρ,rfl,⟨hd',rfl,rfl⟩,m.same x hb.os hb.tape hb.output hb.block,x,λk g hg'=>hfr k g (by omega),λe he=>Dc (hg e he),hflat _ hd' _ _ _ _ _ _ _ rep⟩
def Yd (P v:List Nat)(d:D):Prop:=∃q,d=Ac q/\q<RB/\AR P<(q+1)*AR v/\q*AR v<=AR P+AR v
theorem nH {p2 p1 v1:Nat}(h1:p1<RB)(h2:p2<RB):IntKind.i64.wrap ((p2:Int)*1000000000)=((p2*RB:Nat):Int)/\IntKind.i64.wrap (((p2*RB:Nat):Int)+(p1:Int))=((p2*RB+p1:Nat):Int) /\
  IntKind.i64.wrap (((p2*RB+p1:Nat):Int).tdiv (v1:Int))=(((p2*RB+p1)/v1:Nat):Int):=by
 have h3:=GJ (p2*RB+p1) v1;unfold RB at*;refine⟨?_,?_,?_⟩
 ·rw[wI];omega
 ·rw[wI];omega
 ·exact Pe _ _ (by omega)
theorem kZ {t r v2 p0:Nat}(ht:t<RB)(hr:r<RB)(h2:v2<RB)(h0:p0<RB):IntKind.i64.wrap ((t:Int)*(v2:Int))=((t*v2:Nat):Int)/\IntKind.i64.wrap ((r:Int)*1000000000)=((r*RB:Nat):Int) /\
  IntKind.i64.wrap (((r*RB:Nat):Int)+(p0:Int))=((r*RB+p0:Nat):Int):=by
 have h3:t*v2<=999999999*999999999:=F9 (by unfold RB at ht;omega) (by unfold RB at h2;omega);unfold RB at*;refine⟨?_,?_,?_⟩
 ·rw[<-E7,wI]
 ·rw[wI];omega
 ·rw[wI];omega
theorem rX {t v2 r p0:Nat}(h:t<RB):decide (((t*v2:Nat):Int)>((r*RB+p0:Nat):Int))=decide (RB<=t\/r*RB+p0<t*v2):=
 DA.2 ⟨λh1=>.inr (Int.ofNat_lt.1 h1),λh1=>Int.ofNat_lt.2 (h1.resolve_left (Nat.not_le.2 h))⟩
theorem rY {t v2 r p0:Nat}(h:¬(RB<=t\/r*RB+p0<t*v2)):t<RB/\t*v2<=r*RB+p0:=⟨Nat.lt_of_not_le λh1=>h (.inl h1),Nat.le_of_not_lt λh1=>h (.inr h1)⟩
theorem r5 {P v:List Nat}{m p0 p1 p2 v2 v1:Nat}(S:LI P v m p0 p1 p2 v2 v1):∃a1 T q0 r0:Nat,IntKind.i64.wrap ((p2:Int)*1000000000)=(a1:Int)/\IntKind.i64.wrap ((a1:Int)+(p1:Int))=(T:Int) /\
  IntKind.i64.wrap ((T:Int).tdiv (v1:Int))=(q0:Int)/\(T:Int).tmod (v1:Int)=(r0:Int)/\KF (AR P) (AR v) (p1+RB*p2) v1 p1 q0 r0/\r0<RB:=by
 obtain⟨k1,k2,k3⟩:=nH (v1:=v1) S.p1l S.p2l;exact⟨_,_,_,_,k1,k2,k3,SZ _ v1,jS S,Gf (B7 _ S.top) S.v1l⟩
theorem nY {t r v2 p0:Nat}(ht:t<RB)(hr:r<RB)(h2:v2<RB)(h0:p0<RB):∃a1 a2 a3:Nat,IntKind.i64.wrap ((t:Int)*(v2:Int))=(a3:Int)/\IntKind.i64.wrap ((r:Int)*1000000000)=(a1:Int) /\
  IntKind.i64.wrap ((a1:Int)+(p0:Int))=(a2:Int)/\decide ((a3:Int)>(a2:Int))=decide (RB<=t\/r*RB+p0<t*v2):=by
 obtain⟨q1,q2,q3⟩:=kZ ht hr h2 h0;exact⟨_,_,_,q1,q2,q3,rX ht⟩
theorem qR (U v:List Nat)(j m p0 p1 p2 v2 v1:Nat)(S:LI ((U.drop j).take (m+3)) v m p0 p1 p2 v2 v1)(hj:j+(m+3)<=U.length)(hU:U.length<4000000):AZ C0 270 [rL U,rL v,Ac j] (Yd ((U.drop j).take (m+3)) v):=by
 refine AZ.walk w1 uq rfl λF=>?_
 unfold rL;have hg:∀ {k p:Nat},((U.drop j).take (m+3))[k]?=some p->U[j+k]?=some p:=λ{k p} h=>by
  rw[FP]at h;split at h
  ·rwa [G3]at h
  ·cases h
 have u0:=EB (hg S.h0);have u1:=EB (hg S.h1);have u2:=EB (hg S.h2);have y1:=EB S.g1;have y2:=EB S.g2;have l0:=S.p0l;have l1:=S.p1l;have l2:=S.p2l;have lv1:=S.v1l;have lv2:=S.v2l;have ev:(((v.map Ac).length:Nat):Int)=((m+2:Nat):Int):=by rw[Ag,S.lv]
 have eu:(((U.map Ac).length:Nat):Int)=(U.length:Int):=by rw[Ag]
 have w0:IntKind.i64.wrap ((j:Int)+((m+2:Nat):Int))=((j+(m+2):Nat):Int):=by rw[wI];omega
 have wa:IntKind.i64.wrap (((j+(m+2):Nat):Int)-1)=((j+(m+1):Nat):Int):=by rw[wI];omega
 have wb:IntKind.i64.wrap (((j+(m+2):Nat):Int)-2)=((j+m:Nat):Int):=by rw[wI];omega
 have wc:IntKind.i64.wrap (((m+2:Nat):Int)-1)=((m+1:Nat):Int):=by rw[wI];omega
 have wd:IntKind.i64.wrap (((m+2:Nat):Int)-2)=(m:Int):=by rw[wI];omega
 have ra:IntKind.i64.wrap (IntKind.i64.wrap ((j:Int)+((m+2:Nat):Int))-1)=((j+(m+1):Nat):Int):=by rw[w0,wa]
 have rb:IntKind.i64.wrap (IntKind.i64.wrap ((j:Int)+((m+2:Nat):Int))-2)=((j+m:Nat):Int):=by rw[w0,wb]
 obtain⟨a1,T,q0,r0,k1,k2,k3,k4,G0,hr0⟩:=r5 S;have v0:¬(v1:Int)=0:=by have:=S.top;omega
 have hvl:=S.lv;refine sR 0 ?_;refine sZ 100 ?_;refine AW ev ?_;refine AC.seq ?_;refine CM 200 [0,1,2,3,4,5,6,7,8,9,10,11,12,13] [14,15] ?_;refine AD (BS w0 wa ra kN) ?_;refine Bw kT u2 ?_;refine AD (BS w0 wa ra kN) ?_;refine Bw kT u1 ?_;refine AD (Ek w0 wa ra kN k1 k2) ?_;refine AC.seq ?_;refine CM 300 [0,1,2,3,4,5,6,7,8,9,10,11,12,13,14] [15] ?_;refine AD (Ab wc kN) ?_;refine Bw kT y1 ?_;refine AD (Ab wc kN) ?_;refine Bw kT y1 ?_;refine AD (BS wc kN k3 k4) ?_;refine DE (α:=Nat×Nat) (λp=>⟨[(9,Ac p.1)],[],p.2⟩) (λp=>p.1<RB/\AR ((U.drop j).take (m+3))<(p.1+1)*AR v/\p.1*AR v<=AR ((U.drop j).take (m+3))+AR v) ?_ ?_
 ·refine AC.block ?_
  refine Gb (α:=Nat×Nat×Nat) (λp=>⟨[(0,.sl false 1 (U.map Ac)),(1,.sl false 1 (v.map Ac)),(2,Ac j),(7,i64 ((m+2:Nat):Int)),(9,Ac p.1),(10,Ac p.2.1)],[],p.2.2⟩) (λp=>p.1)
   (λp F'=>F'=F/\KF (AR ((U.drop j).take (m+3))) (AR v) (p1+RB*p2) v1 p1 p.1 p.2.1/\p.2.1<RB) (q0,r0,_) ⟨rfl,G0,hr0⟩ AL ?_
  rintro⟨t,r,n⟩ F' ⟨rfl,G,hr⟩;dsimp only at G hr⊢;clear G0 hr0 k1 k2 k3 k4 u1 u2 ra wa;have htl:=G.qle S.top;obtain⟨b,hb⟩:∃b,b=decide (RB<=t\/r*RB+p0<t*v2):=⟨_,rfl⟩
  refine AC.seq ?_;refine DE (α:=Nat) (λn=>⟨[(0,.sl false 1 (U.map Ac)),(1,.sl false 1 (v.map Ac)),(2,Ac j),(7,i64 ((m+2:Nat):Int)),(9,Ac t),(10,Ac r),(63,Ai b)],[],n⟩) (λ_=>True) ?_ ?_
  ·rcases BA t RB with h|h
   ·have e1:decide ((t:Int)>=1000000000)=false:=Av (by unfold RB at h;omega)
    obtain⟨a1,a2,a3,q1,q2,q3,q4⟩:=nY h hr lv2 l0;rw[<-hb]at q4;clear hb;rw[<-q4];refine CM 400 [0,1,2,3,4,5,6,7,8,9,10,11,12,13,14,15,16,17,18,19] [20,21] ?_;refine AD e1 ?_;refine AD (Ar kF wd kN) ?_;refine Bw kF y2 ?_;refine AD (CI kF w0 wb rb kN) ?_;refine Bw kF u0 ?_;refine AD (BS kF q1 q2 q3) ?_;refine AD kF ?_;exact⟨trivial,_,trivial,AL⟩
   ·have e1:decide ((t:Int)>=1000000000)=true:=Au (by unfold RB at h;omega)
    have e2:b=true:=hb.trans (Au (.inl h));subst e2;refine CM 400 [0,1,2,3,4,5,6,7,8,9,10,11,12,13,14,15,16,17,18,19] [20,21] ?_;refine AD e1 ?_;refine AD kT ?_;refine AD kT ?_;exact⟨trivial,_,trivial,AL⟩
  rintro n2 -;cases b with
  |true=>
   have hc:=DJ hb.symm;obtain⟨t0,G2⟩:=jn S G hc;have j1:IntKind.i64.wrap ((t:Int)-1)=((t-1:Nat):Int):=by rw[wI (by omega) (by unfold RB at htl;omega)];omega
   have j2:IntKind.i64.wrap ((r:Int)+(v1:Int))=((r+v1:Nat):Int):=by rw[wI (by omega) (by unfold RB at hr lv1;omega)];omega
   clear hc hb;refine AN ?_;refine Aj ?_;refine AC.block ?_;refine sZ 500 ?_;refine AW j1 ?_;refine sZ 600 ?_;refine AD (Ab wc kN) ?_;refine Bw kT y1 ?_;refine AD j2 ?_;refine AC.seq ?_;rcases BA (r+v1) RB with h|h
   ·have e3:decide (((r+v1:Nat):Int)>=1000000000)=false:=Av (by unfold RB at h;omega)
    refine Ao 700 ?_;refine AW e3 ?_;refine AN ?_;refine Aj ?_;exact⟨(t-1,r+v1,_),⟨rfl,G2,h⟩,by dsimp only;omega,AL⟩
   ·have e3:decide (((r+v1:Nat):Int)>=1000000000)=true:=Au (by unfold RB at h;omega)
    obtain⟨g1,g2⟩:=XA S G2 (.inl h);refine Ao 700 ?_;refine AW e3 ?_;refine AN ?_;refine sR 800 ?_;refine Ad ?_;exact⟨_,.refl _,AA.out,t-1,rfl,g1,G2.up,g2⟩
  |false=>
   have hc:=Db hb.symm;obtain⟨g1,g2⟩:=XA S G (.inr (rY hc));clear hc hb;refine AN ?_;refine CK ?_;exact⟨rfl,⟨t,_⟩,⟨g1,G.up,g2⟩,AL⟩
 rintro⟨q,n⟩ ⟨g1,g2,g3⟩;dsimp only at g1 g2 g3⊢;refine sR 900 ?_;refine Ad ?_;exact⟨_,.refl _,AA.out,q,rfl,g1,g2,g3⟩
def PQ (k g k' n:Nat)(env:Ap):Ap->Prop
 | []=>True
 |(t,d)::r=>(d=env.get t\/∃sz i len,env.get t=.osl k g sz i len/\d=.osl k' n sz i len)/\PQ k g k' n env r
theorem PQ.get {k g k' n:Nat}{env:Ap}:∀ {env':Ap},PQ k g k' n env env'->∀t,env'.get t=.any\/env'.get t=env.get t\/∃sz i len,env.get t=.osl k g sz i len/\env'.get t=.osl k' n sz i len
 | [],_,t=>.inl rfl
 |(t0,d)::r,h,t=>by
  simp only[Ap.get];cases hb:Nat.beq t0 t with
  |true=>
   obtain rfl:=CA hb;rcases h.1 with h1|h1
   ·exact .inr (.inl h1)
   ·exact .inr (.inr h1)
  |false=>exact PQ.get h.2 t
section
variable {C:A9} {B F:AY} {rd:Option Nat} {Q:Exit->AY->St->Prop}
theorem e0m {c:Code}{env:Ap}{k g k' T sz n:Nat}{es:List D}(env':Ap)(he:PQ k g k' n env env')(h:AC C B rd F c ⟨env',[⟨k',n,T,sz,es⟩],n+1⟩ Q):AC C B rd F c ⟨env,[⟨k,g,T,sz,es⟩],n⟩ Q:=by
 refine⟨λhB hd ρ a w hs=>?_⟩;obtain⟨ρ',hl,hk,hf⟩:∃ρ':Lk,(∀k1 g1 b,ρ k1 g1=some b->ρ' k1 g1=some b)/\ρ' k' n=ρ k g/\Jb ρ' (n+1):=by
  cases hb:ρ k g with
  |none=>exact⟨ρ,λ_ _ _ h=>h,hs.fresh _ _ (Al _),λk1 g1 h=>hs.fresh _ _ (Nat.le_of_succ_le h)⟩
  |some b=>exact⟨ρ.put k' n b,λk1 g1 b1 h1=>N7 (hs.fresh _ _ (Al _)) h1,Ei _ _ _ _,λk1 g1 h1=>by
    unfold Lk.put;split
    ·rename_i hh;omega
    ·exact hs.fresh _ _ (Nat.le_of_succ_le h1)⟩
 have hO:AM F.X ρ' [⟨k',n,T,sz,es⟩]=AM F.X ρ [⟨k,g,T,sz,es⟩]:=funext λb=>propext (by simp[AM,hk])
 have x:BX ρ (AM F.X ρ [⟨k,g,T,sz,es⟩]) w ρ' (AM F.X ρ' [⟨k',n,T,sz,es⟩]) w:=⟨Al _,hl,λb _ hb=>⟨by rw[hO];exact hb,rfl⟩,λ_ cs _ _ h=>⟨cs,_,h,rfl⟩⟩
 refine h.out hB hd ρ' a w ⟨⟨⟨λe he'=>?_,by simp,λe he' b hb=>?_⟩,hs.mem.os,hs.mem.tape,hs.mem.output,hs.mem.size,hs.mem.blk,hs.mem.xlt,hs.mem.g0,hs.mem.gn,hs.mem.gw,λk1 g1 b h1=>hl _ _ _ (hs.mem.lnk _ _ _ h1),hs.mem.shp⟩,hf,λe he'=>?_,λt=>?_,hs.nt,hs.dfr⟩
 ·simp only[Az,Dk,or_false]at he'
  subst he';rcases hs.mem.hok.ent ⟨k,g,T,sz,es⟩ (by simp)with⟨h1,h2⟩|⟨b,cs,h1,h2,h3⟩
  ·exact .inl ⟨h1,by rw[show ρ' k' n=ρ k g from hk];exact h2⟩
  ·refine .inr ⟨b,cs,hk.trans h1,h2,?_⟩
   have h4:=h3.mono x;exact⟨h4.len,h4.siz,h4.one,h4.rep⟩
 ·simp only[Az,Dk,or_false]at he'
  subst he';exact hs.mem.hok.own ⟨k,g,T,sz,es⟩ (by simp) b (hk.symm.trans hb)
 ·simp only[Az,Dk,or_false]at he'
  subst he';exact Hz _
 ·have h0:=(hs.env t).mono x
  rcases he.get t with h1|h1|⟨sz',i,len,h1,h2⟩
  ·show AV _ _ _ (env'.get t) _
   rw[h1];exact .any _
  ·show AV _ _ _ (env'.get t) _
   rw[h1];exact h0
  ·show AV _ _ _ (env'.get t) _
   rw[h2];have h5:=hs.env t;change AV _ _ _ (env.get t) _ at h5;rw[h1]at h5;generalize a.tmps.getD t undef=v at*;cases h5 with
   |onil=>exact .onil _ _ _
   |osl hr hb hc hs' hm=>exact .osl (hk.trans hr) hb hc hs' hm
end
theorem zj {b m y:Nat}(hl:(Aa b).length=m+1)(hy:(Aa b)[m]?=some y):∃f,f=1000000000/(y+1)/\0<f/\f<RB/\(Aa (b*f)).length=m+1:=by
 have hy0:=QX b hl hy;have hyl:y<RB:=FD b y (Ay hy);have hf0:0<1000000000/(y+1):=Nat.div_pos (by unfold RB at hyl;omega) (by omega);have hf1:1000000000/(y+1)<RB:=Ia (by decide) (by omega);have hm:=Nat.div_mul_le_self 1000000000 (y+1);refine⟨_,rfl,hf0,hf1,?_⟩;generalize 1000000000/(y+1)=f at*;refine jf ?_ ?_
 ·exact BT (Tp hl) (Nat.le_mul_of_pos_right _ hf0)
 ·have h2:=VT hl hy
  have h3:=Gm ((FD b).take m);rw[Bi,hl,Fh (by omega)]at h3;rw[ES]at h2;have h4:b<RB^m*(y+1):=by rw[BN,EO];omega
  have h5:b*f<RB^m*(y+1)*f:=S0 h4 hf0;have h6:RB^m*(y+1)*f=RB^m*(f*(y+1)):=by rw[Bx,BY (y+1)]
  have h7:RB^m*(f*(y+1))<=RB^m*RB:=Cr _ hm;rw[CQ];omega
theorem kn {a b f:Nat}{U v:List Nat}{k lu lq:Nat}(hf:0<f)(hU:AR U=a*f)(hv:AR v=b*f)(wU:Rd U)(lU:U.length=lu){q:List Nat}(hq:q=List.replicate lq 0)(hk:lq<=k)
  (hab:a<RB^k*b):Md (a*f) v U q lu lq k:=by
 subst hq;refine⟨lU,HR,wU,Tr _,?_,?_⟩
 ·rw[HP (by rw[HR];exact hk)]
  rw[show AR []=0 from rfl,E6,HS,BZ,hU]
 ·rcases BA (AR (U.drop k)) (AR v)with h|h
  ·exact h
  ·exfalso
   have e0:AR U=AR (U.take k)+RB^(U.take k).length*AR (U.drop k):=by
    conv=>lhs;rw[<-Fj k U]
    rw[Jv]
   have h3:a*f<RB^k*b*f:=S0 hab hf;rw[Bx,<-hv]at h3;rcases BA U.length k with hl|hl
   ·rw[HP (by omega)]at h
    rw[show AR []=0 from rfl]at h;rw[Nat.le_zero.1 h,E6]at h3;omega
   ·rw[Bi,Fh hl]at e0
    have:=Cr (RB^k) h
    omega
theorem mN {a b f:Nat}{v U q:List Nat}{lu lq:Nat}(hf:0<f)(I:Md (a*f) v U q lu lq 0)(hv:AR v=b*f):AR q=a/b/\AR U=a%b*f:=by
 obtain⟨lU,lQ,wU,wq,val,less⟩:=I;simp only[Mq,JD,Fi]at val less;obtain⟨h1,h2⟩:=Qm val less;rw[hv,P7 _ _ hf]at h1;rw[hv,P8]at h2;exact⟨h1,h2⟩
theorem rG {P V q N Pn c z W:Nat}(hI:N+q*V=Pn+W*c)(hP:P=Pn+W*z)(hc:c<=z)(hup:P<(q+1)*V):P/V=q/\P%V=N+W*(z-c):=by
 have e:W*z=W*c+W*(z-c):=by rw[<-BN];congr 1;omega
 exact UE (N:=N+W*(z-c)) (by omega) hup
theorem rH {P V q N Pn N2 c c2 z W:Nat}(hI:N+q*V=Pn+W*c)(hP:P=Pn+W*z)(hz:z<c)(hN:N<W)(hdn:q*V<=P+V)(hN2:N2+W*c2=N+V)(hc2:c2<=1)(hN2l:N2<W)(hVW:V<W):
  0<q/\P/V=q-1/\P%V=N2/\(z:Int)-c+c2=0:=by
 obtain⟨e,rfl⟩:∃e,c=z+1+e:=⟨c-z-1,by omega⟩
 have h1:W*(z+1+e)=W*z+W+W*e:=by rw[BN,BN,EO]
 have he:e=0:=by
  rcases ED e with h|h
  ·exact h
  ·have:=Cr W h
   omega
 subst he;rw[E6]at h1;obtain⟨a1,a2,a3⟩:=Ya (U:=P) (V:=V) (q:=q) (N:=N) (N3:=N2) (T:=W) (c:=c2) (by omega) hN hdn hN2 hc2 hN2l;refine⟨a1,a2,a3,?_⟩
 have:c2=1:=by
  rcases ED c2 with h|h
  ·exfalso
   subst h;rcases ED q with h0|h0
   ·subst h0;omega
   ·obtain⟨k,rfl⟩:∃k,q=k+1:=⟨q-1,by omega⟩
    rw[Bv,JD]at hI hdn;omega
  ·omega
 subst this;omega
def blk (A N:List Nat)(top:Int)(Z:List Nat):List D:=A.map Ac++(N.map Ac++(i64 top::Z.map Ac))
theorem ah {A N Z:List Nat}{top:Int}{i z:Nat}(h:N[i]?=some z):(blk A N top Z)[A.length+i]?=some (Ac z):=by
 have hi:i<N.length:=(BQ.1 h).1;unfold blk;rw[Ez (by rw[Ag];omega),Ag,Lg,GL (by rw[Ag];exact hi)];exact EB h
theorem ZZ {A N Z:List Nat}{top:Int}{i d:Nat}(h:i<N.length):(blk A N top Z).set (A.length+i) (Ac d)=blk A (N.set i d) top Z:=by
 unfold blk;rw[P6 _ _ (by rw[Ag];omega),Ag,Lg,List.set_append_left _ _ (by rw[Ag];exact h),NS]
theorem Uf {A N Z:List Nat}{top:Int}{n:Nat}(h:N.length=n):(blk A N top Z)[A.length+n]?=some (i64 top):=by
 unfold blk;rw[Ez (by rw[Ag];omega),Ag,Lg,Ez (by rw[Ag];omega),Ag,h,Nat.sub_self];rfl
theorem Yg {A N Z:List Nat}{top t:Int}{n:Nat}(h:N.length=n):(blk A N top Z).set (A.length+n) (i64 t)=blk A N t Z:=by
 unfold blk;rw[P6 _ _ (by rw[Ag];omega),Ag,Lg,P6 _ _ (by rw[Ag];omega),Ag,h,Nat.sub_self];rfl
theorem Ue {A N Z:List Nat}{t:Nat}:blk A N (t:Int) Z=(A++((N++[t])++Z)).map Ac:=by
 unfold blk;simp[DK]
theorem o8 {t x c z:Nat}(ht:t<RB)(hx:x<RB)(hc:c<=RB)(hz:z<RB):∃p lo hi x' d c':Nat,IntKind.i64.wrap ((t:Int)*(x:Int))=(p:Int)/\IntKind.i64.wrap ((p:Int)+(c:Int))=(x':Int)/\((x':Int)).tmod 1000000000=(lo:Int) /\
  IntKind.i64.wrap (((x':Int)).tdiv 1000000000)=(hi:Int)/\IntKind.i64.wrap ((z:Int)-(lo:Int))=(z:Int)-lo/\d<RB/\c'<=RB/\d+t*x+c=z+RB*c' /\
  ((c'=hi/\(z:Int)-lo=d)\/(c'=hi+1/\(z:Int)-lo<0/\IntKind.i64.wrap ((z:Int)-lo+1000000000)=d/\IntKind.i64.wrap ((hi:Int)+1)=((hi+1:Nat):Int))):=by
 have h3:t*x<=999999999*999999999:=F9 (by unfold RB at ht;omega) (by unfold RB at hx;omega);have e:=FM (t*x+c) 1000000000;have l:=B7 (t*x+c) (show 1000000000>0 by decide);have k0:IntKind.i64.wrap ((t:Int)*(x:Int))=((t*x:Nat):Int):=by rw[<-E7,wI]
 unfold RB at*;have k1:IntKind.i64.wrap (((t*x:Nat):Int)+(c:Int))=((t*x+c:Nat):Int):=by rw[wI];omega
 have k2:((t*x+c:Nat):Int).tmod 1000000000=(((t*x+c)%1000000000:Nat):Int):=SZ _ 1000000000;have k3:IntKind.i64.wrap (((t*x+c:Nat):Int).tdiv 1000000000)=(((t*x+c)/1000000000:Nat):Int):=Pe _ 1000000000 (by omega);generalize t*x=p at*;generalize(p+c)%1000000000=lo at*;generalize(p+c)/1000000000=hi at*;rcases BA z lo with h|h
 ·exact⟨_,_,_,_,z+1000000000-lo,hi+1,k0,k1,k2,k3,wI,by omega,by omega,by omega,.inr ⟨rfl,by omega,by rw[wI];omega,by rw[wI];omega⟩⟩
 ·exact⟨_,_,_,_,z-lo,hi,k0,k1,k2,k3,wI,by omega,by omega,by omega,.inl ⟨rfl,by omega⟩⟩
theorem oW {z x c:Nat}(hz:z<RB)(hx:x<RB)(hc:c<=1):∃p s d c':Nat,IntKind.i64.wrap ((z:Int)+(x:Int))=(p:Int)/\IntKind.i64.wrap ((p:Int)+(c:Int))=(s:Int)/\((s:Int)).tmod 1000000000=(d:Int) /\
  IntKind.i64.wrap (((s:Int)).tdiv 1000000000)=(c':Int)/\d<RB/\c'<=1/\d=(z+x+c)%RB/\c'=(z+x+c)/RB:=by
 have e:=FM (z+x+c) 1000000000;have l:=B7 (z+x+c) (show 1000000000>0 by decide);unfold RB at*;have k0:IntKind.i64.wrap ((z:Int)+(x:Int))=((z+x:Nat):Int):=by rw[wI];omega
 have k1:IntKind.i64.wrap (((z+x:Nat):Int)+(c:Int))=((z+x+c:Nat):Int):=by rw[wI];omega
 have k2:((z+x+c:Nat):Int).tmod 1000000000=(((z+x+c)%1000000000:Nat):Int):=SZ _ 1000000000;have k3:IntKind.i64.wrap (((z+x+c:Nat):Int).tdiv 1000000000)=(((z+x+c)/1000000000:Nat):Int):=Pe _ 1000000000 (by omega);exact⟨_,_,_,_,k0,k1,k2,k3,l,by omega,rfl,rfl⟩
set_option maxHeartbeats 2000000
theorem qG:rD 0=.sl false 1 []:=by unfold rD;rw[HA];rfl
theorem Uw {H:Hp}{K g T:Nat}{l:List Nat}{N:Nat}(hl:l.length=N)(he:Hp.get H K=some ⟨K,g,T,1,l.map Ac⟩:=by exact rfl):Fz H [] (.osl K g 1 0 N) (.sl false 1 (l.map Ac)):=by
 subst hl;have key:∀(j:Nat) (d d':D),(l.map Ac)[0+j]?=some d->(l.map Ac)[j]?=some d'->d=d':=λj d d' h1 h2=>by
  rw[BZ]at h1;rw[h1]at h2;exact F8 h2
 refine .osl (e:=⟨K,g,T,1,l.map Ac⟩) he rfl rfl rfl (by simp) (by simp) (λj d d' h1 h2=>by rw[key j d d' h1 h2]) λj d d' q c c' h1 h2 h3 h4=>?_
 rw[key j d d' h1 h2]at h3;rw[h3]at h4;cases h4;exact Fz.refl _
theorem mO (a b:Nat)(hab:a<b)(ha:(Aa a).length<1000000)(hb:(Aa b).length<1000000):AK C0 229 [rD a,rD b] (.tup [rD (a/b),rD (a%b)]):=by
 rw[Hy hab,Ff hab,qG];refine AZ.walk w1 VG rfl λF=>?_
 have cc:=SV a b (by omega) (by omega);have e1:=Zj hab;refine sR 0 ?_;refine AC.seq ?_;refine sR 100 ?_;refine cI cc ?_;rw[e1];refine AN ?_;refine sR 200 ?_;refine Ad ?_;exact⟨_,dx (.nil 1) (.refl _),ZF (.sl λe he=>by cases he) (PA _),rfl⟩
theorem o5 (a b:Nat)(hab:b<=a)(ha:(Aa a).length<1000000)(hb:(Aa b).length=1)(hb0:b≠0):AK C0 229 [rD a,rD b] (.tup [rD (a/b),rD (a%b)]):=by
 have cc:=SV a b (by omega) (by omega);have e1:=Rb hab;have hbl:b<RB:=by
  have:=JP b
  rw[hb,Nat.pow_one]at this;exact this
 have hlb:(Aa b)[0]?=some b:=by rw[QW hb0 hbl];rfl
 have hb':=EB hlb;have cd:=XZ a b (EP hb0) hbl ha;have e3:(((((Aa b).map Ac).length:Nat):Int)==1)=true:=by rw[Ag,hb];rfl
 have hml:a%b<RB:=Gf (B7 _ (EP hb0)) hbl;have hv:AR [a%b]=a%b:=by simp[AR]
 refine AZ.walk w1 VG rfl λF=>?_
 generalize a/b=q at*;generalize a%b=r at*;unfold rD rL at cc cd⊢;change AC C0 F none F _ _ (SQ X1.tt _ (· = .tup [rD q,rD r]));generalize Aa a=la at*;generalize Aa b=lb at*;refine sR 0 ?_;refine AC.seq ?_;refine sR 100 ?_;refine cI cc ?_;rw[e1];refine AN ?_;refine Aj ?_;refine AC.seq ?_;refine sZ 300 ?_;refine AW e3 ?_;refine AN ?_;refine sZ 400 ?_;refine AD kN ?_;refine Bw kT hb' ?_;refine AD kN ?_;refine A7.same _ cd AI ?_;refine BO ?_;refine sR 500 ?_;have hrl:Rd [r]:=λa ha=>by
  simp only[Az,Dk,or_false]at ha;subst ha;exact hml
 refine A7.pure [rL [r]] _ ⟨.nn true 1 _,trivial⟩ (ML [r] hrl (by simp)) AI ?_;refine BO ?_;refine Ad ?_;exact AJ (by rw[hv];rfl) AA.out
theorem zm {H:Hp}{d1 d2 d3 e1 e2 e3:D}(h1:DO H d1 e1)(h2:DO H d2 e2)(h3:DO H d3 e3):∀(i:Nat) (a b:D),[d1,d2,d3][i]?=some a->[e1,e2,e3][i]?=some b->DO H a b
 | 0,_,_,ha,hb=>by cases ha;cases hb;exact h1
 | 1,_,_,ha,hb=>by cases ha;cases hb;exact h2
 | 2,_,_,ha,hb=>by cases ha;cases hb;exact h3
 |_+3,_,_,ha,_=>by cases ha
theorem kG {P v:List Nat}(d:D)(h:Yd P v d):KQ d:=by
 obtain⟨q,rfl,_⟩:=h;exact KQ.prim _
theorem rJ {v N Pn:List Nat}{t i c z x:Nat}(hz:N[i]?=some z)(hx:v[i]?=some x)(ht:t<RB)(hxl:x<RB)(hc:c<=RB)(hzl:z<RB)(hI:AR N+t*AR (v.take i)=AR Pn+RB^i*c):
  ∃(p x' lo hi d c':Nat) (e:Int),IntKind.i64.wrap ((t:Int)*(x:Int))=(p:Int)/\IntKind.i64.wrap ((p:Int)+(c:Int))=(x':Int)/\((x':Int)).tmod 1000000000=(lo:Int) /\
  IntKind.i64.wrap (((x':Int)).tdiv 1000000000)=(hi:Int)/\IntKind.i64.wrap ((z:Int)-(lo:Int))=e/\d<RB/\c'<=RB/\AR (N.set i d)+t*AR (v.take (i+1))=AR Pn+RB^(i+1)*c' /\
  ((decide (e<0)=false/\e=(d:Int)/\hi=c')\/(decide (e<0)=true/\IntKind.i64.wrap (e+1000000000)=(d:Int)/\IntKind.i64.wrap ((hi:Int)+1)=(c':Int))):=by
 obtain⟨p,lo,hi,x',d,c',k1,k2,k3,k4,k5,k6,k7,k8,k9⟩:=o8 ht hxl hc hzl;have J:=jJ (b:=0) (c':=0) (lo:=t*x+c) (b':=c') (d:=d) (A:=N) (P:=Pn) (v:=v) (q:=t) hz hx hI rfl (by rw[<-k8];exact E5 d (t*x) c ▸ rfl);refine⟨p,x',lo,hi,d,c',_,k1,k2,k3,k4,k5,k6,k7,by rw[J,BZ],?_⟩;rcases k9 with⟨h1,h2⟩|⟨h1,h2,h3,h4⟩
 ·exact .inl ⟨Av (by rw[h2];exact Int.not_lt.2 (Int.natCast_nonneg d)),h2,h1.symm⟩
 ·exact .inr ⟨Au h2,h3,by rw[h1];exact h4⟩
theorem qJ {v N Nb:List Nat}{i c z x:Nat}(hz:N[i]?=some z)(hx:v[i]?=some x)(hxl:x<RB)(hc:c<=1)(hzl:z<RB)(hI:AR N+RB^i*c=AR Nb+AR (v.take i)):
  ∃(p s d c':Nat),IntKind.i64.wrap ((z:Int)+(x:Int))=(p:Int)/\IntKind.i64.wrap ((p:Int)+(c:Int))=(s:Int)/\((s:Int)).tmod 1000000000=(d:Int) /\
  IntKind.i64.wrap (((s:Int)).tdiv 1000000000)=(c':Int)/\d<RB/\c'<=1/\AR (N.set i d)+RB^(i+1)*c'=AR Nb+AR (v.take (i+1)):=by
 obtain⟨p,s,d,c',k1,k2,k3,k4,k5,k6,rfl,rfl⟩:=oW hzl hxl hc;exact⟨p,s,_,_,k1,k2,k3,k4,k5,k6,jG hz hx hI⟩
theorem km {U:List Nat}{k:Nat}(h:AR U<RB^k)(hk:k<=U.length):AR (U.take k)=AR U:=by
 have e:AR U=AR (U.take k)+RB^k*AR (U.drop k):=by
  conv=>lhs;rw[<-Fj k U]
  rw[Jv,Bi,Fh hk]
 rcases ED (AR (U.drop k))with h0|h0
 ·rw[h0,E6,Dq]at e;exact e.symm
 ·exfalso
  have:=Cr (RB^k) h0
  omega
theorem kj {P v:List Nat}{m p0 p1 p2 v2 v1:Nat}(S:LI P v m p0 p1 p2 v2 v1):∃Pn,P=Pn++[p2]/\Pn.length=m+2/\Rd Pn/\AR P=AR Pn+RB^(m+2)*p2:=by
 have hl:=S.lP;have e:P=P.take (m+2)++[p2]:=by
  rw[<-Fq S.h2,Gj]
 have hn:(P.take (m+2)).length=m+2:=by rw[Bi];omega
 refine⟨P.take (m+2),e,hn,S.wP.take _,?_⟩
 conv=>lhs;rw[e]
 rw[Hd hn]
theorem dK {P N:List Nat}{m z V:Nat}(hl:N.length=m+2)(hN:Rd N)(hz:z<RB)(hv:AR N+RB^(m+2)*z=AR P%V):(N++[z]).length=m+3/\Rd (N++[z])/\AR (N++[z])=AR P%V:=by
 refine⟨by rw[Bp,hl];rfl,Rd.append hN λa ha=>?_,by rw[Hd hl,hv]⟩;simp only[Az,Dk,or_false]at ha;subst ha;exact hz
set_option maxHeartbeats 4000000
theorem mP (a b m:Nat)(hab:b<=a)(ha:(Aa a).length<1000000)(hb:(Aa b).length=m+2):AK C0 229 [rD a,rD b] (.tup [rD (a/b),rD (a%b)]):=by
 have hlen:=JM b a hab;have cc:=SV a b (by omega) (by omega);have e1:=Rb hab;obtain⟨y,hy⟩:=Cg (l:=Aa b) (i:=m+1) (by omega);have yl:y<RB:=FD b y (Ay hy);obtain⟨f,ef,f0,fl,hvl⟩:=zj hb hy;have wf:IntKind.i64.wrap ((1000000000:Int).tdiv ((y+1:Nat):Int))=(f:Int):=by
  rw[ef];exact Pe 1000000000 (y+1) (BT (GJ _ _) (by decide))
 have wy:IntKind.i64.wrap ((y:Int)+1)=((y+1:Nat):Int):=wI (by omega) (by unfold RB at yl;omega);have lf:Aa f=[f]:=QW (Nat.pos_iff_ne_zero.1 f0) fl;have cv:=Vu b f (by omega) (by rw[lf];exact(by decide:1<1000000));have cu:=Vu a f (by omega) (by rw[lf];exact(by decide:1<1000000));have hu1:=Tc a f;have hu2:=JM a (a*f) (Nat.le_mul_of_pos_right _ f0);rw[lf]at hu1;change _<=_+1 at hu1;obtain⟨v,hv⟩:∃v,v=Aa (b*f):=⟨_,rfl⟩
 have wv:Rd v:=by rw[hv];exact FD _
 have vv:AR v=b*f:=by rw[hv];exact ES _
 rw[<-hv]at hvl;obtain⟨U0,hU0⟩:∃U0,U0=Aa (a*f):=⟨_,rfl⟩
 have wU0:Rd U0:=by rw[hU0];exact FD _
 have vU0:AR U0=a*f:=by rw[hU0];exact ES _
 rw[<-hU0]at hu1 hu2;obtain⟨v1,h1⟩:=Cg (l:=v) (i:=m+1) (by omega);obtain⟨v2,h2⟩:=Cg (l:=v) (i:=m) (by omega);have v10:v1≠0:=QX (b*f) (by rw[<-hv];exact hvl) (by rw[<-hv];exact h1);have b0:0<b:=by
  refine EP λh=>?_
  subst h;rw[HA]at hb;cases hb
 have vpos:0<AR v:=by rw[vv];exact G7 b0 f0
 have hup:=JP a;have hbge:=Tp hb;unfold rD rL at cc cv cu;rw[lf,<-hv]at cv;rw[lf,<-hU0]at cu;refine AZ.walk w1 VG rfl λF=>?_
 change AC C0 F none F _ ⟨Dg 0 [.sl false 1 ((Aa a).map Ac),.sl false 1 ((Aa b).map Ac)],[],0⟩ _;generalize Aa a=la at*;generalize Aa b=lb at*;obtain⟨lq,hlq⟩:∃lq,la.length=lq+(m+2):=⟨la.length-(m+2),by omega⟩
 have hy':=EB hy;have e3:((((lb.map Ac).length:Nat):Int)==1)=false:=by rw[Ag,hb];exact Br.2 (by omega)
 have elb:(((lb.map Ac).length:Nat):Int)=((m+2:Nat):Int):=by rw[Ag,hb]
 have wlb0:IntKind.i64.wrap (((m+2:Nat):Int)-1)=((m+1:Nat):Int):=by rw[wI];omega
 have wlb:IntKind.i64.wrap ((((lb.map Ac).length:Nat):Int)-1)=((m+1:Nat):Int):=by rw[elb];exact wlb0
 have ea:(((la.map Ac).length:Nat):Int)=(la.length:Int):=by rw[Ag]
 have ev:(((v.map Ac).length:Nat):Int)=((m+2:Nat):Int):=by rw[Ag,hvl]
 have eu:(((U0.map Ac).length:Nat):Int)=(U0.length:Int):=by rw[Ag]
 have wa1:IntKind.i64.wrap ((la.length:Int)+1)=((la.length+1:Nat):Int):=wI;have wq0:IntKind.i64.wrap (((la.length+1:Nat):Int)-((m+2:Nat):Int))=((lq+1:Nat):Int):=by rw[wI];omega
 have wq1:IntKind.i64.wrap (((lq+1:Nat):Int)-1)=((lq+1:Nat):Int)-1:=wI;have wraw:IntKind.i64.wrap (IntKind.i64.wrap (((la.length+1:Nat):Int)-((m+2:Nat):Int))-1)=((lq+1:Nat):Int)-1:=by rw[wq0,wq1]
 have r3:List.replicate (lq+1) (ofV (.int .i64 0))=(List.replicate (lq+1) 0).map Ac:=by rw[Kf];rfl
 refine sR 0 ?_;refine AC.seq ?_;refine sR 100 ?_;refine cI cc ?_;rw[e1];refine AN ?_;refine Aj ?_;refine AC.seq ?_;refine sZ 300 ?_;refine AW e3 ?_;refine AN ?_;refine Aj ?_;refine sZ 600 ?_;refine AD (BS wlb elb wlb0 kN) ?_;refine Bw kT hy' ?_;refine AD (Ar wy wf kN) ?_;refine sR 700 ?_;refine A7.pure [rL lb,rL [f]] _ ⟨.refl _,.nn true 1 _,trivial⟩ cv AI ?_;refine BO ?_;refine sZ 800 ?_;refine AW ev ?_;clear cc e1 e3 elb wlb wlb0 hy' yl hy wy wf hb;refine DE (α:=Nat×Nat) (λp=>⟨[(0,.sl false 1 (la.map Ac)),(8,.sl true 1 [Ac f]),(9,.sl false 1 (v.map Ac)),(10,i64 ((m+2:Nat):Int)),(11,.osl 904 p.1 1 0 U0.length)],[⟨904,p.1,3,1,U0.map Ac⟩],p.2⟩) (λ_=>True) ?_ ?_
 ·refine rI 900 ?_
  refine A7.pure [rL la,rL [f]] _ ⟨.refl _,.nn true 1 _,trivial⟩ cu AI ?_;refine BO ?_;exact⟨rfl,⟨_,_⟩,trivial,AL⟩
 rintro⟨g,n2⟩ -;dsimp only;refine DE (α:=Nat×Nat×List Nat×Nat) (λp=>⟨[(0,.sl false 1 (la.map Ac)),(8,.sl true 1 [Ac f]),(9,.sl false 1 (v.map Ac)),(10,i64 ((m+2:Nat):Int)),(11,.osl p.1 p.2.1 1 0 (la.length+1))],[⟨p.1,p.2.1,3,1,p.2.2.1.map Ac⟩],p.2.2.2⟩) (λp=>p.2.2.1.length=la.length+1/\Rd p.2.2.1/\AR p.2.2.1=a*f) ?_ ?_
 ·refine AC.block ?_
  rcases Nat.eq_or_lt_of_le hu1 with hl|hl
  ·have eN:decide (((la.length+1:Nat):Int)<((la.length+1:Nat):Int))=false:=Bc
   rw[hl];refine Gb (α:=Nat) (λn=>⟨[(0,.sl false 1 (la.map Ac)),(8,.sl true 1 [Ac f]),(9,.sl false 1 (v.map Ac)),(10,i64 ((m+2:Nat):Int)),(11,.osl 904 g 1 0 (la.length+1))],[⟨904,g,3,1,U0.map Ac⟩],n⟩) (λ_=>0) (λ_ F'=>F'=F) n2 rfl AL ?_;rintro n3 F' rfl;refine AC.seq ?_;refine sZ 1000 ?_;refine AW (Ar ea wa1 eN) ?_;refine AN ?_;refine CK ?_;exact⟨rfl,⟨904,g,U0,_⟩,⟨hl,wU0,vU0⟩,AL⟩
  ·have hl2:U0.length=la.length:=by omega
   have eN:decide (((la.length+1:Nat):Int)<((la.length+1:Nat):Int))=false:=Bc;have eY:decide ((la.length:Int)<((la.length+1:Nat):Int))=true:=BV;have hap:List.take la.length (U0.map Ac)++[D.prim (Value.int IntKind.i64 0)]=(U0++[0]).map Ac:=by
    rw[Ch (by rw[Ag];omega),DK];rfl
   rw[hl2];refine Gb (α:=Bool×Nat×Nat) (λp=>match p with
    |(false,_,n)=>⟨[(0,.sl false 1 (la.map Ac)),(8,.sl true 1 [Ac f]),(9,.sl false 1 (v.map Ac)),(10,i64 ((m+2:Nat):Int)),(11,.osl 904 g 1 0 la.length)],[⟨904,g,3,1,U0.map Ac⟩],n⟩
    |(true,g1,n)=>⟨[(0,.sl false 1 (la.map Ac)),(8,.sl true 1 [Ac f]),(9,.sl false 1 (v.map Ac)),(10,i64 ((m+2:Nat):Int)),(11,.osl 1102 g1 1 0 (la.length+1))],[⟨1102,g1,3,1,(U0++[0]).map Ac⟩],n⟩) (λp=>cond p.1 0 1) (λ_ F'=>F'=F) (false,0,n2) rfl AL ?_
   rintro⟨_|_,g1,n3⟩ F' rfl
   ·dsimp only
    refine AC.seq ?_;refine sZ 1000 ?_;refine AW (Ar ea wa1 eY) ?_;refine AN ?_;refine Aj ?_;refine AC.block ?_;refine rI 1100 ?_;refine⟨(true,n3+8,n3+10),rfl,(by decide:(0:Nat)<1),?_⟩;dsimp only;rw[hap];exact AL
   ·dsimp only
    refine AC.seq ?_;refine sZ 1000 ?_;refine AW (Ar ea wa1 eN) ?_;refine AN ?_;refine CK ?_;refine⟨rfl,⟨1102,g1,U0++[0],_⟩,⟨by rw[Bp,hl2];rfl,Rd.append wU0 λa ha=>?_,by rw[Uj];exact vU0⟩,AL⟩;simp only[Az,Dk,or_false]at ha;subst ha;decide
 rintro⟨K,gK,U1,n3⟩ ⟨lU1,wU1,vU1⟩;dsimp only at lU1 wU1 vU1⊢;refine e0m [(8,.sl true 1 [Ac f]),(9,.sl false 1 (v.map Ac)),(10,i64 ((m+2:Nat):Int)),(11,.osl 1102 n3 1 0 (la.length+1))] ⟨.inl rfl,.inl rfl,.inl rfl,.inr ⟨_,_,_,rfl,rfl⟩,trivial⟩ ?_;clear cu hU0 vU0 wU0 hu1 hu2 cv;refine DE (α:=Nat×Nat) (λp=>⟨[(8,.sl true 1 [Ac f]),(9,.sl false 1 (v.map Ac)),(10,i64 ((m+2:Nat):Int)),(11,.osl 1102 n3 1 0 (la.length+1)),(12,.osl 1204 p.1 1 0 (lq+1))],[⟨1204,p.1,3,1,(List.replicate (lq+1) 0).map Ac⟩,⟨1102,n3,3,1,U1.map Ac⟩],p.2⟩) (λ_=>True) ?_ ?_
 ·refine Ao 1200 ?_
  refine AW (Ar wq0 kN r3) ?_;exact⟨trivial,⟨_,_⟩,trivial,by rw[<-r3];exact AL⟩
 rintro⟨g,n2⟩ -;dsimp only;have I0:Md (a*f) v U1 (List.replicate (lq+1) 0) (la.length+1) (lq+1) (lq+1):=by
  refine kn f0 vU1 vv wU1 lU1 rfl (Al _) ?_
  have:RB^(lq+1)*RB^(m+1)<=RB^(lq+1)*b:=Cr _ hbge
  rw[<-Ge,show lq+1+(m+1)=la.length by omega]at this;omega
 clear hup hbge;refine AC.seq ?_;refine sZ 1300 ?_;refine AW wraw ?_;refine AC.block ?_;refine AC.loop (α:=Nat×List Nat×List Nat×Nat) (λp=>⟨[(8,.sl true 1 [Ac f]),(9,.sl false 1 (v.map Ac)),(10,i64 ((m+2:Nat):Int)),(11,.osl 1102 n3 1 0 (la.length+1)),(12,.osl 1204 g 1 0 (lq+1)),(13,i64 ((p.1:Int)-1))],[⟨1204,g,3,1,p.2.2.1.map Ac⟩,⟨1102,n3,3,1,p.2.1.map Ac⟩],p.2.2.2⟩) (λp=>p.1)
  (λp=>p.1<=lq+1/\Md (a*f) v p.2.1 p.2.2.1 (la.length+1) (lq+1) p.1) (lq+1,U1,List.replicate (lq+1) 0,_) ⟨Al _,I0⟩ AL ?_
 rintro⟨k,u,q,n4⟩ F ⟨hk,I⟩;dsimp only at hk I⊢;clear I0 wq0 wq1 wraw r3 ea eu wU1 vU1 lU1;refine AC.seq ?_;refine sR 1400 ?_;refine AN ?_
 (refine B1 (λh20=>?_) (λh20=>?_))<;>(try simp only[Bl,Bz]at h20)<;>(try simp only[h20])
 ·obtain⟨j,rfl⟩:∃j,k=j+1:=⟨k-1,by
   have:(k:Int)-1>=0:=by simpa using h20
   omega⟩
  have wj:((j+1:Nat):Int)-1=(j:Int):=by omega
  obtain⟨p0,p1,p2,SI,hz,hP⟩:=ki I hvl wv v1 v2 h2 h1 (EP v10) (by omega);have lu:=I.lU;have cg:=qR u v j m p0 p1 p2 v2 v1 SI (by omega) (by omega);rw[wj];refine Aj ?_;refine AC.seq ?_;refine AC.block ?_;refine sR 1600 ?_;refine A7.own _ (e0C cg rfl (zm (DO.of (Uw lu)) (DO.of (.refl _)) (DO.of (.refl _))) AI kG) ?_;rintro d H' n5 ⟨⟨t,rfl,ht1,ht2,ht3⟩,rfl,rfl⟩;refine BO ?_;obtain⟨Pn,eP,lPn,wPn,vPn⟩:=kj SI;have hA:(u.take j).length=j:=by rw[Bi];omega
  have p2l:=SI.p2l;have hdl:AR ((u.drop j).take (m+3))/AR v<RB:=Fk SI.less;have hU:u.map Ac=blk (u.take j) Pn (p2:Int) (u.drop (j+(m+3))):=by rw[Ue,<-eP,<-iG]
  have J:=λP' h1 h2 h3=>kh (P':=P') I vpos (by omega) (by omega) hz hP h1 h2 h3 hdl
  obtain⟨zq,hzq⟩:=Cg (l:=q) (i:=j) (by rw[I.lQ];omega);have hzq':=EB hzq;have wi':IntKind.i64.wrap ((j:Int)-1)=(j:Int)-1:=wI;have wjn:IntKind.i64.wrap ((j:Int)+((m+2:Nat):Int))=((j+(m+2):Nat):Int):=by rw[wI];omega
  have hVW:=Gm wv;rw[show v.length=m+2 from hvl]at hVW;rw[hU];clear hU cg hP hz SI eP h20 wj I h1 h2 v10;generalize(u.drop j).take (m+3)=P at*;generalize u.take j=A at*;generalize u.drop (j+(m+3))=Z at*;refine sR 1700 ?_;refine AC.seq ?_;refine sR 1800 ?_;refine AC.block ?_;refine AC.loop (α:=Nat×Nat×List Nat×Nat) (λp=>⟨[(8,.sl true 1 [Ac f]),(9,.sl false 1 (v.map Ac)),(10,i64 ((m+2:Nat):Int)),(11,.osl 1102 n3 1 0 (la.length+1)),(12,.osl 1204 g 1 0 (lq+1)),(13,i64 (j:Int)),(14,Ac t),(15,Ac p.2.1),(16,i64 p.1)],[⟨1204,g,3,1,q.map Ac⟩,⟨1102,n3,3,1,blk A p.2.2.1 (p2:Int) Z⟩],p.2.2.2⟩) (λp=>m+2-p.1)
   (λp=>p.1<=m+2/\p.2.1<=RB/\p.2.2.1.length=m+2/\Rd p.2.2.1/\AR p.2.2.1+t*AR (v.take p.1)=AR Pn+RB^p.1*p.2.1) (0,0,Pn,_) ⟨BU _,BU _,lPn,wPn,by simp[AR]⟩ AL ?_
  rintro⟨i,c,N,n6⟩ F ⟨hi,hc,hNl,hNw,hI⟩;dsimp only at hi hc hNl hNw hI⊢;refine AC.seq ?_;refine sR 1900 ?_;refine AN ?_
  (refine B1 (λhlt=>?_) (λhlt=>?_))<;>(try simp only[Bl,Bz]at hlt)<;>(try simp only[hlt])
  ·have hi2:i<m+2:=by
    have:=DJ hlt
    omega
   obtain⟨x,hx⟩:=Cg (l:=v) (i:=i) (by omega);have hx':=EB hx;have hxl:x<RB:=wv x (Ay hx);obtain⟨z,hz⟩:=Cg (l:=N) (i:=i) (by omega);have hzl:=hNw z (Ay hz);have hz':=ah (A:=A) (Z:=Z) (top:=(p2:Int)) hz;rw[hA]at hz';obtain⟨p,x',lo,hi',d,c',e,k1,k2,k3,k4,k5,dl,cl,hI',hb⟩:=rJ hz hx ht1 hxl hc hzl hI;have hset:(blk A N (p2:Int) Z).set (j+i) (Ac d)=blk A (N.set i d) (p2:Int) Z:=by
    have:=ZZ (A:=A) (Z:=Z) (top:=(p2:Int)) (i:=i) (d:=d) (N:=N) (by omega)
    rwa [hA]at this
   have wij:IntKind.i64.wrap ((i:Int)+(j:Int))=((j+i:Nat):Int):=by rw[wI];omega
   have wi:IntKind.i64.wrap ((i:Int)+1)=((i+1:Nat):Int):=wI;clear hI J hVW vPn ht2 ht3 hdl;refine Aj ?_;refine AC.seq ?_;refine AC.block ?_;refine sZ 2100 ?_;refine AD kN ?_;refine Bw kT hx' ?_;refine AD (Ar kN k1 k2) ?_;refine sZ 2200 ?_;refine AD (Ek wij kN BZ hz' k3 k5) ?_;refine sZ 2300 ?_;refine AW k4 ?_;rcases hb with⟨b1,b2,b3⟩|⟨b1,b2,b3⟩
   ·refine AC.seq ?_
    refine sZ 2400 ?_;refine AW b1 ?_;refine AN ?_;refine Aj ?_;subst b2 b3;refine Ao 2700 ?_;refine AD (BS wij kN BZ hz') ?_;rw[hset];refine Ao 2000 ?_;refine AW wi ?_;exact⟨(i+1,hi',N.set i d,_),⟨hi2,cl,by dsimp only;rw[D9];exact hNl,hNw.set dl,hI'⟩,by dsimp only;omega,AL⟩
   ·refine AC.seq ?_
    refine sZ 2400 ?_;refine AW b1 ?_;refine AN ?_;refine sZ 2500 ?_;refine AW b2 ?_;refine Ao 2600 ?_;refine AW b3 ?_;refine Ao 2700 ?_;refine AD (BS wij kN BZ hz') ?_;rw[hset];refine Ao 2000 ?_;refine AW wi ?_;exact⟨(i+1,c',N.set i d,_),⟨hi2,cl,by dsimp only;rw[D9];exact hNl,hNw.set dl,hI'⟩,by dsimp only;omega,AL⟩
  ·have hi2:i=m+2:=by
    have:=Db hlt
    omega
   subst hi2;rw[Gj]at hI;have hNlt:=Gm hNw;rw[hNl]at hNlt;have htop:=Uf (A:=A) (Z:=Z) (top:=(p2:Int)) hNl;have hstop:=Yg (A:=A) (Z:=Z) (top:=(p2:Int)) (t:=(p2:Int)-(c:Int)) hNl;have htop2:=Uf (A:=A) (Z:=Z) (top:=(p2:Int)-(c:Int)) hNl;rw[hA]at htop hstop htop2;have p2l9:p2<1000000000:=p2l;have hc9:c<=1000000000:=hc;have wzc:IntKind.i64.wrap ((p2:Int)-(c:Int))=(p2:Int)-(c:Int):=wI;refine CK ?_;refine sZ 2800 ?_;refine AD (CI wjn kN BZ htop wzc) ?_;rw[hstop];rcases BA p2 c with h|h
   ·have e29:decide ((p2:Int)-(c:Int)<0)=true:=BV
    have ht9:t<1000000000:=ht1;have wt:IntKind.i64.wrap ((t:Int)-1)=(t:Int)-1:=wI;refine AC.seq ?_;refine sZ 2900 ?_;refine AD (CI wjn kN BZ htop2 e29) ?_;refine AN ?_;refine sZ 3000 ?_;refine AW wt ?_;refine sR 3100 ?_;refine AC.seq ?_;refine sR 3200 ?_;refine AC.block ?_;refine AC.loop (α:=Nat×Nat×List Nat×Nat) (λp=>⟨[(8,.sl true 1 [Ac f]),(9,.sl false 1 (v.map Ac)),(10,i64 ((m+2:Nat):Int)),(11,.osl 1102 n3 1 0 (la.length+1)),(12,.osl 1204 g 1 0 (lq+1)),(13,i64 (j:Int)),(14,i64 ((t:Int)-1)),(19,Ac p.2.1),(20,i64 p.1)],[⟨1204,g,3,1,q.map Ac⟩,⟨1102,n3,3,1,blk A p.2.2.1 ((p2:Int)-(c:Int)) Z⟩],p.2.2.2⟩) (λp=>m+2-p.1)
     (λp=>p.1<=m+2/\p.2.1<=1/\p.2.2.1.length=m+2/\Rd p.2.2.1/\AR p.2.2.1+RB^p.1*p.2.1=AR N+AR (v.take p.1)) (0,0,N,_) ⟨BU _,BU _,hNl,hNw,by simp[AR]⟩ AL ?_
    rintro⟨i,c2,N2,n7⟩ F ⟨hi,hc2,hNl2,hNw2,hI2⟩;dsimp only at hi hc2 hNl2 hNw2 hI2⊢;clear htop hstop;refine AC.seq ?_;refine sR 3300 ?_;refine AN ?_
    (refine B1 (λhlt2=>?_) (λhlt2=>?_))<;>(try simp only[Bl,Bz]at hlt2)<;>(try simp only[hlt2])
    ·have hi2:i<m+2:=by
      have:=DJ hlt2
      omega
     obtain⟨x,hx⟩:=Cg (l:=v) (i:=i) (by omega);have hx':=EB hx;have hxl:x<RB:=wv x (Ay hx);obtain⟨z,hz⟩:=Cg (l:=N2) (i:=i) (by omega);have hzl:=hNw2 z (Ay hz);have hz':=ah (A:=A) (Z:=Z) (top:=(p2:Int)-(c:Int)) hz;rw[hA]at hz';obtain⟨p,s,d,c',k1,k2,k3,k4,dl,cl,hI'⟩:=qJ hz hx hxl hc2 hzl hI2;have hset:(blk A N2 ((p2:Int)-(c:Int)) Z).set (j+i) (Ac d)=blk A (N2.set i d) ((p2:Int)-(c:Int)) Z:=by
      have:=ZZ (A:=A) (Z:=Z) (top:=(p2:Int)-(c:Int)) (i:=i) (d:=d) (N:=N2) (by omega)
      rwa [hA]at this
     have wij:IntKind.i64.wrap ((i:Int)+(j:Int))=((j+i:Nat):Int):=by rw[wI];omega
     have wi:IntKind.i64.wrap ((i:Int)+1)=((i+1:Nat):Int):=wI;clear hI2 hI J hVW vPn ht2 ht3 hdl;refine Aj ?_;refine AC.seq ?_;refine AC.block ?_;refine AC.seq ?_;refine CM 3500 [0,1,2,3,4,5,6,7,8,9,10,11] [12,13] ?_;refine AD (BS wij kN BZ hz') ?_;refine Bw kT hx' ?_;refine AD (Ar kN k1 k2) ?_;refine sZ 3600 ?_;refine AD (CI wij kN BZ hz' k3) ?_;rw[hset];refine Ao 3700 ?_;refine AW k4 ?_;refine Ao 3400 ?_;refine AW wi ?_;exact⟨(i+1,c',N2.set i d,_),⟨hi2,cl,by dsimp only;rw[D9];exact hNl2,hNw2.set dl,hI'⟩,by dsimp only;omega,AL⟩
    ·have hi2:i=m+2:=by
      have:=Db hlt2
      omega
     subst hi2;rw[Gj]at hI2;have hNlt2:=Gm hNw2;rw[hNl2]at hNlt2;obtain⟨t0,g1,g2,g3⟩:=rH hI vPn h hNlt ht3 hI2 hc2 hNlt2 hVW;have htop3:=Uf (A:=A) (Z:=Z) (top:=(p2:Int)-(c:Int)) hNl2;have hstop3:=Yg (A:=A) (Z:=Z) (top:=(p2:Int)-(c:Int)) (t:=((0:Nat):Int)) hNl2;rw[hA]at htop3 hstop3;have wfin:IntKind.i64.wrap ((p2:Int)-(c:Int)+(c2:Int))=((0:Nat):Int):=by rw[g3];rfl
     have et:(t:Int)-1=((t-1:Nat):Int):=by omega
     obtain⟨f1,f2,f3⟩:=dK (P:=P) (V:=AR v) hNl2 hNw2 (z:=0) (by decide) (by rw[E6,Dq];exact g2.symm);have J1:=J _ f1 f2 f3;rw[g1]at J1;refine CK ?_;refine Ao 3800 ?_;refine AD (CI wjn kN BZ htop3 wfin) ?_;rw[hstop3,Ue,et];refine Ao 3900 ?_;refine AD (Ar kN BZ hzq') ?_;rw[NS];refine Ao 1500 ?_;refine AW wi' ?_;exact⟨(j,A++((N2++[0])++Z),q.set j (t-1),_),⟨by dsimp only;omega,J1⟩,by dsimp only;omega,AL⟩
   ·have e29:decide ((p2:Int)-(c:Int)<0)=false:=Bc
    obtain⟨g1,g2⟩:=rG hI vPn h ht2;have ezc:(p2:Int)-(c:Int)=((p2-c:Nat):Int):=by omega
    obtain⟨f1,f2,f3⟩:=dK hNl hNw (z:=p2-c) (by omega) g2.symm;have J1:=J _ f1 f2 f3;rw[g1]at J1;refine AC.seq ?_;refine sZ 2900 ?_;refine AD (CI wjn kN BZ htop2 e29) ?_;refine AN ?_;refine Aj ?_;rw[ezc,Ue];refine Ao 3900 ?_;refine AD (Ar kN BZ hzq') ?_;rw[NS];refine Ao 1500 ?_;refine AW wi' ?_;exact⟨(j,A++((N++[p2-c])++Z),q.set j t,_),⟨by dsimp only;omega,J1⟩,by dsimp only;omega,AL⟩
 ·have hk:k=0:=by
   have:¬((k:Int)-1>=0):=by simpa using h20
   omega
  subst hk;obtain⟨q1,q2⟩:=mN f0 I vv;have wu:=I.wU;have wqq:=I.wq;have lu:=I.lU;have lqq:=I.lQ;have hlt:AR u<RB^(m+2):=by
   have:=I.less
   rw[Fi]at this;have h:=Gm wv;rw[show v.length=m+2 from hvl]at h;omega
  have hta:=km hlt (by omega);have hll:=Ks hlt;rw[q2]at hll hta;have ed:a%b*f/f=a%b:=Nat.mul_div_cancel _ f0;have cd:=XZ (a%b*f) f f0 fl (by omega);rw[ed]at cd;clear I;refine CK ?_;refine AC.weak ⟨[(8,.sl true 1 [Ac f]),(10,i64 ((m+2:Nat):Int)),(11,.sl false 1 (u.map Ac)),(12,.sl false 1 (q.map Ac))],[],_⟩ ⟨.drop (.drop .nil),⟨.refl _,.refl _,Uw lu,Uw lqq,trivial⟩,Al _⟩ ?_;have e5:List.take (m+2) (u.map Ac)=(u.take (m+2)).map Ac:=by
   rw[QF]
  have eu2:(u.map Ac).length=la.length+1:=by rw[Ag];omega
  have ct:=ML (u.take (m+2)) (wu.take _) (by rw[Bi];omega);rw[hta]at ct;refine AC.seq ?_;refine CM 4000 [0,1,2,3,4,5,6,7,8,9,10,11] [12] ?_;refine AD (BS kN Nat.sub_zero (@Fi D) e5) ?_;refine Bb.same _ ct AI ?_;have hf0:([Ac f]:List D)[0]?=some (Ac f):=rfl;refine AD kN ?_;refine Bw kT hf0 ?_;refine AD kN ?_;refine Bb.same _ cd AI ?_;refine AD kN ?_;refine sR 4100 ?_;refine A7.same _ (ML q wqq (by omega)) AI ?_;refine BO ?_;refine Ad ?_;exact AJ (by rw[q1]) AA.out
theorem WV (a b:Nat)(hb:b≠0)(ha:(Aa a).length<1000000)(hbl:(Aa b).length<1000000):AK C0 229 [rD a,rD b] (.tup [rD (a/b),rD (a%b)]):=by
 rcases BA a b with h|h
 ·exact mO a b h ha hbl
 ·rcases hl:(Aa b).length with _|m
  ·have:=JP b
   rw[hl]at this;simp at this;exact Af this hb
  ·rcases m with _|m
   ·exact o5 a b h ha hl hb
   ·exact mP a b m h ha hl
abbrev rZ (z:Int):D:=.agg [Ai (decide (z<0)),rD z.natAbs]
def sg (neg:Bool)(n:Nat):Int:=if neg then -(n:Int)else n
theorem nX {n:Nat}:0<(Aa n).length↔n≠0:=by
 constructor
 ·rintro h rfl
  rw[HA]at h;cases h
 ·intro h
  rw[JO h,Bq];exact Nat.succ_pos _
theorem X9 (n:Nat):decide (((((Aa n).map Ac).length:Nat):Int)>0)=decide (n≠0):=by
 have:=@nX n
 rw[Ag];exact DA.2 ⟨λh=>this.1 (by omega),λh=>by have:=this.2 h;omega⟩
theorem zF (neg:Bool)(n:Nat):rZ (sg neg n)=.agg [Ai (neg&&decide (n≠0)),rD n]:=by
 unfold rZ sg;cases neg
 ·simp only[Gd,if_false,Hx,D7]
  rw[Bc]
 ·simp only[if_true,Gc,Mp,D7]
  congr 3
  exact DA.2 (by omega)
theorem SN (z:Int):sg (decide (z<0)) z.natAbs=z:=by
 unfold sg
 by_cases h:z<0
 ·rw[Au h,AH rfl];omega
 ·rw[Av h,AG (by decide)];omega
theorem Vd (b:Bool)(n:Nat):CC (.agg [Ai b,.sl false 1 ((Aa n).map Ac)]):=.agg λd hd=>by
 simp only[Az,Dk,or_false]at hd;rcases hd with rfl|rfl
 ·exact .prim _
 ·exact PA _
def Ga (z:Int):Prop:=(Aa z.natAbs).length<1000000
instance  (b:Bool)(n:Nat):AA (.agg [Ai b,rD n]):=⟨Vd b n⟩
theorem Yy (a b:Nat)(fa:(Aa a).length<1000000)(fb:(Aa b).length<1000000):AK C0 222 [rD a,rD b] (rD (Nat.gcd a b)):=by
 refine AZ.walk w1 u5 rfl λF=>?_
 change AC C0 F none F _ ⟨Dg 0 [.sl false 1 ((Aa a).map Ac),.sl false 1 ((Aa b).map Ac)],[],0⟩ _;refine sR 0 ?_;refine AC.seq ?_;refine AC.block ?_;refine AC.loop (α:=Nat×Nat×Nat) (λp=>⟨[(0,.sl false 1 ((Aa p.1).map Ac)),(1,.sl false 1 ((Aa p.2.1).map Ac))],[],p.2.2⟩) (λp=>p.2.1)
  (λp=>Nat.gcd p.1 p.2.1=Nat.gcd a b/\(Aa p.1).length<1000000/\(Aa p.2.1).length<1000000) (a,b,_) ⟨rfl,fa,fb⟩ AL ?_
 rintro⟨x,y,n⟩ F ⟨h1,h2,h3⟩;dsimp only at h1 h2 h3⊢;have et:=X9 y;refine AC.seq ?_;refine sZ 100 ?_;refine AW et ?_
 by_cases hy:y=0
 ·rw[Av (by simpa using hy)]
  subst hy;refine AN ?_;refine CK ?_;refine sR 400 ?_;refine Ad ?_;refine AJ (d0:=rD x) ?_ AA.out;rw[<-h1,Nat.gcd_zero_right]
 ·rw[Au hy]
  have cd:=WV x y hy h2 h3;refine AN ?_;refine Aj ?_;refine AC.block ?_;refine sR 200 ?_;refine cI cd ?_;refine rI 300 ?_;refine⟨(y,x%y,_),⟨?_,h3,?_⟩,B7 x (by omega),AL⟩
  ·dsimp only
   rw[<-h1,OE x y,Nat.gcd_rec y x,OE]
  ·exact DH (JM _ _ (Nat.mod_le x y)) h2
theorem RK (neg:Bool)(l:List Nat)(h:Rd l)(hl:l.length<1000000000):AK C0 230 [Ai neg,rL l] (rZ (sg neg (AR l))):=by
 refine AZ.walk w1 b5 rfl λF=>?_
 rw[zF];have ct:=ML l h (by omega);generalize AR l=n at*;have et:=X9 n;unfold rD at ct⊢;unfold rL at ct⊢;refine sR 0 ?_;refine sR 100 ?_;refine cI ct ?_;refine AC.seq ?_;cases neg
 ·refine Ao 200 ?_
  refine AD et ?_;refine Ad ?_;exact AJ (by simp) (Vd _ n)
 ·refine Ao 200 ?_
  refine AD et ?_;refine Ad ?_;exact AJ (by simp) (Vd _ n)
theorem L9 (neg:Bool)(n:Nat)(h:(Aa n).length<1000000000):AK C0 230 [Ai neg,rD n] (rZ (sg neg n)):=by
 have:=RK neg (Aa n) (FD n) h
 rwa [ES]at this
theorem Zv (z:Int)(h:Ga z):AK C0 228 [rZ z] (rZ (-z)):=by
 have cs:=L9 (!decide (z<0)) z.natAbs (Gf h (by decide));have e:rZ (sg (!decide (z<0)) z.natAbs)=rZ (-z):=by
  congr 1
  unfold sg
  by_cases hz:z<0
  ·rw[Au hz];simp;omega
  ·rw[Av hz];simp;omega
 rw[e]at cs;refine AZ.walk w1 uc rfl λF=>?_
 refine sR 0 ?_;refine sR 100 ?_;refine cI cs ?_;refine Ad ?_;exact AJ rfl AA.out
theorem O6 (x y:Int)(hx:Ga x)(hy:Ga y):AK C0 188 [rZ x,rZ y] (rZ (x*y)):=by
 have cm:=Vu x.natAbs y.natAbs hx hy;have hl:(Aa (x.natAbs*y.natAbs)).length<1000000000:=DH (Tc _ _) (by unfold Ga at hx hy;omega);have cs:=λb=>L9 b (x.natAbs*y.natAbs) hl
 have e:sg (decide (x<0) != decide (y<0)) (x.natAbs*y.natAbs)=x*y:=by
  conv=>rhs;rw[<-SN x,<-SN y]
  generalize decide (x<0)=a;generalize decide (y<0)=b;unfold sg;cases a<;>cases b<;>simp[Int.neg_mul,Int.mul_neg]
 rw[<-e];refine AZ.walk w1 sj rfl λF=>?_
 refine sR 0 ?_;refine AC.seq ?_;refine CM 100 [0,1,2,3,4,5,6,7,8,9] [10,11] ?_;refine AD kN ?_;refine Bb.same _ cm AI ?_;refine AD kN ?_;refine A7.same _ (cs _) AI ?_;refine BO ?_;refine Ad ?_;exact AJ rfl AA.out
theorem nr {a b:Nat}(h:b<=a):decide (EJ (a:Int) (b:Int)>=0)=true:=Au (by unfold EJ;split<;>(try split)<;>omega)
theorem nu {a b:Nat}(h:a<b):decide (EJ (a:Int) (b:Int)>=0)=false:=Av (by unfold EJ;split<;>(try split)<;>omega)
theorem wX (x y:Int)(hx:Ga x)(hy:Ga y):AK C0 223 [rZ x,rZ y] (rZ (x+y)):=by
 refine AZ.walk w1 u6 rfl λF=>?_
 unfold Ga at hx hy;cases hs:(decide (x<0)==decide (y<0))
 ·have hs':decide (x<0)≠decide (y<0):=by simpa using hs
  have hs2:(x<0/\¬y<0)\/(¬x<0/\y<0):=by
   by_cases h1:x<0<;>by_cases h2:y<0<;>simp_all
  have cc:=SV x.natAbs y.natAbs (by omega) (by omega);refine sR 0 ?_;refine AC.seq ?_;refine sZ 100 ?_;refine AW hs ?_;refine AN ?_;refine Aj ?_;refine AC.seq ?_;refine sR 300 ?_;refine cI cc ?_;rcases BA x.natAbs y.natAbs with h|h
  ·have cb:=gl y.natAbs x.natAbs (Jn h) hy
   have cs:=L9 (decide (y<0)) (y.natAbs-x.natAbs) (DH (XK _ _) (by omega));have e:sg (decide (y<0)) (y.natAbs-x.natAbs)=x+y:=by
    unfold sg
    by_cases hy0:y<0
    ·rw[Au hy0,AH rfl];omega
    ·rw[Av hy0,AG (by decide)];omega
   rw[e]at cs;rw[nu h];refine AN ?_;refine Aj ?_;refine AC.seq ?_;refine CM 500 [0,1,2,3,4,5,6] [7,8] ?_;refine AD kN ?_;refine Bb.same _ cb AI ?_;refine AD kN ?_;refine A7.same _ cs AI ?_;refine BO ?_;refine Ad ?_;exact AJ rfl AA.out
  ·have cb:=gl x.natAbs y.natAbs h hx
   have cs:=L9 (decide (x<0)) (x.natAbs-y.natAbs) (DH (XK _ _) (by omega));have e:sg (decide (x<0)) (x.natAbs-y.natAbs)=x+y:=by
    unfold sg
    by_cases hx0:x<0
    ·rw[Au hx0,AH rfl];omega
    ·rw[Av hx0,AG (by decide)];omega
   rw[e]at cs;rw[nr h];refine AN ?_;refine AC.seq ?_;refine CM 400 [0,1,2,3,4,5,6] [7,8] ?_;refine AD kN ?_;refine Bb.same _ cb AI ?_;refine AD kN ?_;refine A7.same _ cs AI ?_;refine BO ?_;refine Ad ?_;exact AJ rfl AA.out
 ·have hs':decide (x<0)=decide (y<0):=by simpa using hs
  have ca:=xP x.natAbs y.natAbs hx hy;have cs:=L9 (decide (x<0)) (x.natAbs+y.natAbs) (DH (XJ _ _) (by omega));have e:sg (decide (x<0)) (x.natAbs+y.natAbs)=x+y:=by
   unfold sg
   by_cases hx0:x<0
   ·have hy0:y<0:=DJ (hs'.symm.trans (Au hx0))
    rw[Au hx0,AH rfl];omega
   ·have hy0:¬y<0:=Db (hs'.symm.trans (Av hx0))
    rw[Av hx0,AG (by decide)];omega
  rw[e]at cs;refine sR 0 ?_;refine AC.seq ?_;refine sZ 100 ?_;refine AW hs ?_;refine AN ?_;refine AC.seq ?_;refine CM 200 [0,1,2,3,4,5,6] [7,8] ?_;refine AD kN ?_;refine Bb.same _ ca AI ?_;refine AD kN ?_;refine A7.same _ cs AI ?_;refine BO ?_;refine Ad ?_;exact AJ rfl AA.out
theorem j9 (k m:Nat):FT (k+1) m []=FT k (m/10) []++[UInt8.ofNat (48+m%10)]:=by
 rw[<-W5 (k+1) m [] (.inr (Nat.succ_pos k))];unfold FT Mh
 by_cases h:m/10=0
 ·rw[AH h,AH h];simp
 ·rw[AG h,AG h]
  rw[Dm,Bp,GM,Nat.add_sub_add_right,EE]
theorem Ug:∀(k hi d:Nat),hi≠0->d<10^k->Lib.decDigits (hi*10^k+d)=Lib.decDigits hi++FT k d []
 | 0,hi,d,_,hd=>by
  have h0:d=0:=by simpa using hd
  subst h0;rw[Mq,EO,Dq];simp[FT,Mh]
 |k+1,hi,d,hh,hd=>by
  have e1:hi*10^(k+1)=10*(hi*10^k):=by rw[CQ,<-Bx,BY]
  have h1:1<=10^k:=Nat.pow_pos (by decide);have h2:1<=hi*10^k:=G7 (EP hh) h1;have h3:¬hi*10^(k+1)+d<10:=by omega
  have h4:d/10<10^k:=by rw[CQ]at hd;omega
  rw[j9,<-EE,<-Ug k hi (d/10) hh h4];rw[Lib.decDigits,dif_neg h3,e1]
  congr 2
  ·omega
  ·congr 1;omega
theorem rn (hi d:Nat)(h:hi≠0)(hd:d<RB):Lib.decDigits (d+RB*hi)=Lib.decDigits hi++FT 9 d []:=by
 have:=Ug 9 hi d h (Co hd (by decide))
 rw[<-this]
 congr 1
 rw[BY,Lj]
theorem Ot {l:List Nat}(h:Rd l):(Lib.decDigits (AR l)).length<=9*l.length+1:=by
 have h1:=Gm h;have e:RB^l.length=10^(9*l.length):=by rw[Nat.pow_mul]
 rw[e]at h1;refine Lt _ _ (Gf h1 ?_);exact Nat.pow_lt_pow_right (by decide) (Hz _)
theorem aA (neg:Bool)(n:Nat)(h:neg=true->n≠0):Lib.itoa (sg neg n)=if neg then 45::Lib.decDigits n else Lib.decDigits n:=by
 unfold Lib.itoa sg;cases neg
 ·simp only[Gd,if_false]
  rw[CR];rfl
 ·have:=h rfl
  simp only[if_true];rw[DQ,Mp];rfl
theorem wF (neg:Bool)(n:Nat)(h:neg=true->n≠0)(hl:(Aa n).length<1000000):AK C0 189 [.agg [Ai neg,rD n]] (str (sb (Lib.itoa (sg neg n)))):=by
 refine AZ.walk w1 sk rfl λF=>?_
 rw[aA neg n h];change AC C0 F none F _ ⟨Dg 0 [.agg [Ai neg,.sl false 1 ((Aa n).map Ac)]],[],0⟩ _;have vn:=ES n;have wn:=FD n;have tp:=λk a=>QX n (k:=k) (a:=a)
 generalize Aa n=l at*;subst vn;rcases hc:l.length with _|m
 ·have e0:l=[]:=F6 hc
  subst e0;have hn:neg=false:=by cases neg;rfl;exact Af rfl (h rfl)
  subst hn;have e1:Lib.decDigits (AR [])=[48]:=by unfold Lib.decDigits AR;rw[dif_pos (by decide)];rfl
  rw[AG (by decide),e1];refine sR 0 ?_;refine AC.seq ?_;refine sR 100 ?_;refine AN ?_;refine sR 200 ?_;refine Ad ?_;exact AJ rfl AA.out
 ·obtain⟨y,hy⟩:=Cg (l:=l) (i:=m) (by omega)
  have yl:=wn y (Ay hy);have y0:=tp m y hc hy;have hy':=EB hy;have el:(((l.map Ac).length:Nat):Int)=((m+1:Nat):Int):=by rw[Ag,hc]
  have et:(((m+1:Nat):Int)==0)=false:=Br.2 (by omega);have w0:IntKind.i64.wrap (((m+1:Nat):Int)-1)=(m:Int):=by rw[wI];omega
  have w2:IntKind.i64.wrap (((m+1:Nat):Int)-2)=(m:Int)-1:=by rw[wI];omega
  have cd:=Qb y 1 (by unfold RB at yl;omega);rw[Zl]at cd;have wr0:IntKind.i64.wrap ((((l.map Ac).length:Nat):Int)-1)=(m:Int):=by rw[el,w0]
  have ed:l.drop m=[y]:=by
   rw[EN (by omega),HP (by omega)];rw[Cf]at hy;rw[F8 hy]
  refine sR 0 ?_;refine AC.seq ?_;refine sZ 100 ?_;refine AW (Ab el et) ?_;refine AN ?_;refine Aj ?_;refine sZ 300 ?_;refine AD (BS el w0 wr0 kN) ?_;refine Bw kT hy' ?_;refine AD kN ?_;refine A7.same _ cd AI ?_;refine BO ?_;have ev:AR (l.drop m)=y:=by rw[ed];simp[AR]
  refine AC.seq ?_;refine sZ 400 ?_;refine AW (Ab el w2) ?_;refine AC.block ?_;refine AC.loop (α:=Nat×Nat) (λp=>⟨[(1,.optr 0 0 2 0 0),(3,str (sb (Lib.decDigits (AR (l.drop p.1))))),(4,i64 ((p.1:Int)-1))],[⟨0,0,223,2,[.agg [Ai neg,.sl false 1 (l.map Ac)]]⟩],p.2⟩) (λp=>p.1)
   (λp=>p.1<=m/\AR (l.drop p.1)≠0) (m,_) ⟨Al _,by dsimp only;rw[ev];exact y0⟩ (by dsimp only;rw[ev];exact AL) ?_
  rintro⟨k,n1⟩ F ⟨h1,h2⟩;dsimp only at h1 h2⊢;clear cd;refine AC.seq ?_;refine sR 500 ?_;refine AN ?_
  (refine B1 (λh20=>?_) (λh20=>?_))<;>(try simp only[Bl,Bz]at h20)<;>(try simp only[h20])
  ·obtain⟨j,rfl⟩:∃j,k=j+1:=⟨k-1,by
    have:(k:Int)-1>=0:=by simpa using h20
    omega⟩
   have wj:((j+1:Nat):Int)-1=(j:Int):=by omega
   obtain⟨d,hd⟩:=Cg (l:=l) (i:=j) (by omega);have hd':=EB hd;have dl:=wn d (Ay hd);have c9:=Qb d 9 (by unfold RB at dl;omega);have eD:Lib.decDigits (AR (l.drop (j+1)))++FT 9 d []=Lib.decDigits (AR (l.drop j)):=by rw[Qg hd,rn _ _ h2 dl]
   have hlen:=Ot (l:=l.drop j) λa ha=>wn a (Li ha)
   rw[<-eD,Bp,Dp]at hlen;have h3:AR (l.drop j)≠0:=by
    rw[Qg hd]
    have:0<RB*AR (l.drop (j+1)):=G7 (by decide) (EP h2)
    omega
   have z1:=Cd (Lib.decDigits (AR (l.drop (j+1))));have z2:=O3 (FT 9 d []);have wi:IntKind.i64.wrap ((j:Int)-1)=(j:Int)-1:=wI;rw[wj];refine Aj ?_;refine AC.seq ?_;refine AC.block ?_;refine Ao 700 ?_;refine AD kN ?_;refine Bw kT hd' ?_;refine AD kN ?_;refine A7.same _ c9 AI ?_;refine BO ?_;rw[JY,eD];refine Ao 600 ?_;refine AW wi ?_;exact⟨(j,_),⟨by dsimp only;omega,h3⟩,by dsimp only;omega,AL⟩
  ·have hk:k=0:=by
    have:¬((k:Int)-1>=0):=by simpa using h20
    omega
   subst hk;rw[Fi]at h2⊢;have hlen:=Ot wn;have z1:=Cd (Lib.decDigits (AR l));have z2:(⟨#[45]⟩:ByteArray).size=1:=rfl;refine CK ?_;refine AC.seq ?_;refine AC.seq ?_;cases neg
   ·refine rI 800 ?_
    refine AN ?_;refine Aj ?_;rw[AG (by decide)];refine sR 1000 ?_;refine Ad ?_;exact AJ rfl AA.out
   ·refine rI 800 ?_
    refine AN ?_;rw[AH rfl];refine sR 900 ?_;refine Ad ?_;refine AJ ?_ AA.out;show str ((⟨([45]:List UInt8).toArray⟩:ByteArray)++⟨(Lib.decDigits (AR l)).toArray⟩)=_;rw[JY];rfl
theorem Vn (z:Int)(h:Ga z):AK C0 189 [rZ z] (str (sb (Lib.itoa z))):=by
 have:=wF (decide (z<0)) z.natAbs (λh=>by have:=DJ h;omega) h
 rwa [SN]at this
theorem Mk {C:A9}{f:Nat}{ds ds':List D}{Φ:D->Prop}{H:Hp}{n:Nat}(Hf:Hp)(hc:AZ C f ds' Φ)(hH:Cw H Hf H Hf)(hv:Et H Hf ds ds')
  (hp:Ah ds'):Ct C f ds H n (λd' H' n'=>Φ d'/\H'=Hf/\n'=n+1):=by
 refine⟨hc.1,λF ρ w vs m hfr hg hvs hr=>?_⟩;obtain⟨m',hO,hN⟩:=hH.mem m;obtain⟨l1,l2⟩:=hv.spec;refine(hc.2 (AM F.X ρ Hf) w vs m.g (BT m.gn m.size) (λb hb=>m'.own_lt hb) (by omega) λi x hx=>?_).mono ?_
 ·have hi:i<ds'.length:=(BQ.1 hx).1
  have hd0:ds[i]?=some ds[i]:=Cf;exact hp.out x (Ay hx) _ _ _ _ _ ((l2 i _ x hd0 hx).rep m hO hN (hr i _ hd0))
 ·rintro e w' ⟨v,d',rfl,hb,hd',rep⟩
  have hb2:∀(b:Nat) (cs:Array Value) (T:Nat) (fz:Nat×Nat),w.heap[b]?=some (.cells cs T fz)->∃(cs':Array Value) (fz':Nat×Nat),w'.heap[b]?=some (.cells cs' T fz')/\cs'.size=cs.size:=λb cs T fz hh=>⟨cs,_,by
   rw[hb.block b (C7.1 hh).1];exact hh,rfl⟩
  have x:BX ρ (AM F.X ρ H) w ρ (AM F.X ρ Hf) w':=⟨hb.size,λ_ _ _ h=>h,λb hb' hO2=>⟨λh=>hO2 (hO b h),hb.block b hb'⟩,hb2⟩
  have x':BX ρ (AM F.X ρ Hf) w ρ (AM F.X ρ Hf) w':=⟨hb.size,λ_ _ _ h=>h,λb hb' hO2=>⟨hO2,hb.block b hb'⟩,hb2⟩
  refine⟨v,_,Hf,n+1,ρ,rfl,⟨hd',rfl,rfl⟩,m'.same x' hb.os hb.tape hb.output hb.block,x,λk g hg'=>hfr k g (by omega),λe he=>?_,rep.mono ⟨Al _,λ_ _ _ h=>(by cases h),λb _ hO2=>⟨hO2,rfl⟩,λb cs T fz h=>⟨cs,_,h,rfl⟩⟩⟩;obtain⟨e',h1,h2,h3,_⟩:=hH.names e he
  have:=hg e' h1
  omega
theorem kp {l:List UInt8}{i:Nat}{c:UInt8}(hc:l[i]?=some c)(hi:i<=BC l):(((c.toNat:Nat):Int)==47)=decide (i=BC l):=by
 have e1:(((c.toNat:Nat):Int)==47)=(c==47):=by
  rw[F7,EQ,EQ,<-UInt8.toNat_inj];exact⟨λh=>(show c.toNat=47 by omega),λh=>by rw[h];rfl⟩
 rw[e1];unfold BC at hi⊢;clear e1
 induction l generalizing i with
 |nil=>cases hc
 |cons a l ih=>
  rw[N9]at hi⊢;cases i with
  |zero=>
   cases hc
   by_cases h:c=47
   ·subst h;rfl
   ·have h1:(c != 47)=true:=by simpa using h
    have h2:(c==47)=false:=by simpa using h
    rw[AH h1,h2,Bq,Bc]
  |succ i=>
   by_cases h:a=47
   ·subst h
    exact Af hi (by simp)
   ·have h1:(a != 47)=true:=by simpa using h
    rw[AH h1,Bq]at hi⊢;rw[ih hc (by omega)];exact DA.2 (by omega)
theorem Rn (l:List UInt8)(h:l.all Bj=true)(hl:l.length<=18):AK C0 224 [str (sb l)] (i64 (dv l:Int)):=by
 refine AZ.walk w1 u7 rfl λF=>?_
 have hsz:=Cd l;refine sR 0 ?_;refine sR 100 ?_;refine AC.seq ?_;refine sR 200 ?_;refine AC.block ?_;refine AC.loop (α:=Nat×Nat) (λp=>⟨[(0,str (sb l)),(3,i64 (dv (l.take p.1):Int)),(4,i64 (p.1:Int))],[],p.2⟩) (λp=>l.length-p.1) (λp=>p.1<=l.length) (0,_) (BU _) AL ?_;rintro⟨i,n⟩ F hi;dsimp only at hi⊢;refine AC.seq ?_;refine sZ 300 ?_;refine AW hsz ?_;refine AN ?_
 (refine B1 (λhlt=>?_) (λhlt=>?_))<;>(try simp only[Bl,Bz]at hlt)<;>(try simp only[hlt])
 ·have hi2:i<l.length:=by
   have:=DJ hlt
   omega
  obtain⟨c,hc⟩:∃c,l[i]?=some c:=⟨l[i],Bo hi2⟩
  have hcd:Bj c=true:=CY.1 h c (Ay hc);obtain⟨c1,c2⟩:=Lw hcd;have hg:(sb l).data.toList.getD i 0=c:=by
   show(l.toArray.toList).getD i 0=c;simp[hc]
  have hdl:dv (l.take i)<10^17:=by
   have:=Gr (l.take i) (CY.2 λa ha=>CY.1 h a (JA ha))
   rw[Bi,Fh hi]at this;exact Co this (FO (by decide) (by omega))
  have hnx:dv (l.take (i+1))=dv (l.take i)*10+(c.toNat-48):=by
   rw[D8,hc];show dv (l.take i++[c])=_;rw[OX];simp[dv,HO]
  have k1:IntKind.i64.wrap (10*(dv (l.take i):Int))=((10*dv (l.take i):Nat):Int):=by rw[wI];omega
  have k2:IntKind.i64.wrap ((c.toNat:Nat):Int)=((c.toNat:Nat):Int):=wI;have k3:IntKind.i64.wrap (((10*dv (l.take i):Nat):Int)+((c.toNat:Nat):Int))=((10*dv (l.take i)+c.toNat:Nat):Int):=by rw[wI];omega
  have k4:IntKind.i64.wrap (((10*dv (l.take i)+c.toNat:Nat):Int)-48)=((dv (l.take (i+1)):Nat):Int):=by rw[hnx,wI];omega
  have wi:IntKind.i64.wrap ((i:Int)+1)=((i+1:Nat):Int):=wI;refine Aj ?_;refine AC.seq ?_;refine AC.block ?_;refine Ao 500 ?_;refine AW (Ek kN hg k1 k2 k3 k4) ?_;refine Ao 400 ?_;refine AW wi ?_;exact⟨(i+1,_),hi2,by dsimp only;omega,AL⟩
 ·have hi2:i=l.length:=by
   have:=Db hlt
   omega
  subst hi2;rw[Ch (Al _)];refine CK ?_;refine sR 600 ?_;refine Ad ?_;exact AJ rfl AA.out
theorem PB (l:List UInt8)(hl:l.length<=1000000000):AK C0 139 [str (sb l)] (i64 (BC l:Int)):=by
 refine AZ.walk w1 tT rfl λF=>?_
 have hsz:=Cd l;refine sR 0 ?_;refine AC.seq ?_;refine sR 100 ?_;refine AC.block ?_;refine AC.loop (α:=Nat×Nat) (λp=>⟨[(0,str (sb l)),(3,i64 (p.1:Int))],[],p.2⟩) (λp=>l.length-p.1) (λp=>p.1<=BC l) (0,_) (BU _) AL ?_;rintro⟨i,n⟩ F hi;dsimp only at hi⊢;have hsl:=J3 l;refine AC.seq ?_;refine sZ 200 ?_;refine AW hsz ?_;refine AN ?_
 (refine B1 (λhlt=>?_) (λhlt=>?_))<;>(try simp only[Bl,Bz]at hlt)<;>(try simp only[hlt])
 ·have hi2:i<l.length:=by
   have:=DJ hlt
   omega
  obtain⟨c,hc⟩:∃c,l[i]?=some c:=⟨l[i],Bo hi2⟩
  have hg:(sb l).data.toList.getD i 0=c:=by
   show(l.toArray.toList).getD i 0=c;simp[hc]
  have wi:IntKind.i64.wrap ((i:Int)+1)=((i+1:Nat):Int):=wI;have ht:(((c.toNat:Nat):Int)==47)=decide (i=BC l):=kp hc hi;refine Aj ?_;refine AC.seq ?_;refine AC.block ?_;refine sZ 400 ?_;refine AW (Ar kN hg ht) ?_
  by_cases he:i=BC l
  ·rw[Au he]
   refine AN ?_;refine sR 500 ?_;refine Ad ?_;exact AJ (by rw[he]) AA.out
  ·rw[Av he]
   refine AN ?_;refine Aj ?_;refine Ao 300 ?_;refine AW wi ?_;exact⟨(i+1,_),by dsimp only;omega,by dsimp only;omega,AL⟩
 ·have hi2:i=l.length:=by
   have:=Db hlt
   omega
  refine CK ?_;refine sZ 600 ?_;refine AW hsz ?_;refine Ad ?_;exact AJ (by congr 3;omega) AA.out
theorem UW {H Hf:Hp}{K g T:Nat}{l:List Nat}{N:Nat}(hl:l.length=N)(he:Hp.get H K=some ⟨K,g,T,1,l.map Ac⟩:=by exact rfl)(hn:Hp.get Hf K=none:=by exact rfl):Fz H Hf (.osl K g 1 0 N) (.sl false 1 (l.map Ac)):=by
 subst hl;have key:∀(j:Nat) (d d':D),(l.map Ac)[0+j]?=some d->(l.map Ac)[j]?=some d'->d=d':=λj d d' h1 h2=>by
  rw[BZ]at h1;rw[h1]at h2;exact F8 h2
 refine .osl (e:=⟨K,g,T,1,l.map Ac⟩) he hn rfl rfl (by simp) (by simp) (λj d d' h1 h2=>by rw[key j d d' h1 h2]) λj d d' q c c' h1 h2 h3 h4=>?_
 rw[key j d d' h1 h2]at h3;rw[h3]at h4;cases h4;exact Fz.refl _
theorem RF (c:UInt8)(l:List UInt8):(((c.toNat:Nat):Int)==45)=Dh (c::l):=by
 show _=(c==45);rw[F7,EQ,EQ,<-UInt8.toNat_inj];exact⟨λh=>(show c.toNat=45 by omega),λh=>by rw[h];rfl⟩
abbrev Nh:Aq:=⟨0,0,223,2,[.agg [Ai false,CS]]⟩
theorem rq {x:List UInt8}(h:9<x.length):dv x=dv (x.take (x.length-9))*RB+dv (x.drop (x.length-9)):=by
 conv=>lhs;rw[<-Fj (x.length-9) x,OX,Dp,show x.length-(x.length-9)=9 by omega]
theorem wZ (A B t n v:Nat):(A*B+t)*B^n+v=A*B^(n+1)+(v+B^n*t):=by
 rw[Bv,Bx,CQ,BY B,BY t];omega
theorem XQ {x x0:List UInt8}{w:List Nat}(h9:9<x.length)(g1:x.all Bj=true)(g2:x.length+w.length*9=x0.length)(g3:Rd w)(g4:dv x0=dv x*RB^w.length+AR w):
  (x.take (x.length-9)).all Bj=true/\(x.take (x.length-9)).length+(w++[dv (x.drop (x.length-9))]).length*9=x0.length/\Rd (w++[dv (x.drop (x.length-9))]) /\
  dv x0=dv (x.take (x.length-9))*RB^(w++[dv (x.drop (x.length-9))]).length+AR (w++[dv (x.drop (x.length-9))]):=by
 refine⟨CY.2 λa ha=>CY.1 g1 a (JA ha),?_,Rd.append g3 λa ha=>?_,?_⟩
 ·rw[Bi,Bp,GM];omega
 ·simp only[Az,Dk,or_false]at ha
  subst ha
  have:=Gr (x.drop (x.length-9)) (CY.2 λa ha=>CY.1 g1 a (Li ha))
  rwa [Dp,show x.length-(x.length-9)=9 by omega]at this
 ·rw[g4,rq h9,Hd rfl,Bp,GM]
  exact wZ _ _ _ _ _
theorem m9 {x x0:List UInt8}{w:List Nat}(h9:x.length<=9)(g1:x.all Bj=true)(g3:Rd w)(g4:dv x0=dv x*RB^w.length+AR w):Rd (w++[dv x])/\AR (w++[dv x])=dv x0:=by
 refine⟨Rd.append g3 λa ha=>?_,?_⟩
 ·simp only[Az,Dk,or_false]at ha
  subst ha;exact Co (Gr x g1) (FO (by decide) h9)
 ·rw[g4,Hd rfl,BY,Lj]
theorem ZW {w:List Nat}{a:Nat}:List.take w.length (w.map Ac)++[i64 (a:Int)]=(w++[a]).map Ac:=by
 rw[Ch (by rw[Ag];exact Al _),DK];rfl
theorem aL (l:List UInt8)(hd:(Bs l).all Bj=true)(hl:l.length<=1000000):AK C0 227 [str (sb l)] (rZ (rv l)):=by
 have er:rv l=sg (Dh l) (dv (Bs l)):=rfl;rw[er];refine AZ.walk w1 ub rfl λF=>?_
 have hsz:=Cd l;have hdl:(Bs l).length<=l.length:=by
  unfold Bs;split
  ·rw[Dp];omega
  ·exact Al _
 refine sR 0 ?_;refine DE (α:=Nat) (λn=>⟨[(0,str (sb l)),(2,.optr 0 0 2 0 0),(3,Ai (Dh l))],[Nh],n⟩) (λ_=>True) ?_ ?_
 ·cases l with
  |nil=>
   have e0:(sb []).size=0:=rfl;have e1:decide (((0:Nat):Int)>0)=false:=rfl;refine Ao 100 ?_;refine AD (Ab e0 e1) ?_;refine AD (Ab kF e1) ?_;exact⟨trivial,_,trivial,AL⟩
  |cons c l=>
   have hpos:(sb (c::l)).size=l.length+1:=hsz;have e0:decide (((sb (c::l)).size:Int)>0)=true:=BV;have e1:((((c::l).getD (Int.toNat 0) 0).toNat:Int)==45)=Dh (c::l):=RF c l;refine Ao 100 ?_;refine AD e0 ?_;refine AD (Ar kT e0 e1) ?_;exact⟨trivial,_,trivial,AL⟩
 rintro n0 -;refine DE (α:=Nat) (λn=>⟨[(0,str (sb (Bs l))),(2,.optr 0 0 2 0 0),(3,Ai (Dh l))],[Nh],n⟩) (λ_=>True) ?_ ?_
 ·refine sR 200 ?_
  cases hb:Dh l
  ·have ed:Bs l=l:=by unfold Bs;rw[hb];rfl
   rw[ed];refine AN ?_;refine Aj ?_;exact⟨rfl,_,trivial,AL⟩
  ·have ed:Bs l=l.drop 1:=by unfold Bs;rw[hb];rfl
   have hl0:1<=l.length:=by
    cases l with
    |nil=>cases hb
    |cons c l=>rw[Bq];omega
   have ee:(sb l).extract (Int.toNat 1) l.length=sb (Bs l):=by
    rw[Em,Ch (Al _),ed];rfl
   refine AN ?_;refine Ao 300 ?_;refine AD (Ab hsz kN) ?_;rw[ee];exact⟨trivial,_,trivial,AL⟩
 rintro n1 -;generalize Dh l=neg at*;generalize Bs l=x0 at*;clear er hsz;have hx0:x0.length<=1000000:=BT hdl hl;clear hdl hl l;refine sR 400 ?_;refine AC.seq ?_;refine AC.block ?_;refine AC.loop (α:=Bool×List UInt8×List Nat×Nat×Nat) (λp=>match p with
  |(false,x,_,_,n)=>⟨[(0,str (sb x)),(2,.optr 0 0 2 0 0),(3,Ai neg),(4,CS)],[Nh],n⟩
  |(true,x,w,g,n)=>⟨[(0,str (sb x)),(2,.optr 0 0 2 0 0),(3,Ai neg),(4,.osl 608 g 1 0 w.length)],[⟨608,g,3,1,w.map Ac⟩,Nh],n⟩) (λp=>p.2.1.length)
  (λp=>p.2.1.all Bj=true/\p.2.1.length+p.2.2.1.length*9=x0.length/\Rd p.2.2.1/\dv x0=dv p.2.1*RB^p.2.2.1.length+AR p.2.2.1/\(p.1=false->p.2.2.1=[]))
  (false,x0,[],0,_) ⟨hd,rfl,(λa ha=>by cases ha),by simp[AR],λ_=>rfl⟩ AL ?_
 rintro⟨t,x,w,g,n2⟩ F ⟨g1,g2,g3,g4,g5⟩;dsimp only at g1 g2 g3 g4 g5;have hsz:=Cd x
 by_cases h9:9<x.length
 ·have ht:decide ((x.length:Int)>9)=true:=BV
  have cv:=Rn (x.drop (x.length-9)) (CY.2 λa ha=>CY.1 g1 a (Li ha)) (by rw[Dp];omega);have wk:IntKind.i64.wrap ((x.length:Int)-9)=((x.length-9:Nat):Int):=by rw[wI];omega
  have wr:IntKind.i64.wrap (((sb x).size:Int)-9)=((x.length-9:Nat):Int):=by rw[hsz,wk]
  have e1:(sb x).extract (x.length-9) x.length=sb (x.drop (x.length-9)):=by rw[Em,Ch (Al _)]
  have e2:(sb x).extract 0 (x.length-9)=sb (x.take (x.length-9)):=by rw[Em,Fi]
  cases t
  ·dsimp only
   obtain rfl:=g5 rfl;refine AC.seq ?_;refine sZ 500 ?_;refine AW (Ab hsz ht) ?_;refine AN ?_;refine Aj ?_;refine AC.block ?_;refine sZ 600 ?_;refine AD (CI hsz wk wr kN e1) ?_;refine A7.same _ cv AI ?_;refine BO ?_;have J:=XQ h9 g1 g2 g3 g4;rw[GK]at J;refine Ao 700 ?_;refine AD (BS hsz wk wr kN) ?_;refine AD e2 ?_;exact⟨(true,x.take (x.length-9),[dv (x.drop (x.length-9))],n2+11,_),⟨J.1,J.2.1,J.2.2.1,J.2.2.2,λh=>by cases h⟩,by dsimp only;rw[Bi];omega,AL⟩
  ·dsimp only
   clear g5;have J:=XQ h9 g1 g2 g3 g4;have ew:(w.map Ac).length=w.length:=Ag _;have el:w.length+1=(w++[dv (x.drop (x.length-9))]).length:=by rw[Bp];rfl
   refine AC.seq ?_;refine sZ 500 ?_;refine AW (Ab hsz ht) ?_;refine AN ?_;refine Aj ?_;refine AC.block ?_;refine sZ 600 ?_;refine AD (CI hsz wk wr kN e1) ?_;refine A7.same _ cv AI ?_;refine BO ?_;rw[ZW,el];refine Ao 700 ?_;refine AD (BS hsz wk wr kN) ?_;refine AD e2 ?_;exact⟨(true,x.take (x.length-9),w++[dv (x.drop (x.length-9))],n2+11,_),⟨J.1,J.2.1,J.2.2.1,J.2.2.2,λh=>by cases h⟩,by dsimp only;rw[Bi];omega,AL⟩
 ·have ht:decide ((x.length:Int)>9)=false:=Bc
  have cv:=Rn x g1 (by omega);obtain⟨r1,r2⟩:=m9 (by omega) g1 g3 g4;have cs:=RK neg (w++[dv x]) r1 (by rw[Bp,GM];omega);rw[r2]at cs;cases t
  ·dsimp only
   obtain rfl:=g5 rfl;refine AC.seq ?_;refine sZ 500 ?_;refine AW (Ab hsz ht) ?_;refine AN ?_;refine CK ?_;refine sR 800 ?_;refine A7.same _ cv AI ?_;refine BO ?_;refine A7.own _ (Mk [Nh] cs (.drop (.keep .nil)) ⟨.refl _,UW rfl,trivial⟩ AI) ?_;rintro d H' n' ⟨rfl,rfl,rfl⟩;refine BO ?_;refine Ad ?_;exact AJ rfl AA.out
  ·dsimp only
   clear g5;have ew:(w.map Ac).length=w.length:=Ag _;have el:w.length+1=(w++[dv x]).length:=by rw[Bp];rfl
   refine AC.seq ?_;refine sZ 500 ?_;refine AW (Ab hsz ht) ?_;refine AN ?_;refine CK ?_;refine sR 800 ?_;refine A7.same _ cv AI ?_;refine BO ?_;rw[ZW,el];refine A7.own _ (Mk [Nh] cs (.drop (.keep .nil)) ⟨.refl _,UW rfl,trivial⟩ AI) ?_;rintro d H' n' ⟨rfl,rfl,rfl⟩;refine BO ?_;refine Ad ?_;exact AJ rfl AA.out
def Wh (o:Option D):Bool:=match o with
 |some (.agg [.prim (.bool false),.sl false 1 [.prim (.int .i64 1)]])=>true
 |_=>false
theorem nS {o:Option D}(h:Wh o=true):o=some (rZ 1):=by
 have h1:Aa 1=[1]:=QW (by decide) (by decide);unfold Wh at h;split at h
 ·show _=some (D.agg [Ai (decide ((1:Int)<0)),rL (Aa 1)])
  rw[h1];rfl
 ·cases h
theorem kK:Wh ((Gg X1 1000 60).1 190 [i64 1])=true:=by kernel_rfl
theorem mg:AK C0 190 [i64 1] (rZ 1):=Px Dv 1000 60 (nS kK)
def Pr (l:List UInt8):Int:=rv (B6 l)
def Pf (l:List UInt8):Int:=if C5 l then rv (Be l)else 1
instance  (x y:Int):AA (.tup [rZ x,rZ y]):=⟨.tup λd hd=>by
 simp only[Az,Dk,or_false]at hd;rcases hd with rfl|rfl
 ·exact AA.out
 ·exact AA.out⟩
theorem O9 (l:List UInt8)(hn:(Bs (B6 l)).all Bj=true)(hd:(Bs (Be l)).all Bj=true)(hl:l.length<=1000000):AK C0 186 [str (sb l)] (.tup [rZ (Pr l),rZ (Pf l)]):=by
 refine AZ.walk w1 se rfl λF=>?_
 have hsz:=Cd l;have cs:=PB l (by omega);have hsl:=J3 l;have c1:=aL (B6 l) hn (by unfold B6;rw[Bi];omega);have c2:=aL (Be l) hd (by unfold Be;rw[Dp];omega);have cw:=mg;unfold Pr Pf;refine sR 0 ?_;refine sR 100 ?_;refine sR 200 ?_;refine cI cs ?_;cases hh:C5 l
 ·have he:BC l=l.length:=by
   unfold C5 at hh
   have:=Db hh
   omega
  have e0:(((BC l:Nat):Int)==(l.length:Int))=true:=EQ.2 (by omega);have en:B6 l=l:=by unfold B6;rw[he,Ch (Al _)]
  rw[en]at c1⊢;refine AC.seq ?_;refine sZ 300 ?_;refine AW (Ab hsz e0) ?_;refine AN ?_;refine sR 400 ?_;refine cI c1 ?_;refine A7.same _ cw AI ?_;refine BO ?_;refine Ad ?_;exact AJ rfl AA.out
 ·have he:BC l<l.length:=DJ hh
  have e0:(((BC l:Nat):Int)==(l.length:Int))=false:=Br.2 (by omega);have x1:(sb l).extract 0 (BC l)=sb (B6 l):=by rw[Em,Fi];rfl
  have x2:(sb l).extract (BC l+1) l.length=sb (Be l):=by rw[Em,Ch (Al _)];rfl
  have wk:IntKind.i64.wrap (((BC l:Nat):Int)+1)=((BC l+1:Nat):Int):=wI;refine AC.seq ?_;refine sZ 300 ?_;refine AW (Ab hsz e0) ?_;refine AN ?_;refine Aj ?_;refine AC.seq ?_;refine CM 500 [0,1,2,3,4,5,6,7] [8,9,10] ?_;refine AD (CI hsz wk kN x1 x2) ?_;refine Bb.same _ c1 AI ?_;refine AD (CI hsz wk kN x1 x2) ?_;refine A7.same _ c2 AI ?_;refine BO ?_;refine Ad ?_;exact AJ rfl AA.out
def An (r:Rat):List UInt8:=if r.den=1 then Lib.itoa r.num else Lib.itoa r.num++47::Lib.decDigits r.den
def qZ (x y:Int):Rat:=mkRat (if y<0 then -x else x) y.natAbs
theorem UL {x:Int}{d:Nat}(hd:d≠0):(mkRat x d).num=sg (decide (x<0)) (x.natAbs/Nat.gcd x.natAbs d)/\(mkRat x d).den=d/Nat.gcd x.natAbs d:=by
 rw[mkRat,dif_neg hd,Rat.normalize_eq];refine⟨?_,rfl⟩;dsimp only;have hg:0<Nat.gcd x.natAbs d:=P2 _ (EP hd);obtain⟨p,hp⟩:=Nat.gcd_dvd_left x.natAbs d;have e1:x.natAbs/Nat.gcd x.natAbs d=p:=by
  refine Nat.div_eq_of_eq_mul_right hg hp
 have e2:x=(Nat.gcd x.natAbs d:Int)*sg (decide (x<0)) p:=by
  have h0:(x.natAbs:Int)=(Nat.gcd x.natAbs d:Int)*(p:Int):=by rw[<-E7,<-hp]
  unfold sg
  by_cases hx:x<0
  ·rw[Au hx,AH rfl,Int.mul_neg,<-h0];omega
  ·rw[Av hx,AG (by decide),<-h0];omega
 rw[e1]
 conv=>lhs;arg 1;rw[e2]
 rw[Int.mul_ediv_cancel_left _ (by omega)]
theorem ZB (q:Nat):((((((Aa q).map Ac).length:Nat):Int)==1)=true/\∃a,(Aa q)[0]?=some a/\(((a:Nat):Int)==1)=decide (q=1))\/((((((Aa q).map Ac).length:Nat):Int)==1)=false/\q≠1):=by
 rw[Ag]
 by_cases h:(Aa q).length=1
 ·refine .inl ⟨EQ.2 (by omega),?_⟩
  obtain⟨a,ha⟩:=Cg (l:=Aa q) (i:=0) (by omega);refine⟨a,ha,?_⟩;have e:Aa q=[a]:=by
   obtain⟨b,hb⟩:=List.length_eq_one_iff.1 h;rw[hb]at ha⊢;cases ha;rfl
  have e2:q=a:=by rw[<-ES q,e];simp[AR]
  rw[e2];rw[F7,EQ,decide_eq_true_iff];omega
 ·refine .inr ⟨Br.2 (by omega),λhq=>h ?_⟩
  rw[hq,QW (by decide) (by decide)];rfl
theorem Xg (x y:Int)(hy0:y≠0)(hx:Ga x)(hy:Ga y):AK C0 187 [rZ x,rZ y] (str (sb (An (qZ x y)))):=by
 refine AZ.walk w1 sf rfl λF=>?_
 unfold qZ;refine sR 0 ?_;refine DE (α:=Nat) (λn=>⟨[(2,.optr 0 0 2 0 0),(3,.optr 1 1 2 0 0)],[⟨1,1,223,2,[.agg [Ai false,rD y.natAbs]]⟩,⟨0,0,223,2,[rZ (if y<0 then -x else x)]⟩],n⟩) (λ_=>True) ?_ ?_
 ·by_cases h:y<0
  ·have cx:=Zv x hx
   have cy:=Zv y hy;have e1:rZ (-y)=.agg [Ai false,rD y.natAbs]:=by
    show D.agg [Ai (decide (-y<0)),rD (-y).natAbs]=_;rw[Bc,Mp]
   rw[e1]at cy;rw[AH h];refine sZ 100 ?_;refine AW (Au h) ?_;refine AN ?_;refine CM 200 [0,1,2] [3,4,5] ?_;refine AD kN ?_;refine Bb.same _ cx AI ?_;refine AD kN ?_;refine A7.same _ cy AI ?_;refine BO ?_;exact⟨trivial,_,trivial,AL⟩
  ·have e1:rZ y=.agg [Ai false,rD y.natAbs]:=by
    show D.agg [Ai (decide (y<0)),rD y.natAbs]=_;rw[Av h]
   rw[AG h];refine sZ 100 ?_;refine AW (Av h) ?_;refine AN ?_;refine Aj ?_;refine⟨rfl,5,trivial,?_⟩;rw[<-e1];exact AL
 rintro n0 -;obtain⟨z,hz⟩:∃z,z=(if y<0 then -x else x):=⟨_,rfl⟩
 have hza:z.natAbs=x.natAbs:=by rw[hz];split<;>omega
 obtain⟨d,hd⟩:∃d,d=y.natAbs:=⟨_,rfl⟩
 have hd0:d≠0:=by omega
 unfold Ga at hx hy;rw[<-hza]at hx;rw[<-hd]at hy;rw[<-hz,<-hd];clear hz hza hd hy0;clear x y;have cg:=Yy z.natAbs d hx hy;obtain⟨qn,qd⟩:=UL (x:=z) hd0;have hg:0<Nat.gcd z.natAbs d:=P2 _ (EP hd0);have hgl:(Aa (Nat.gcd z.natAbs d)).length<1000000:=DH (JM _ _ (Nat.gcd_le_right _ (EP hd0))) hy;have c4:=WV z.natAbs (Nat.gcd z.natAbs d) (by omega) hx hgl;have c5:AK C0 229 [rD d,rD (Nat.gcd z.natAbs d)] (.tup [.sl false 1 ((Aa (d/Nat.gcd z.natAbs d)).map Ac),rD (d%Nat.gcd z.natAbs d)]):=WV d (Nat.gcd z.natAbs d) (by omega) hy hgl;have hpl:(Aa (z.natAbs/Nat.gcd z.natAbs d)).length<1000000:=DH (JM _ _ (GJ _ _)) hx;have hql:(Aa (d/Nat.gcd z.natAbs d)).length<1000000:=DH (JM _ _ (GJ _ _)) hy;have etx:An (mkRat z d)=if d/Nat.gcd z.natAbs d=1 then Lib.itoa (sg (decide (z<0)) (z.natAbs/Nat.gcd z.natAbs d))else Lib.itoa (sg (decide (z<0)) (z.natAbs/Nat.gcd z.natAbs d))++47::Lib.decDigits (d/Nat.gcd z.natAbs d):=by
  unfold An;rw[qn,qd]
 rw[etx];clear etx qn qd hg hgl;generalize z.natAbs/Nat.gcd z.natAbs d=p at*;generalize d/Nat.gcd z.natAbs d=q at*;generalize z.natAbs%Nat.gcd z.natAbs d=r1 at*;generalize d%Nat.gcd z.natAbs d=r2 at*;generalize Nat.gcd z.natAbs d=gg at*;have c6:=L9 (decide (z<0)) p (by omega);have hab:(sg (decide (z<0)) p).natAbs=p:=by unfold sg;split<;>omega
 have c7:=Vn (sg (decide (z<0)) p) (by unfold Ga;rw[hab];exact hpl);have c8:=L9 false q (by omega);have c9:=Vn (sg false q) (by unfold Ga;show(Aa q).length<1000000;exact hql);have e9:Lib.itoa (sg false q)=Lib.decDigits q:=by rw[aA false q (by simp)];rfl
 rw[e9]at c9;have l1:=Ot (FD p);rw[ES]at l1;have l2:=Ot (FD q);rw[ES]at l2;have l3:(Lib.itoa (sg (decide (z<0)) p)).length<=(Lib.decDigits p).length+1:=by
  unfold Lib.itoa;split
  ·rw[hab,Bq];exact Al _
  ·rw[show(sg (decide (z<0)) p).toNat=p by omega];omega
 generalize sg (decide (z<0)) p=pz at*;have s1:=Cd (Lib.itoa pz);have s2:=Cd (Lib.decDigits q);have s3:(⟨#[47]⟩:ByteArray).size=1:=rfl;have s4:(sb (Lib.itoa pz)++(⟨#[47]⟩:ByteArray)).size=(sb (Lib.itoa pz)).size+(⟨#[47]⟩:ByteArray).size:=ByteArray.size_append;generalize Lib.itoa pz=t1 at*;generalize Lib.decDigits q=t2 at*;refine sR 300 ?_;refine cI cg ?_;refine sR 400 ?_;refine cI c4 ?_;refine sR 500 ?_;refine cI c5 ?_;refine sR 600 ?_;refine cI c6 ?_;refine cI c7 ?_;have ht:=ZB q;rcases ht with⟨h1,a,ha,h2⟩|⟨h1,h2⟩
 ·have ha':=EB ha
  refine AC.seq ?_;refine sZ 700 ?_;refine AD h1 ?_;refine Bw kT ha' ?_;refine AD (Ab h1 h2) ?_
  by_cases hq:q=1
  ·rw[Au hq,AH hq]
   refine AN ?_;refine sR 800 ?_;refine Ad ?_;exact AJ rfl AA.out
  ·rw[Av hq,AG hq]
   refine AN ?_;refine Aj ?_;refine sR 900 ?_;refine A7.same _ c8 AI ?_;refine BO ?_;refine A7.same _ c9 AI ?_;refine BO ?_;refine Ad ?_;refine AJ ?_ AA.out;show str ((⟨t1.toArray⟩++⟨([47]:List UInt8).toArray⟩:ByteArray)++⟨t2.toArray⟩)=_;rw[JY,JY,EE];rfl
 ·rw[AG h2]
  refine AC.seq ?_;refine sZ 700 ?_;refine AW h1 ?_;refine AD kF ?_;refine AN ?_;refine Aj ?_;refine sR 900 ?_;refine A7.same _ c8 AI ?_;refine BO ?_;refine A7.same _ c9 AI ?_;refine BO ?_;refine Ad ?_;refine AJ ?_ AA.out;show str ((⟨t1.toArray⟩++⟨([47]:List UInt8).toArray⟩:ByteArray)++⟨t2.toArray⟩)=_;rw[JY,JY,EE];rfl
set_option maxHeartbeats 2000000
theorem Q8 (k:Nat)(h:k<10):(UInt8.ofNat (48+k)).toNat=48+k:=by
 rw[UInt8.toNat_ofNat'];omega
theorem Eu:∀n:Nat,(Lib.decDigits n).all Bj=true/\dv (Lib.decDigits n)=n/\(Lib.decDigits n)≠[]:=λn=>by
 induction n using Nat.strongRecOn with
 |_ n ih=>
  have one:∀k,k<10->Bj (UInt8.ofNat (48+k))=true:=λk hk=>by
   unfold Bj;rw[Q8 k hk,Ba];exact⟨Nat.ble_eq_true_of_le (by omega),Nat.ble_eq_true_of_le (by omega)⟩
  have vone:∀k,k<10->dv [UInt8.ofNat (48+k)]=k:=λk hk=>by
   show 0*10+((UInt8.ofNat (48+k)).toNat-48)=k;rw[Q8 k hk];omega
  rw[Lib.decDigits];split
  ·rename_i h
   exact⟨by rw[GN,one n h];rfl,vone n h,by simp⟩
  ·rename_i h
   obtain⟨h1,h2,h3⟩:=ih (n/10) (by omega);refine⟨by rw[KY,h1,GN,one _ (B7 _ (by decide))];rfl,?_,by simp⟩;rw[OX,h2,vone _ (B7 _ (by decide)),GM];omega
theorem oA {n:Nat}(h:n≠0):∃c l,Lib.decDigits n=c::l/\c≠48:=by
 induction n using Nat.strongRecOn with
 |_ n ih=>
  rw[Lib.decDigits];split
  ·rename_i h1
   refine⟨_,_,rfl,λhh=>?_⟩
   have:=congrArg UInt8.toNat hh
   rw[Q8 n h1]at this
   have:48+n=48:=this
   omega
  ·rename_i h1
   obtain⟨c,l,e,hc⟩:=ih (n/10) (by omega) (by omega);rw[e];exact⟨c,l++_,rfl,hc⟩
theorem rp {c:UInt8}(h:Bj c=true):c≠47/\c≠45:=by
 obtain⟨h1,h2⟩:=Lw h;exact⟨λhh=>by subst hh;simp at h1,λhh=>by subst hh;simp at h1⟩
theorem M6 (z:Int):Dh (Lib.itoa z)=decide (z<0)/\Bs (Lib.itoa z)=Lib.decDigits z.natAbs:=by
 unfold Lib.itoa
 by_cases h:z<0
 ·rw[AH h,Au h]
  exact⟨rfl,rfl⟩
 ·rw[AG h,Av h,show z.toNat=z.natAbs by omega]
  have h1:=Tj (Eu z.natAbs).1;exact⟨h1,Kq (Eu z.natAbs).1⟩
theorem aE (z:Int):rv (Lib.itoa z)=z:=by
 unfold rv;rw[(M6 z).1,(M6 z).2,(Eu z.natAbs).2.1]
 by_cases h:z<0
 ·rw[Au h,AH rfl];omega
 ·rw[Av h,AG (by decide)];omega
theorem W2 (z:Int):∀c∈Lib.itoa z,(c != 47)=true:=λc hc=>by
 have hd:∀n,∀c∈Lib.decDigits n,(c != 47)=true:=λn c h=>by
  have:=(rp (CY.1 (Eu n).1 c h)).1
  simpa using this
 unfold Lib.itoa at hc;split at hc
 ·rcases Az.1 hc with rfl|h
  ·rfl
  ·exact hd _ c h
 ·exact hd _ c hc
theorem TZ {p:UInt8->Bool}:∀ {l:List UInt8} (m:List UInt8),(∀c∈l,p c=true)->(l++m).takeWhile p=l++m.takeWhile p
 | [],_,_=>rfl
 |a::l,m,h=>by
  rw[E2,N9,AH (h a CO),TZ m λc hc=>h c (CT _ hc)];rfl
theorem Od (r:Rat):BC (An r)=(Lib.itoa r.num).length:=by
 unfold BC An;split
 ·have:=TZ (p:=(· != 47)) [] (W2 r.num)
  rw[Dm]at this;rw[this];simp
 ·rw[TZ (p:=(· != 47)) _ (W2 r.num)]
  simp
theorem NI (r:Rat):B6 (An r)=Lib.itoa r.num:=by
 unfold B6;rw[Od];unfold An;split
 ·exact Ch (Al _)
 ·exact List.take_left' rfl
theorem MG (r:Rat):Be (An r)=if r.den=1 then[]else Lib.decDigits r.den:=by
 unfold Be;rw[Od];unfold An;split
 ·exact HP (Nat.le_succ _)
 ·rw[List.drop_append]
  rw[HP (Nat.le_succ _),Lg];rfl
theorem O7 (r:Rat):C5 (An r) = !decide (r.den=1):=by
 unfold C5;rw[Od];unfold An
 by_cases h:r.den=1
 ·rw[AH h,Au h,Bc];rfl
 ·rw[AG h,Av h,Bp,Bq,BV];rfl
theorem UR (r:Rat):Pr (An r)=r.num:=by unfold Pr;rw[NI,aE]
theorem ZT (r:Rat):Pf (An r)=r.den:=by
 unfold Pf;rw[O7,MG]
 by_cases h:r.den=1
 ·rw[Au h,h];rfl
 ·rw[Av h,AG h,AH (show(!false)=true from rfl),NU (Eu _).1,(Eu _).2.1]
theorem RN (r:Rat):(Bs (B6 (An r))).all Bj=true:=by rw[NI,(M6 _).2];exact(Eu _).1
theorem RM (r:Rat):(Bs (Be (An r))).all Bj=true:=by
 rw[MG];split
 ·rfl
 ·rw[Kq (Eu _).1];exact(Eu _).1
theorem Z8 (z:Int):Lib.itoa z≠[]:=by
 unfold Lib.itoa;split
 ·simp
 ·exact(Eu _).2.2
theorem eM (r:Rat):An r≠[]:=by
 unfold An;split
 ·exact Z8 _
 ·simp
theorem Uo (r:Rat):Dh (An r)=decide (r.num<0):=by
 rw[<-(M6 r.num).1];unfold An;split
 ·rfl
 ·have:=Z8 r.num
  cases h:Lib.itoa r.num with
  |nil=>exact Af h this
  |cons c l=>rfl
theorem ZU (r:Rat):decide (An r=[48])=decide (r.num=0):=by
 refine DA.2 ⟨λh=>?_,λh=>?_⟩
 ·have h1:=UR r
  rw[h]at h1;rw[<-h1];decide
 ·have:r.den=1:=by
   have:=r.reduced
   rw[h]at this;simpa using this
  unfold An;rw[AH this,h];show Lib.decDigits 0=[48];rw[Lib.decDigits,dif_pos (by decide)];rfl
abbrev rR (r:Rat):D:=str (sb (An r))
def HN (r:Rat):Prop:=(An r).length<=1000000
theorem Vk (r:Rat)(hl:HN r):AK C0 138 [rR r] (i64 (GH r)):=by
 refine AZ.walk w1 tS rfl λF=>?_
 have hsz:=Cd (An r);unfold HN at hl;have ez:=Ep (An r) [48];rw[ZU]at ez;have en:=Uo r;refine sR 0 ?_;refine AC.seq ?_;refine AC.seq ?_;have ez2:BI (sb (An r)) ⟨#[48]⟩=decide (r.num=0):=ez;have hne:=eM r;refine Ao 100 ?_;refine AW ez2 ?_
 by_cases h0:r.num=0
 ·rw[Au h0]
  refine AN ?_;refine sR 200 ?_;refine Ad ?_;exact AJ (by unfold GH;rw[h0];rfl) AA.out
 ·rw[Av h0]
  have hpos:0<(An r).length:=List.length_pos_iff.2 hne;have e0:decide (((sb (An r)).size:Int)>0)=true:=BV;have e1:((((An r).getD (Int.toNat 0) 0).toNat:Int)==45)=decide (r.num<0):=by
   rw[<-en];cases ht:An r with
   |nil=>exact Af ht hne
   |cons c l=>exact RF c l
  refine AN ?_;refine Aj ?_;refine AC.seq ?_;refine sZ 300 ?_;refine AD e0 ?_;refine AD (Ar kT e0 e1) ?_
  by_cases hn:r.num<0
  ·rw[Au hn]
   refine AN ?_;refine sR 400 ?_;refine Ad ?_;exact AJ (by unfold GH;congr 3;omega) AA.out
  ·rw[Av hn]
   refine AN ?_;refine Aj ?_;refine sR 500 ?_;refine Ad ?_;exact AJ (by unfold GH;congr 3;omega) AA.out
theorem JW (z:Int):An (z:Rat)=Lib.itoa z:=by
 unfold An;rw[AH (Rat.den_intCast z),Rat.num_intCast]
theorem yy (r:Rat)(hl:HN r):AK C0 95 [rR r] (rR (r.num:Rat)):=by
 refine AZ.walk w1 xw rfl λF=>?_
 have hsz:=Cd (An r);unfold HN at hl;have cs:=PB (An r) (by omega);have hle:=J3 (An r);have e1:(sb (An r)).extract 0 (BC (An r))=sb (An (r.num:Rat)):=by rw[Em,Fi,JW,<-NI];rfl
 refine sR 0 ?_;refine sR 100 ?_;refine cI cs ?_;simp only[Mo,e1];refine Ad ?_;exact AJ rfl AA.out
theorem xV (r:Rat)(hl:HN r):AK C0 96 [rR r] (rR ((r.den:Int):Rat)):=by
 refine AZ.walk w1 xy rfl λF=>?_
 have hsz:=Cd (An r);unfold HN at hl;have cs:=PB (An r) (by omega);have hh:=O7 r;have hle:=J3 (An r);unfold C5 at hh;have ed:=MG r;unfold Be at ed;refine sR 0 ?_;refine sR 100 ?_;refine cI cs ?_;refine AC.seq ?_;refine AC.seq ?_
 by_cases h:r.den=1
 ·rw[Au h]at hh
  have hge:=Db (p:=BC (An r)<(An r).length) hh;have et:(((BC (An r):Nat):Int)==((An r).length:Int))=true:=EQ.2 (by omega);refine Ao 200 ?_;refine AW (Ab hsz et) ?_;refine AN ?_;refine sR 300 ?_;refine Ad ?_;refine AJ ?_ AA.out;show _=str (sb (An ((r.den:Int):Rat)));rw[JW,h];show _=str (sb (Lib.decDigits 1));rw[Lib.decDigits,dif_pos (by decide)];rfl
 ·rw[Av h]at hh
  have hge:=DJ (p:=BC (An r)<(An r).length) hh;have et:(((BC (An r):Nat):Int)==((An r).length:Int))=false:=Br.2 (by omega);have wk:IntKind.i64.wrap (((BC (An r):Nat):Int)+1)=((BC (An r)+1:Nat):Int):=wI;have e1:(sb (An r)).extract (BC (An r)+1) (An r).length=sb (An ((r.den:Int):Rat)):=by
   rw[AG h]at ed;rw[Em,Ch (Al _),ed,JW];rfl
  refine Ao 200 ?_;refine AW (Ab hsz et) ?_;refine AN ?_;refine Aj ?_;refine sZ 400 ?_;refine AD (Ar hsz wk kN) ?_;refine AD e1 ?_;refine Ad ?_;exact AJ rfl AA.out
theorem Un {r:Rat}(h:r.num<0):(An r).drop 1=An (-r)/\(An (-r)).length+1=(An r).length:=by
 have e:Lib.itoa r.num=45::Lib.itoa (-r.num):=by
  unfold Lib.itoa;rw[AH h,CR,show(-r.num).toNat=r.num.natAbs by omega]
 have e2:An r=45::An (-r):=by
  unfold An;rw[Rat.neg_den,Rat.neg_num,e];split<;>rfl
 rw[e2];exact⟨rfl,rfl⟩
theorem rK (r:Rat):decide (GH r<0)=decide (r.num<0):=DA.2 (by unfold GH;omega)
theorem xO (r:Rat)(hl:HN r):AK C0 94 [rR r] (rR (if r.num<0 then -r else r)):=by
 refine AZ.walk w1 xv rfl λF=>?_
 have hsz:=Cd (An r);have cs:=Vk r hl;unfold HN at hl;have e1:=rK r;refine sR 0 ?_;refine AC.seq ?_;refine sR 100 ?_;refine cI cs ?_;rw[e1]
 by_cases h:r.num<0
 ·obtain⟨t1,t2⟩:=Un h
  have ee:(sb (An r)).extract (Int.toNat 1) (An r).length=sb (An (-r)):=by
   rw[Em,Ch (Al _),<-t1];rfl
  rw[Au h,AH h];refine AN ?_;refine sZ 200 ?_;refine AD (Ab hsz kN) ?_;rw[ee];refine Ad ?_;exact AJ rfl AA.out
 ·rw[Av h,AG h]
  refine AN ?_;refine Aj ?_;refine sR 300 ?_;refine Ad ?_;exact AJ rfl AA.out
def DW (r:Rat):Rat:=if r.num<0 then -r else r
theorem Q4 (r:Rat):(DW r).num=r.num.natAbs/\(DW r).den=r.den:=by
 unfold DW;split
 ·rw[Rat.neg_num,Rat.neg_den];exact⟨by omega,rfl⟩
 ·exact⟨by omega,rfl⟩
def qk (r:Rat):Bool:=!decide (20<(An r).length) && !(decide (9<BC (An (DW r)))||decide (10<(An (DW r)).length-BC (An (DW r))))
theorem mq (r:Rat):(An (DW r)).length<=(An r).length:=by
 unfold DW;split
 ·rename_i h
  have:=(Un h).2
  omega
 ·exact Al _
theorem Qs (r:Rat):Lib.itoa (DW r).num=Lib.decDigits r.num.natAbs:=by
 rw[(Q4 r).1];unfold Lib.itoa;rw[CR];rfl
theorem Og {r:Rat}(h:qk r=true):r.num.natAbs<10^9/\r.den<10^9:=by
 unfold qk at h;simp only[Ba,Bl,I8,IT]at h;obtain⟨h1,h2,h3⟩:=h;have hs:=Od (DW r);rw[Qs]at hs;have hd:=MG (DW r);rw[(Q4 r).2]at hd;have hdl:(Be (An (DW r))).length=(An (DW r)).length-(BC (An (DW r))+1):=by unfold Be;rw[Dp]
 have d1:=Gr _ (Eu r.num.natAbs).1;have d2:=Gr _ (Eu r.den).1;rw[(Eu _).2.1]at d1 d2;refine⟨Co d1 (FO (by decide) (by omega)),?_⟩
 by_cases h1:r.den=1
 ·rw[h1];decide
 ·rw[AG h1]at hd
  rw[hd]at hdl;exact Co d2 (FO (by decide) (by omega))
theorem RU (r:Rat)(hl:HN r):AK C0 184 [rR r] (.tup [i64 (if qk r then r.num else 0),i64 (if qk r then(r.den:Int)else 0),Ai (qk r)]):=by
 refine AZ.walk w1 s8 rfl λF=>?_
 have hsz:=Cd (An r);unfold HN at hl;have hne:=eM r;have hpos:0<(An r).length:=List.length_pos_iff.2 hne;refine sR 0 ?_;refine sR 100 ?_;refine AC.seq ?_;refine AC.seq ?_
 by_cases h20:20<(An r).length
 ·have e2:decide (((An r).length:Int)>20)=true:=BV
  have eq:qk r=false:=by unfold qk;rw[Au h20];rfl
  rw[eq];refine Ao 200 ?_;refine AW (Ab hsz e2) ?_;refine AN ?_;refine sR 300 ?_;refine Ad ?_;exact AJ rfl AA.out
 ·have e2:decide (((An r).length:Int)>20)=false:=Bc
  have eq:qk r = !(decide (9<BC (An (DW r)))||decide (10<(An (DW r)).length-BC (An (DW r)))):=by unfold qk;rw[Av h20];rfl
  have en:=Uo r;refine Ao 200 ?_;refine AW (Ab hsz e2) ?_;refine AN ?_;refine Aj ?_;refine DE (α:=Nat) (λn=>⟨[(5,rR r),(6,Ai (decide (r.num<0)))],[],n⟩) (λ_=>True) ?_ ?_
  ·have e0:decide (((sb (An r)).size:Int)>0)=true:=BV
   have e1:((((An r).getD (Int.toNat 0) 0).toNat:Int)==45)=decide (r.num<0):=by
    rw[<-en];cases ht:An r with
    |nil=>exact Af ht hne
    |cons c l=>exact RF c l
   refine Ao 400 ?_;refine AD e0 ?_;refine AD (Ar kT e0 e1) ?_;exact⟨trivial,_,trivial,AL⟩
  rintro n0 -;refine DE (α:=Nat) (λn=>⟨[(5,rR (DW r)),(6,Ai (decide (r.num<0)))],[],n⟩) (λ_=>True) ?_ ?_
  ·refine sR 500 ?_
   by_cases h:r.num<0
   ·obtain⟨t1,t2⟩:=Un h
    have ea:DW r = -r:=by unfold DW;rw[AH h]
    have ee:(sb (An r)).extract (Int.toNat 1) (An r).length=sb (An (DW r)):=by
     rw[ea,Em,Ch (Al _),<-t1];rfl
    rw[Au h];refine AN ?_;refine Ao 600 ?_;refine AD (Ab hsz kN) ?_;rw[ee];exact⟨trivial,_,trivial,AL⟩
   ·have ea:DW r=r:=by unfold DW;rw[AG h]
    rw[Av h,ea];refine AN ?_;refine Aj ?_;exact⟨rfl,_,trivial,AL⟩
  rintro n1 -;have hal:=mq r;have hsa:=Od (DW r);rw[Qs]at hsa;have hn:=NI (DW r);rw[Qs]at hn;have hd:=MG (DW r);rw[(Q4 r).2]at hd;have hh:=O7 (DW r);rw[(Q4 r).2]at hh;unfold C5 at hh;have hle:=J3 (An (DW r));have cs:=PB (An (DW r)) (by omega);have hszA:=Cd (An (DW r));clear hsz hne hpos e2 en;generalize hT:An (DW r)=T at*;have eR:rR (DW r)=str (sb T):=by rw[<-hT]
  rw[eR];clear hT eR;refine sR 700 ?_;refine cI cs ?_;have w8:IntKind.i64.wrap ((T.length:Int)-(BC T:Int))=((T.length-BC T:Nat):Int):=by rw[wI];omega
  have eb:decide (((T.length-BC T:Nat):Int)>10)=decide (10<T.length-BC T):=DA.2 (by omega)
  by_cases h9:9<BC T
  ·have e8:decide ((BC T:Int)>9)=true:=BV
   rw[Au h9]at eq;have eq2:qk r=false:=eq;rw[eq2];refine AC.seq ?_;refine sZ 800 ?_;refine AW e8 ?_;refine AD kT ?_;refine AN ?_;refine sR 900 ?_;refine Ad ?_;exact AJ rfl AA.out
  have e8:decide ((BC T:Int)>9)=false:=Bc;rw[Av h9]at eq
  by_cases h10:10<T.length-BC T
  ·rw[Au h10]at eq eb
   have eq2:qk r=false:=eq;rw[eq2];refine AC.seq ?_;refine sZ 800 ?_;refine AW e8 ?_;refine AD (BS kF hszA w8 eb) ?_;refine AN ?_;refine sR 900 ?_;refine Ad ?_;exact AJ rfl AA.out
  rw[Av h10]at eq eb;have eq2:qk r=true:=eq;rw[eq2];refine AC.seq ?_;refine sZ 800 ?_;refine AW e8 ?_;refine AD (BS kF hszA w8 eb) ?_;refine AN ?_;refine Aj ?_;have hd1:=Eu r.num.natAbs;have hd2:=Eu r.den;have c1:=Rn (Lib.decDigits r.num.natAbs) hd1.1 (by omega);rw[hd1.2.1]at c1;have e10:(sb T).extract 0 (BC T)=sb (Lib.decDigits r.num.natAbs):=by
   rw[Em,Fi,<-hn];rfl
  refine sZ 1000 ?_;refine AD (Ab hszA kN) ?_;refine AD e10 ?_;refine A7.same _ c1 AI ?_;refine BO ?_;refine DE (α:=Nat) (λn=>⟨[(6,Ai (decide (r.num<0))),(8,i64 (r.num.natAbs:Int)),(9,i64 (r.den:Int))],[],n⟩) (λ_=>True) ?_ ?_
  ·by_cases hden:r.den=1
   ·rw[Au hden]at hh
    have e11:decide ((BC T:Int)<(T.length:Int))=false:=Av (by have:=Db (p:=BC T<T.length) hh;omega);rw[hden];refine sZ 1100 ?_;refine AW (Ab hszA e11) ?_;refine AN ?_;refine Aj ?_;exact⟨rfl,_,trivial,AL⟩
   ·rw[Av hden]at hh
    rw[AG hden]at hd;have hlt:=DJ (p:=BC T<T.length) hh;have e11:decide ((BC T:Int)<(T.length:Int))=true:=BV;have wk:IntKind.i64.wrap (((BC T:Nat):Int)+1)=((BC T+1:Nat):Int):=wI;have e12:(sb T).extract (BC T+1) T.length=sb (Lib.decDigits r.den):=by
     rw[Em,Ch (Al _),<-hd];rfl
    have hdl:(Lib.decDigits r.den).length<=18:=by
     rw[<-hd];unfold Be;rw[Dp];omega
    have c2:=Rn (Lib.decDigits r.den) hd2.1 hdl;rw[hd2.2.1]at c2;refine sZ 1100 ?_;refine AW (Ab hszA e11) ?_;refine AN ?_;refine Ao 1200 ?_;refine AD (Ar hszA wk kN) ?_;refine AD e12 ?_;refine A7.same _ c2 AI ?_;refine BO ?_;exact⟨trivial,_,trivial,AL⟩
  rintro n2 -;obtain⟨b1,b2⟩:=Og eq2;refine DE (α:=Nat) (λn=>⟨[(8,i64 r.num),(9,i64 (r.den:Int))],[],n⟩) (λ_=>True) ?_ ?_
  ·refine sR 1300 ?_
   by_cases h:r.num<0
   ·have wn:IntKind.i64.wrap (0-(r.num.natAbs:Int))=r.num:=by rw[wI];omega
    rw[Au h];refine AN ?_;refine Ao 1400 ?_;refine AW wn ?_;exact⟨trivial,_,trivial,AL⟩
   ·have en:(r.num.natAbs:Int)=r.num:=by omega
    rw[Av h,en];refine AN ?_;refine Aj ?_;exact⟨rfl,_,trivial,AL⟩
  rintro n3 -;refine sR 1500 ?_;refine Ad ?_;exact AJ rfl AA.out
theorem mV (b:Bool)(n:Nat):(sg b n).natAbs=n:=by unfold sg;split<;>omega
theorem gi (z:Int)(d:Nat)(hz:z.natAbs<=4000000000000000000)(hd0:0<d)(hd:d<=4000000000000000000):AK C0 185 [i64 z,i64 (d:Int)] (rR (mkRat z d)):=by
 refine AZ.walk w1 s9 rfl λF=>?_
 have hg:0<Nat.gcd z.natAbs d:=P2 _ hd0;have hgl:Nat.gcd z.natAbs d<=d:=Nat.gcd_le_right _ hd0;obtain⟨qn,qd⟩:=UL (x:=z) (d:=d) (by omega);have etx:An (mkRat z d)=if d/Nat.gcd z.natAbs d=1 then Lib.itoa (mkRat z d).num else Lib.itoa (mkRat z d).num++47::Lib.decDigits (d/Nat.gcd z.natAbs d):=by
  unfold An;rw[qd]
 have q1:z.tdiv (Nat.gcd z.natAbs d:Nat)=(mkRat z d).num:=by
  rw[qn];obtain⟨p,hp⟩:=Nat.gcd_dvd_left z.natAbs d;have e1:z.natAbs/Nat.gcd z.natAbs d=p:=Nat.div_eq_of_eq_mul_right hg hp;have e2:z=(Nat.gcd z.natAbs d:Int)*sg (decide (z<0)) p:=by
   have h0:(z.natAbs:Int)=(Nat.gcd z.natAbs d:Int)*(p:Int):=by rw[<-E7,<-hp]
   unfold sg
   by_cases hx:z<0
   ·rw[Au hx,AH rfl,Int.mul_neg,<-h0];omega
   ·rw[Av hx,AG (by decide),<-h0];omega
  rw[e1]
  conv=>lhs;arg 1;rw[e2]
  rw[Int.mul_tdiv_cancel_left _ (by omega)]
 have q2:(d:Int).tdiv (Nat.gcd z.natAbs d:Nat)=((d/Nat.gcd z.natAbs d:Nat):Int):=rfl;have q5:(mkRat z d).num.natAbs<=4000000000000000000:=by
  rw[qn];rw[mV];exact BT (GJ _ _) hz
 have q4:d/Nat.gcd z.natAbs d<=4000000000000000000:=BT (GJ _ _) hd;have hx:0<d/Nat.gcd z.natAbs d:=Nat.div_pos hgl hg;have ert:rR (mkRat z d)=str (sb (if d/Nat.gcd z.natAbs d=1 then Lib.itoa (mkRat z d).num else Lib.itoa (mkRat z d).num++47::Lib.decDigits (d/Nat.gcd z.natAbs d))):=by rw[<-etx]
 rw[ert];clear etx ert qn qd;generalize(mkRat z d).num=pz at*;refine fR 0 ?_;refine D6 ⟨[(0,i64 z),(1,i64 d),(4,str ⟨#[]⟩)],[],50⟩ ?_ ?_
 ·refine AC.seq ?_
  have l1:(decide (z < -4000000000000000000))=false:=by apply Av;omega
  have l2:(decide (z>4000000000000000000))=false:=by apply Av;omega
  have l3:(decide ((d:Int) < -4000000000000000000))=false:=by apply Av;omega
  have l4:(decide ((d:Int)>4000000000000000000))=false:=by apply Av;omega
  refine Ao 100 ?_
  repeat'(first|(refine BK (by exact CF) ?_;(refine BJ ?_);(try simp only[Ng,SU,l1,l2,l3,l4]))|((refine B1 (λhb=>?_) (λhb=>?_))<;>(try simp only[Bl,Bz]at hb)<;>(try simp only[hb])<;>(refine BJ ?_)))
  refine AN ?_;refine Aj ?_;exact BK (by trivial) (AL)
 refine D6 ⟨[(0,i64 z),(1,i64 d),(4,str ⟨#[]⟩)],[],100⟩ ?_ ?_
 ·refine fR 300 ?_
  refine AN ?_;have e27:(decide ((d:Int)<0))=false:=by simp
  rw[e27];refine Aj ?_;exact BK (by trivial) (AL)
 refine AC.seq ?_;have m1:max z (IntKind.i64.wrap (0-z))=(z.natAbs:Int):=by rw[wI];omega
 refine Ao 500 ?_;refine Kj m1 ?_;refine dI (rE z.natAbs d (by omega) (by omega)) ?_;refine AC.seq ?_;refine CM 600 [0,1,2,3,4,5,6] [7] ?_;refine CL ?_;have w1p:IntKind.i64.wrap pz=pz:=wI;rw[q1,q2,w1p,wN (BT q4 (by decide))];clear q1 q2 hg hgl;generalize d/Nat.gcd z.natAbs d=y at*;refine fR 700 ?_;have c1:=Qb pz.natAbs 1 (by omega);have c2:=Qb y 1 (by omega);rw[Zl]at c1 c2;have s1:=Lt 18 pz.natAbs (DH q5 (by decide));have s2:=Lt 18 y (DH q4 (by decide));have z1:=O3 (Lib.decDigits pz.natAbs);have z2:=O3 (Lib.decDigits y);have m1:max pz (IntKind.i64.wrap (0-pz))=(pz.natAbs:Int):=by rw[wI];omega
 refine DE (α:=Nat) (λn=>⟨[(0,i64 pz),(1,i64 (y:Int)),(4,str ⟨#[]⟩),(6,str (sb (if pz<0 then[45]else[])))],[],n⟩) (λ_=>True) ?_ ?_
 ·refine fR 800 ?_
  by_cases h:pz<0
  ·rw[Au h,AH h]
   refine AN ?_;refine fI 900 ?_;exact⟨rfl,_,trivial,AL⟩
  ·rw[Av h,AG h]
   refine AN ?_;refine Aj ?_;exact⟨rfl,_,trivial,AL⟩
 rintro n0 -;have ei:(if pz<0 then[45]else[])++Lib.decDigits pz.natAbs=Lib.itoa pz:=by
  unfold Lib.itoa;split
  ·rfl
  ·rw[show pz.toNat=pz.natAbs by omega];rfl
 have z3:=Cd (if pz<0 then[45]else[]);have z4:(if pz<0 then[45]else[]:List UInt8).length<=1:=by split<;>simp
 have z5:(Lib.itoa pz).length<=20:=by rw[<-ei,Bp];omega
 refine sZ 1000 ?_;refine Kj m1 ?_;refine dI c1 ?_;rw[JY,ei];have z6:=O3 (Lib.itoa pz);generalize Lib.itoa pz=t1 at*;clear ei z3 z4;refine DE (α:=Nat) (λn=>⟨[(6,str (sb (if y=1 then t1 else t1++47::Lib.decDigits y)))],[],n⟩) (λ_=>True) ?_ ?_
 ·refine fR 1100 ?_
  by_cases hy:y=1
  ·rw[AH hy]
   have e54:(decide ((y:Int)>1))=false:=by apply Av;omega
   rw[e54];refine AN ?_;refine Aj ?_;exact⟨rfl,_,trivial,AL⟩
  ·rw[AG hy]
   have e54:(decide ((y:Int)>1))=true:=by apply Au;omega
   have s3:(⟨#[47]⟩:ByteArray).size=1:=rfl;have sc:((⟨t1.toArray⟩:ByteArray)++(⟨#[47]⟩:ByteArray)).size=(⟨t1.toArray⟩:ByteArray).size+(⟨#[47]⟩:ByteArray).size:=ByteArray.size_append;rw[e54];refine AN ?_;refine fI 1200 ?_;refine dI c2 ?_;have e47:(⟨#[47]⟩:ByteArray)=⟨([47]:List UInt8).toArray⟩:=rfl;rw[e47,JY,JY,EE,E2,GK];exact⟨rfl,_,trivial,AL⟩
 rintro n1 -;refine fR 1300 ?_;refine Ad ?_;exact AJ rfl AA.out
theorem U3 {n k:Nat}(h:(Ae n).length<=k):(Aa n).length<=3*k:=by
 refine Ks (Co (Jz n) ?_);rw[Nat.pow_mul];exact BT (FO (by decide) h) (OA (by decide) k)
theorem Nc {n k:Nat}(h:(Ae n).length<=k):(Lib.decDigits n).length<=27*k+1:=by
 have h1:=Ot (FD n);rw[ES]at h1
 have:=U3 h
 omega
theorem Z9 {z:Int}{k:Nat}(h:(Ae z.natAbs).length<=k):(Lib.itoa z).length<=27*k+2:=by
 have:=Nc h
 unfold Lib.itoa;split
 ·rw[Bq];omega
 ·rw[show z.toNat=z.natAbs by omega];omega
theorem NH {r:Rat}{k:Nat}(h:rk r k)(hk:k<=10000):HN r:=by
 have h1:=Z9 h.1;have h2:=Nc h.2;unfold HN An;split
 ·omega
 ·rw[Bp,Bq];omega
def LZ (x:Int)(p:Nat):Prop:=(Aa x.natAbs).length<=p
theorem LZ.mul {x y:Int}{p q:Nat}(hx:LZ x p)(hy:LZ y q):LZ (x*y) (p+q):=by
 unfold LZ at*;rw[KZ]
 have:=Tc x.natAbs y.natAbs
 omega
theorem LZ.add {x y:Int}{p q:Nat}(hx:LZ x p)(hy:LZ y q):LZ (x+y) (p+q+1):=by
 unfold LZ at*;have h1:=JM (x+y).natAbs (x.natAbs+y.natAbs) (Int.natAbs_add_le x y);have h2:=XJ x.natAbs y.natAbs;omega
theorem LZ.few {x:Int}{p:Nat}(h:LZ x p)(hp:p<1000000):Ga x:=DH h hp
theorem LZ.num {r:Rat}{k:Nat}(h:rk r k):LZ r.num (3*k):=U3 h.1
theorem LZ.den {r:Rat}{k:Nat}(h:rk r k):LZ (r.den:Int) (3*k):=U3 h.2
theorem we (a b:Rat):qZ (a.num*b.den+b.num*a.den) ((a.den:Int)*b.den)=a+b:=by
 unfold qZ;have h:¬((a.den:Int)*b.den<0):=by
  rw[<-E7];omega
 rw[AG h,<-E7,D7,Rat.add_def',]
theorem wo (a b:Rat):qZ (a.num*b.num) ((a.den:Int)*b.den)=a*b:=by
 unfold qZ;have h:¬((a.den:Int)*b.den<0):=by
  rw[<-E7];omega
 rw[AG h,<-E7,D7,Rat.mul_def']
theorem Ob {x y:Int}(hx:x.natAbs<10^9)(hy:y.natAbs<10^9):(x*y).natAbs<10^18:=by
 rw[KZ];exact Co (Nat.mul_lt_mul'' hx hy) (by decide)
theorem WU (a b:Rat)(i j:Nat)(ha:rk a i)(hb:rk b j)(hij:i+j<=10000):AK C0 183 [rR a,rR b] (rR (a+b)):=by
 refine AZ.walk w1 s7 rfl λF=>?_
 have ta:=NH ha (by omega);have tb:=NH hb (by omega);have qa:=RU a ta;have qb:=RU b tb
 by_cases hq:qk a=true/\qk b=true
 ·obtain⟨h1,h2⟩:=hq
  obtain⟨n1,d1⟩:=Og h1;obtain⟨n2,d2⟩:=Og h2;rw[h1,AH rfl,AH rfl]at qa;rw[h2,AH rfl,AH rfl]at qb;have p1:=Ob n1 (y:=(b.den:Int)) (by omega);have p2:=Ob n2 (y:=(a.den:Int)) (by omega);have p3:=Ob (x:=(a.den:Int)) (y:=(b.den:Int)) (by omega) (by omega);have m1:IntKind.i64.wrap (a.num*(b.den:Int))=a.num*b.den:=wI;have m2:IntKind.i64.wrap (b.num*(a.den:Int))=b.num*a.den:=wI;have m3:IntKind.i64.wrap (a.num*(b.den:Int)+b.num*(a.den:Int))=a.num*b.den+b.num*a.den:=wI;have m4:IntKind.i64.wrap ((a.den:Int)*(b.den:Int))=((a.den*b.den:Nat):Int):=by rw[wI,E7]
  have p4:a.den*b.den<10^18:=by rw[<-E7,D7]at p3;exact p3
  have cf:=gi (a.num*b.den+b.num*a.den) (a.den*b.den) (by omega) (G7 a.den_pos b.den_pos) (by omega);rw[<-Rat.add_def']at cf;refine sR 0 ?_;refine sR 100 ?_;refine cI qa ?_;refine sR 200 ?_;refine cI qb ?_;refine AC.seq ?_;refine sZ 300 ?_;refine AD kT ?_;refine AN ?_;refine sZ 400 ?_;refine AW (BS m1 m2 m3 m4) ?_;refine cI cf ?_;refine Ad ?_;exact AJ rfl AA.out
 ·refine sR 0 ?_
  refine sR 100 ?_;refine cI qa ?_;refine sR 200 ?_;refine cI qb ?_;refine DE (α:=Nat) (λn=>⟨[(0,rR a),(1,rR b)],[],n⟩) (λ_=>True) ?_ ?_
  ·cases h1:qk a
   ·refine sZ 300 ?_
    refine AD h1 ?_;refine AD kF ?_;refine AN ?_;refine Aj ?_;exact⟨rfl,_,trivial,AL⟩
   ·have h2:qk b=false:=by
     cases h2:qk b
     ·rfl
     ·exact Af ⟨h1,h2⟩ hq
    rw[h2];refine sZ 300 ?_;refine AD h1 ?_;refine AD kT ?_;refine AN ?_;refine Aj ?_;exact⟨rfl,_,trivial,AL⟩
  rintro n0 -;clear qa qb hq;have pa:=O9 (An a) (RN a) (RM a) ta;have pb:=O9 (An b) (RN b) (RM b) tb;rw[UR,ZT]at pa pb;have lan:=LZ.num ha;have lad:=LZ.den ha;have lbn:=LZ.num hb;have lbd:=LZ.den hb;have da:=a.den_pos;have db:=b.den_pos;have c1:=O6 a.num b.den (lan.few (by omega)) (lbd.few (by omega));have c2:=O6 b.num a.den (lbn.few (by omega)) (lad.few (by omega));have c3:=wX (a.num*b.den) (b.num*a.den) ((lan.mul lbd).few (by omega)) ((lbn.mul lad).few (by omega));have c4:=O6 (a.den:Int) b.den (lad.few (by omega)) (lbd.few (by omega));have c5:=Xg (a.num*b.den+b.num*a.den) ((a.den:Int)*b.den) (by rw[<-E7];have:=G7 da db;omega) (((lan.mul lbd).add (lbn.mul lad)).few (by omega)) ((lad.mul lbd).few (by omega));rw[we]at c5;refine sR 500 ?_;refine cI pa ?_;refine sR 600 ?_;refine cI pb ?_;refine AC.seq ?_;refine CM 700 [0,1,2,3,4,5,6,7,8] [9,10,11] ?_;refine AD kN ?_
  first|refine Bb.same _ c1 AI ?_|refine A7.same _ c1 AI ?_
  refine AD kN ?_
  first|refine Bb.same _ c2 AI ?_|refine A7.same _ c2 AI ?_
  refine AD kN ?_
  first|refine Bb.same _ c3 AI ?_|refine A7.same _ c3 AI ?_
  refine AD kN ?_
  first|refine Bb.same _ c4 AI ?_|refine A7.same _ c4 AI ?_
  refine AD kN ?_
  first|refine Bb.same _ c5 AI ?_|refine A7.same _ c5 AI ?_
  refine AD kN ?_;refine Ad ?_;exact AJ rfl AA.out
theorem d9b (a b:Rat)(i j:Nat)(ha:rk a i)(hb:rk b j)(hij:i+j<=10000):AK C0 136 [rR a,rR b] (rR (a*b)):=by
 refine AZ.walk w1 tQ rfl λF=>?_
 have ta:=NH ha (by omega);have tb:=NH hb (by omega);have qa:=RU a ta;have qb:=RU b tb
 by_cases hq:qk a=true/\qk b=true
 ·obtain⟨h1,h2⟩:=hq
  obtain⟨n1,d1⟩:=Og h1;obtain⟨n2,d2⟩:=Og h2;rw[h1,AH rfl,AH rfl]at qa;rw[h2,AH rfl,AH rfl]at qb;have p1:=Ob n1 (y:=b.num) n2;have p3:=Ob (x:=(a.den:Int)) (y:=(b.den:Int)) (by omega) (by omega);have m1:IntKind.i64.wrap (a.num*b.num)=a.num*b.num:=wI;have m4:IntKind.i64.wrap ((a.den:Int)*(b.den:Int))=((a.den*b.den:Nat):Int):=by rw[wI,E7]
  have p4:a.den*b.den<10^18:=by rw[<-E7,D7]at p3;exact p3
  have cf:=gi (a.num*b.num) (a.den*b.den) (by omega) (G7 a.den_pos b.den_pos) (by omega);rw[<-Rat.mul_def']at cf;refine sR 0 ?_;refine sR 100 ?_;refine cI qa ?_;refine sR 200 ?_;refine cI qb ?_;refine AC.seq ?_;refine sZ 300 ?_;refine AD kT ?_;refine AN ?_;refine sZ 400 ?_;refine AW (Ab m1 m4) ?_;refine cI cf ?_;refine Ad ?_;exact AJ rfl AA.out
 ·refine sR 0 ?_
  refine sR 100 ?_;refine cI qa ?_;refine sR 200 ?_;refine cI qb ?_;refine DE (α:=Nat) (λn=>⟨[(0,rR a),(1,rR b)],[],n⟩) (λ_=>True) ?_ ?_
  ·cases h1:qk a
   ·refine sZ 300 ?_
    refine AD h1 ?_;refine AD kF ?_;refine AN ?_;refine Aj ?_;exact⟨rfl,_,trivial,AL⟩
   ·have h2:qk b=false:=by
     cases h2:qk b
     ·rfl
     ·exact Af ⟨h1,h2⟩ hq
    rw[h2];refine sZ 300 ?_;refine AD h1 ?_;refine AD kT ?_;refine AN ?_;refine Aj ?_;exact⟨rfl,_,trivial,AL⟩
  rintro n0 -;clear qa qb hq;have pa:=O9 (An a) (RN a) (RM a) ta;have pb:=O9 (An b) (RN b) (RM b) tb;rw[UR,ZT]at pa pb;have lan:=LZ.num ha;have lad:=LZ.den ha;have lbn:=LZ.num hb;have lbd:=LZ.den hb;have da:=a.den_pos;have db:=b.den_pos;have c1:=O6 a.num b.num (lan.few (by omega)) (lbn.few (by omega));have c4:=O6 (a.den:Int) b.den (lad.few (by omega)) (lbd.few (by omega));have c5:=Xg (a.num*b.num) ((a.den:Int)*b.den) (by rw[<-E7];have:=G7 da db;omega) ((lan.mul lbn).few (by omega)) ((lad.mul lbd).few (by omega));rw[wo]at c5;refine sR 500 ?_;refine cI pa ?_;refine sR 600 ?_;refine cI pb ?_;refine AC.seq ?_;refine CM 700 [0,1,2,3,4] [5,6,7] ?_;refine AD kN ?_
  first|refine Bb.same _ c1 AI ?_|refine A7.same _ c1 AI ?_
  refine AD kN ?_
  first|refine Bb.same _ c4 AI ?_|refine A7.same _ c4 AI ?_
  refine AD kN ?_
  first|refine Bb.same _ c5 AI ?_|refine A7.same _ c5 AI ?_
  refine AD kN ?_;refine Ad ?_;exact AJ rfl AA.out
theorem nR (c:UInt8):Bj c=(!decide ((c.toNat:Int)<48) && !decide ((c.toNat:Int)>57)):=by
 unfold Bj;rw[F7,Ba,Ba];simp only[Bl,IT,Nat.ble_eq];omega
theorem jV {l:List UInt8}{i:Nat}{c:UInt8}(hc:l[i]?=some c)(h:(l.take i).all Bj=true):(l.take (i+1)).all Bj=Bj c:=by
 rw[D8,hc,KY,h];simp
theorem sJ {l:List UInt8}{i:Nat}{c:UInt8}(hc:l[i]?=some c)(h:Bj c=false):l.all Bj=false:=by
 cases ha:l.all Bj
 ·rfl
 ·have:=CY.1 ha c (Ay hc)
  rw[h]at this;cases this
theorem oF (l:List UInt8)(hl:l.length<=1000000000):AK C0 264 [str (sb l)] (Ai (l.all Bj)):=by
 refine AZ.walk w1 uK rfl λF=>?_
 have hsz:=Cd l;refine sR 0 ?_;refine AC.seq ?_;refine sR 100 ?_;refine AC.block ?_;refine AC.loop (α:=Nat×Nat) (λp=>⟨[(0,str (sb l)),(3,i64 (p.1:Int))],[],p.2⟩) (λp=>l.length-p.1) (λp=>p.1<=l.length/\(l.take p.1).all Bj=true) (0,_) ⟨BU _,rfl⟩ AL ?_;rintro⟨i,n⟩ F ⟨hi,ha⟩;dsimp only at hi ha⊢;refine AC.seq ?_;refine sZ 200 ?_;refine AW hsz ?_;refine AN ?_
 (refine B1 (λhlt=>?_) (λhlt=>?_))<;>(try simp only[Bl,Bz]at hlt)<;>(try simp only[hlt])
 ·have hi2:i<l.length:=by
   have:=DJ hlt
   omega
  obtain⟨c,hc⟩:∃c,l[i]?=some c:=⟨l[i],Bo hi2⟩
  have hg:l.getD i 0=c:=by simp[hc]
  have wi:IntKind.i64.wrap ((i:Int)+1)=((i+1:Nat):Int):=wI;have hid:=nR c;have hat:=jV hc ha;have hno:=sJ hc;refine Aj ?_;refine AC.seq ?_;refine AC.block ?_;refine sZ 400 ?_;refine AW (Ab kN hg) ?_
  by_cases c1:(c.toNat:Int)<48
  ·rw[Au c1]at hid
   have e4:=Au c1;simp only[e4];refine AD kT ?_;refine AN ?_;refine sR 500 ?_;refine Ad ?_;exact AJ (by rw[hno hid]) AA.out
  ·rw[Av c1]at hid
   have e4:=Av c1;simp only[e4];refine AD (Ar kF kN hg) ?_
   by_cases c2:(c.toNat:Int)>57
   ·rw[Au c2]at hid⊢
    refine AN ?_;refine sR 500 ?_;refine Ad ?_;exact AJ (by rw[hno hid]) AA.out
   ·rw[Av c2]at hid⊢
    refine AN ?_;refine Aj ?_;refine Ao 300 ?_;refine AW wi ?_;exact⟨(i+1,_),⟨hi2,hat.trans hid⟩,by dsimp only;omega,AL⟩
 ·have hi2:i=l.length:=by
   have:=Db hlt
   omega
  subst hi2;rw[Ch (Al _)]at ha;refine CK ?_;refine sR 600 ?_;refine Ad ?_;exact AJ (by rw[ha]) AA.out
theorem lz (c:UInt8):(((c.toNat:Nat):Int)==48)=decide (c=48):=by
 rw[F7,EQ,decide_eq_true_iff,<-UInt8.toNat_inj];exact⟨λh=>(show c.toNat=48 by omega),λh=>by rw[h];rfl⟩
theorem dm (l:List UInt8)(hl:l.length<=1000000000):AK C0 221 [str (sb l)] (Ai (DR l)):=by
 refine AZ.walk w1 uZ rfl λF=>?_
 have hsz:=Cd l;have cd:=oF l hl;refine sR 0 ?_;refine AC.seq ?_;refine AC.seq ?_
 match l,hl,hsz,cd with
 | [],_,hsz,_=>
  have e1:((((sb []).size:Nat):Int)==0)=true:=rfl;refine Ao 100 ?_;refine AW e1 ?_;refine AD kT ?_;refine AN ?_;refine sR 200 ?_;refine Ad ?_;exact AJ rfl AA.out
 | [c],hl,hsz,cd=>
  have e1:((((sb [c]).size:Nat):Int)==0)=false:=rfl;have e2:decide ((((sb [c]).size:Nat):Int)>1)=false:=rfl;have ep:DR [c]=[c].all Bj:=by
   unfold DR LO
   by_cases h:c=48
   ·subst h;rfl
   ·simp[h]
  rw[ep];refine Ao 100 ?_;refine AW e1 ?_;refine AD kF ?_;simp only[e2];refine AD kF ?_;refine AN ?_;refine Aj ?_;refine sR 300 ?_;refine cI cd ?_;refine Ad ?_;exact AJ rfl AA.out
 |c::d::l,hl,hsz,cd=>
  have hs2:(sb (c::d::l)).size=l.length+2:=hsz;have e1:((((sb (c::d::l)).size:Nat):Int)==0)=false:=Br.2 (by omega);have e2:decide ((((sb (c::d::l)).size:Nat):Int)>1)=true:=BV;have e3:((((c::d::l).getD (Int.toNat 0) 0).toNat:Int)==48)=decide (c=48):=lz c;have ep:DR (c::d::l)=if c=48 then false else(c::d::l).all Bj:=by
   unfold DR LO
   by_cases h:c=48
   ·subst h;simp
   ·simp[h]
  rw[ep];refine Ao 100 ?_;refine AW e1 ?_;refine AD (Ab kF e2) ?_;refine AD (BS kT e2 e3 kF) ?_
  by_cases h:c=48
  ·rw[Au h,AH h]
   refine AN ?_;refine sR 200 ?_;refine Ad ?_;exact AJ rfl AA.out
  ·rw[Av h,AG h]
   refine AN ?_;refine Aj ?_;refine sR 300 ?_;refine cI cd ?_;refine Ad ?_;exact AJ rfl AA.out
def DF (r:Rat):Bool:=decide (600<(Lib.decDigits r.num.natAbs).length)||decide (600<(Lib.decDigits r.den).length)
theorem dH (r:Rat)(k:Nat)(h:rk r k)(hk:k<=10000):AK C0 50 [rR r] (i64 (if DF r then 4 else 0)):=by
 refine AZ.walk w1 ya rfl λF=>?_
 have tr:=NH h hk;have c1:=yy r tr;have hn:rk ((r.num:Int):Rat) (k+1):=by
  refine⟨by rw[Rat.num_intCast];have:=h.1;omega,by rw[Rat.den_intCast];have:=G9 (n:=1) (k:=1) (by decide);omega⟩
 have c2:=xO ((r.num:Int):Rat) (by
  unfold HN;rw[JW]
  have:=Z9 h.1
  omega)
 have c3:=xV r tr;have e2:An (if((r.num:Int):Rat).num<0 then -((r.num:Int):Rat)else((r.num:Int):Rat))=Lib.decDigits r.num.natAbs:=by
  have e:=Qs ((r.num:Int):Rat);rw[Rat.num_intCast]at e⊢;rw[<-e];unfold DW;rw[Rat.num_intCast];split
  ·rw[<-Rat.intCast_neg,JW,Rat.num_intCast]
  ·rw[JW,Rat.num_intCast]
 have e3:An ((r.den:Int):Rat)=Lib.decDigits r.den:=by
  rw[JW];rfl
 have s2:=Cd (Lib.decDigits r.num.natAbs);have s3:=Cd (Lib.decDigits r.den);unfold DF;unfold rR at c2 c3;rw[e2]at c2;rw[e3]at c3;generalize Lib.decDigits r.num.natAbs=A at*;generalize Lib.decDigits r.den=B at*;have t2:decide ((A.length:Int)>600)=decide (600<A.length):=DA.2 (by omega);have t3:decide ((B.length:Int)>600)=decide (600<B.length):=DA.2 (by omega);refine sR 0 ?_;refine AC.seq ?_;refine sR 100 ?_;refine cI c1 ?_;refine cI c2 ?_;simp only[s2,t2]
 by_cases h9:600<A.length
 ·rw[Au h9]
  refine AD kT ?_;refine AN ?_;refine sR 200 ?_;refine Ad ?_;exact AJ rfl AA.out
 ·rw[Av h9]
  refine AD kF ?_;refine Ms kF ?_;refine A7.same _ c3 AI ?_;refine AD (Ar kF s3 t3) ?_
  by_cases h8:600<B.length
  ·rw[Au h8]
   refine AN ?_;refine sR 200 ?_;refine Ad ?_;exact AJ rfl AA.out
  ·rw[Av h8]
   refine AN ?_;refine Aj ?_;refine sR 300 ?_;refine Ad ?_;exact AJ rfl AA.out
theorem mv (l:List UInt8):BC l=(B6 l).length:=by
 have:=J3 l
 unfold B6;rw[Bi];omega
theorem Tk (l:List UInt8):B6 (Bs l)=B9 l/\Be (Bs l)=Be l/\C5 (Bs l)=C5 l/\decide (B6 l=[45,48])=(Dh l&&decide (B9 l=[48])):=by
 cases hb:Dh l
 ·have ed:Bs l=l:=by unfold Bs;rw[hb];rfl
  have en:Dh (B6 l)=false:=by
   unfold B6;cases l with
   |nil=>rfl
   |cons c l=>
    cases hk:BC (c::l)with
    |zero=>rfl
    |succ k=>exact hb
  have es:B9 l=B6 l:=by unfold B9 Bs;rw[en];rfl
  rw[ed,es];refine⟨rfl,rfl,rfl,?_⟩;rw[Hx];refine Av λh=>?_
  rw[h]at en;cases en
 ·cases l with
  |nil=>cases hb
  |cons c m=>
   have hc:c=45:=by simpa[Dh]using hb
   subst hc;have ed:Bs (45::m)=m:=rfl;have e1:BC (45::m)=BC m+1:=by
    unfold BC;rw[N9,AH (by decide),Bq]
   have e2:B6 (45::m)=45::B6 m:=by unfold B6;rw[e1,List.take_succ_cons]
   have e3:Be (45::m)=Be m:=by unfold Be;rw[e1,TE]
   have e4:C5 (45::m)=C5 m:=by unfold C5;rw[e1,Bq];exact DA.2 (by omega)
   have e5:B9 (45::m)=B6 m:=by unfold B9;rw[e2];rfl
   rw[ed,e2,e3,e4,e5];refine⟨rfl,rfl,rfl,?_⟩;rw[Gc];exact DA.2 (by simp)
theorem Qa (l:List UInt8):J7 l=((!DR (B9 l)||(Dh l&&decide (B9 l=[48])))||(C5 l&&(!DR (Be l)||decide (Be l=[48])||decide (Be l=[49])))):=by
 unfold J7;rw[(Tk l).2.2.2]
theorem oU {l:List UInt8}(h:DR l=true):l≠[]:=(Kt h).1
theorem eG {l:List UInt8}(h:0<l.length):(((l.getD (Int.toNat 0) 0).toNat:Int)==45)=Dh l:=by
 cases l with
 |nil=>cases h
 |cons c l=>exact RF c l
theorem xF (l:List UInt8)(hl:l.length<=100000):AK C0 182 [str (sb l)] (i64 (Cj l)):=by
 refine AZ.walk w1 s6 rfl λF=>?_
 have hsz:=Cd l;obtain⟨p1,p2,p3,-⟩:=Tk l;have hdl:(Bs l).length<=l.length:=by
  unfold Bs;split
  ·rw[Dp];omega
  ·exact Al _
 have hbf:=Qa l;have hchk1:(!DR (B9 l)||(Dh l&&decide (B9 l=[48])))=true->Cj l=1:=λh=>by
  unfold Cj;rw[hbf,h,Bool.true_or,AH rfl]
 have hchk2:(C5 l&&(!DR (Be l)||decide (Be l=[48])||decide (Be l=[49])))=true->Cj l=1:=λh=>by
  unfold Cj;rw[hbf,h,Bool.or_true,AH rfl]
 have hne:DR (B9 l)=true->0<l.length:=λh=>by
  cases l with
  |nil=>exact Af rfl (oU h)
  |cons c l=>rw[Bq];omega
 refine sR 0 ?_;refine sR 100 ?_;refine DE (α:=Nat) (λn=>⟨[(0,str (sb l)),(3,str (sb (Bs l)))],[],n⟩) (λ_=>True) ?_ ?_
 ·rcases ED l.length with h0|h0
  ·have e0:l=[]:=F6 h0
   have e1:decide (((sb []).size:Int)>0)=false:=rfl;have ed:Bs l=l:=by rw[e0];rfl
   rw[ed,e0];refine sZ 200 ?_;refine AW e1 ?_;refine AD kF ?_;refine AN ?_;refine Aj ?_;exact⟨rfl,_,trivial,AL⟩
  ·have e0:decide (((sb l).size:Int)>0)=true:=BV
   have e1:=eG h0;refine sZ 200 ?_;refine AD e0 ?_;refine AD (Ar kT e0 e1) ?_;cases hb:Dh l
   ·have ed:Bs l=l:=by unfold Bs;rw[hb];rfl
    rw[ed];refine AN ?_;refine Aj ?_;exact⟨rfl,_,trivial,AL⟩
   ·have ed:Bs l=l.drop 1:=by unfold Bs;rw[hb];rfl
    have ee:(sb l).extract (Int.toNat 1) l.length=sb (Bs l):=by
     rw[Em,Ch (Al _),ed];rfl
    refine AN ?_;refine Ao 300 ?_;refine AD (Ab hsz kN) ?_;rw[ee];exact⟨trivial,_,trivial,AL⟩
 rintro n0 -;have cs:=PB (Bs l) (by omega);have hle:=J3 (Bs l);have hszS:=Cd (Bs l);have hhs:C5 l=decide (BC (Bs l)<(Bs l).length):=p3.symm;have e10:(sb (Bs l)).extract 0 (BC (Bs l))=sb (B9 l):=by rw[<-p1,Em,Fi];rfl
 have e11:(sb (Bs l)).extract (BC (Bs l)+1) (Bs l).length=sb (Be l):=by rw[<-p2,Em,Ch (Al _)];rfl
 have hNl:BC (Bs l)=(B9 l).length:=by rw[<-p1];exact mv _
 have hDl:(Be l).length=(Bs l).length-(BC (Bs l)+1):=by rw[<-p2];unfold Be;rw[Dp]
 have pp:=λh1 h2=>O9 (Bs l) h1 h2 (by omega)
 unfold Pr Pf at pp;rw[p1,p2,p3]at pp;have edef:Cj l=if J7 l then 1 else if 600<(B9 l).length\/600<(Be l).length then 4 else if C5 l=true/\Nat.gcd (dv (B9 l)) (dv (Be l))≠1 then 1 else 0:=rfl
 rw[hbf]at edef;generalize hN:B9 l=Nn at*;generalize hD:Be l=Dn at*;generalize hH:C5 l=hv at*;generalize hK:Cj l=KnV at*;generalize Bs l=Sn at*;generalize BC Sn=k at*;clear p1 p2 p3 hbf hN hD hH hK;have cf:=dm Nn (by omega);have cf2:=dm Dn (by omega);have q0:=Ep Nn [48];have q1:=Ep Dn [48];have q2:=Ep Dn [49];refine sR 400 ?_;refine cI cs ?_;refine DE (α:=Nat) (λn=>⟨[(0,str (sb l)),(3,str (sb Sn)),(4,i64 (k:Int))],[],n⟩) (λ_=>(!DR Nn||(Dh l&&decide (Nn=[48])))=false) ?_ ?_
 ·refine sZ 500 ?_
  refine AD (Ab hszS kN) ?_;refine AD e10 ?_;cases hp:DR Nn
  ·rw[hp]at cf
   refine A7.same _ cf AI ?_;refine BO ?_;simp only[S1];refine AD kT ?_;refine AN ?_;refine sR 600 ?_;refine Ad ?_;exact AJ (by rw[hchk1 (by rw[hp];rfl)];rfl) AA.out
  ·rw[hp]at cf
   have hl0:=hne hp;have e1:=eG hl0;refine A7.same _ cf AI ?_;refine BO ?_;simp only[P5];refine AD (Ar kF hsz e1) ?_;have q0':BI (sb Nn) ⟨#[48]⟩=decide (Nn=[48]):=q0;cases hb:Dh l
   ·refine AD kF ?_
    refine AN ?_;refine Aj ?_;exact⟨rfl,_,rfl,AL⟩
   ·refine AD (BS kT kF hszS kN) ?_
    refine AD (BS kT kF e10 q0') ?_
    by_cases h0:Nn=[48]
    ·rw[Au h0]
     refine AN ?_;refine sR 600 ?_;refine Ad ?_;exact AJ (by rw[hchk1 (by simp[hp,hb,h0])];rfl) AA.out
    ·rw[Av h0]
     refine AN ?_;refine Aj ?_;exact⟨rfl,_,by simp,AL⟩
 rintro n1 hb1;clear hchk1 hne cf q0;refine DE (α:=Nat) (λn=>⟨[(0,str (sb l)),(3,str (sb Sn)),(4,i64 (k:Int))],[],n⟩) (λ_=>(hv&&(!DR Dn||decide (Dn=[48])||decide (Dn=[49])))=false) ?_ ?_
 ·cases hv
  ·have e40:decide ((k:Int)<(Sn.length:Int))=false:=Av (by have:=Db hhs.symm;omega)
   refine sZ 700 ?_;refine AW (Ab hszS e40) ?_;refine AD kF ?_;refine AN ?_;refine Aj ?_;exact⟨rfl,_,rfl,AL⟩
  ·have hkl:=DJ hhs.symm
   have e40:decide ((k:Int)<(Sn.length:Int))=true:=BV;have wk:IntKind.i64.wrap ((k:Int)+1)=((k+1:Nat):Int):=wI;have q1':BI (sb Dn) ⟨#[48]⟩=decide (Dn=[48]):=q1;have q2':BI (sb Dn) ⟨#[49]⟩=decide (Dn=[49]):=q2;refine sZ 700 ?_;refine AW (Ab hszS e40) ?_;refine AD (BS kT wk hszS kN) ?_;simp only[e11];refine Ms kT ?_;cases hp:DR Dn
   ·rw[hp]at cf2
    refine A7.same _ cf2 AI ?_;refine AD kB ?_;refine AD kT ?_;refine AN ?_;refine sR 800 ?_;refine Ad ?_;exact AJ (by rw[hchk2 (by simp[hp])];rfl) AA.out
   ·rw[hp]at cf2
    have e12:(sb Sn).extract (IntKind.i64.wrap ((k:Int)+1)).toNat (sb Sn).size=sb Dn:=by rw[wk,hszS,Mo];exact e11
    refine A7.same _ cf2 AI ?_;refine AD kB ?_;simp only[e12,q1']
    by_cases h48:Dn=[48]
    ·rw[Au h48]
     refine AD kT ?_;refine AN ?_;refine sR 800 ?_;refine Ad ?_;exact AJ (by rw[hchk2 (by simp[h48])];rfl) AA.out
    ·rw[Av h48]
     refine AD kB ?_;simp only[e12,q2']
     by_cases h49:Dn=[49]
     ·rw[Au h49]
      refine AN ?_;refine sR 800 ?_;refine Ad ?_;exact AJ (by rw[hchk2 (by simp[h49])];rfl) AA.out
     ·rw[Av h49]
      refine AN ?_;refine Aj ?_;exact⟨rfl,_,by simp,AL⟩
 rintro n2 hb2;clear hchk2 cf2 q1 q2 e10 e11 hsz;have hpN:DR Nn=true:=by
  cases h:DR Nn
  ·rw[h]at hb1;simp at hb1
  ·rfl
 have hpD:hv=true->DR Dn=true:=λh0=>by
  cases h:DR Dn
  ·rw[h,h0]at hb2;simp at hb2
  ·rfl
 rw[hb1,hb2]at edef;rw[AG (by decide)]at edef;have wl1:IntKind.i64.wrap ((Sn.length:Int)-(k:Int))=(Sn.length:Int)-(k:Int):=wI;have wl2:IntKind.i64.wrap ((Sn.length:Int)-(k:Int)-1)=(Sn.length:Int)-(k:Int)-1:=wI;have e91:decide ((Sn.length:Int)-(k:Int)-1>600)=decide (600<Dn.length):=DA.2 (by omega);refine DE (α:=Nat) (λn=>⟨[(3,str (sb Sn)),(4,i64 (k:Int))],[],n⟩) (λ_=>Nn.length<=600/\Dn.length<=600) ?_ ?_
 ·by_cases g1:600<k
  ·have e9:decide ((k:Int)>600)=true:=BV
   rw[AH (.inl (by omega))]at edef;refine sZ 900 ?_;refine AW e9 ?_;refine AD kT ?_;refine AN ?_;refine sR 1000 ?_;refine Ad ?_;exact AJ (by rw[edef];rfl) AA.out
  ·have e9:decide ((k:Int)>600)=false:=Bc
   refine sZ 900 ?_;refine AW e9 ?_;refine AD (CI kF hszS wl1 wl2 e91) ?_
   by_cases g2:600<Dn.length
   ·rw[AH (.inr g2)]at edef
    rw[Au g2];refine AN ?_;refine sR 1000 ?_;refine Ad ?_;exact AJ (by rw[edef];rfl) AA.out
   ·rw[Av g2]
    refine AN ?_;refine Aj ?_;exact⟨rfl,_,⟨by omega,by omega⟩,AL⟩
 rintro n3 ⟨g1,g2⟩;rw[CR]at edef;clear e91 wl1 wl2 hb1 hb2;obtain⟨-,dN⟩:=Kt hpN;refine DE (α:=Nat) (λn=>⟨[],[],n⟩) (λ_=>KnV=0) ?_ ?_
 ·cases hv
  ·have e40:decide ((k:Int)<(Sn.length:Int))=false:=Av (by have:=Db hhs.symm;omega)
   rw[AG (by simp)]at edef;refine sZ 1100 ?_;refine AW (Ab hszS e40) ?_;refine AN ?_;refine Aj ?_;exact⟨rfl,_,edef,AL⟩
  ·have hkl:=DJ hhs.symm
   have e40:decide ((k:Int)<(Sn.length:Int))=true:=BV;obtain⟨-,dD⟩:=Kt (hpD rfl);have pa:=pp (by rw[Kq dN];exact dN) (by rw[Kq dD];exact dD);rw[AH rfl,NU dN,NU dD]at pa;have lN:(Aa (dv Nn)).length<1000000:=DH (Ks (Co (Gr Nn dN) (OA (by decide) Nn.length))) (by omega);have lD:(Aa (dv Dn)).length<1000000:=DH (Ks (Co (Gr Dn dD) (OA (by decide) Dn.length))) (by omega);have cg:AK C0 222 [rD ((dv Nn:Int)).natAbs,rD ((dv Dn:Int)).natAbs] (.sl false 1 ((Aa (Nat.gcd (dv Nn) (dv Dn))).map Ac)):=Yy (dv Nn) (dv Dn) lN lD;have ht:=ZB (Nat.gcd (dv Nn) (dv Dn));have ed1:Nat.gcd (dv Nn) (dv Dn)≠1->KnV=1:=λh=>by rw[AH ⟨rfl,h⟩]at edef;exact edef
   have ed0:Nat.gcd (dv Nn) (dv Dn)=1->KnV=0:=λh=>by rw[AG (λhh=>hh.2 h)]at edef;exact edef
   clear edef;generalize Nat.gcd (dv Nn) (dv Dn)=gg at*;refine sZ 1100 ?_;refine AW (Ab hszS e40) ?_;refine AN ?_;refine sR 1200 ?_;refine cI pa ?_;refine sR 1300 ?_;refine cI cg ?_;rcases ht with⟨t1,a,ha,t2⟩|⟨t1,t2⟩
   ·have ha':=EB ha
    have t1n:((((Aa gg).map Ac).length:Int) != 1)=false:=by unfold bne;rw[t1];rfl
    have t2n:((a:Int) != 1) = !decide (gg=1):=by unfold bne;rw[t2]
    refine sZ 1400 ?_;refine AW t1n ?_;refine AD kF ?_;refine Bw kF ha' ?_;refine AD (Ab kF t2n) ?_
    by_cases hg1:gg=1
    ·rw[Au hg1]
     refine AN ?_;refine Aj ?_;exact⟨rfl,_,ed0 hg1,AL⟩
    ·rw[Av hg1]
     refine AN ?_;refine sR 1500 ?_;refine Ad ?_;exact AJ (by rw[ed1 hg1];rfl) AA.out
   ·have edf:=ed1 t2
    have t1n:((((Aa gg).map Ac).length:Int) != 1)=true:=by unfold bne;rw[t1];rfl
    refine sZ 1400 ?_;refine AW t1n ?_;refine AD kT ?_;refine AN ?_;refine sR 1500 ?_;refine Ad ?_;exact AJ (by rw[edf];rfl) AA.out
 rintro n4 h0;refine sR 1600 ?_;refine Ad ?_;exact AJ (by rw[h0];rfl) AA.out
end Go.Ide
