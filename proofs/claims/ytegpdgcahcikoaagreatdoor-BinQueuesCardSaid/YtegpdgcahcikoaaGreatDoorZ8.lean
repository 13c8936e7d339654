/- The layer of own lemmas and contracts, part 8. -/
import Derived.Test.YtegpdgcahcikoaaGreatDoorZ7
import Derived.Test.YtegpdgcahcikoaaGreatDoorZ3
set_option linter.unusedVariables false
set_option linter.unusedSimpArgs false
namespace Go.Ide
open Go.Proofs Go.RowKit
set_option maxRecDepth 20000
def Cr (b:Nat):Bool:=((decide (97<=b)&&decide (b<=122))||(decide (65<=b)&&decide (b<=90)))||(decide (48<=b)&&decide (b<=57))||b==45||b==95||b==46
def Dg (l:List UInt8):Bool:=l.all (λb=>Cr b.toNat)&&(decide (1<=l.length)&&decide (l.length<=24))
theorem gL (s:ByteArray)(p:Nat)(hp:p<s.size):s.data.toList[p]?=some (s.get! p):=by
 have hp':p<s.data.size:=hp;rw[JS,Bn hp']
 congr 1
 show _=s.data[p]!;rw[getElem!_pos s.data p hp']
theorem Y6 (s:ByteArray)(p:Nat)(h:(s.get! p).toNat<128):Utf8.decode s p=((s.get! p).toNat,1):=by
 unfold Utf8.decode;exact AH h
theorem mq (s:ByteArray)(p:Nat)(h:¬(s.get! p).toNat<128):128<=(Utf8.decode s p).1:=by
 unfold Utf8.decode;dsimp only;simp only[De];rw[AF h];have hv:128<=Utf8.runeError:=by decide
 repeat' split
 all_goals first|exact hv|(rename_i h1;simp only[ge_iff_le,BQ,F8]at h1;dsimp only;omega)
theorem kS (s:ByteArray):AJ C0 75 [str s] (As (Dg s.data.toList)):=by
 refine Aj.walk w1 eI rfl λB=>?_
 have hsz:s.data.toList.length=s.size:=IG;refine fR 0 ?_;refine AC.seq ?_;refine AC.seq ?_;refine zQ w1 100 [0] 1 rfl (by kernel_rfl) rfl ?_;refine CD ?_;intro F hF;refine An ?_;refine AC.block ?_;refine Ge (α:=Nat×Nat) (λp=>⟨[(0,str s),(7,.optr 101 2 0 0 0)],[],p.2⟩) (λp=>s.size-p.1) (λp F=>Mz C0 B F 101 2 s p.1/\p.1<=s.size/\(s.data.toList.take p.1).all (λb=>Cr b.toNat)=true) (0,3) ⟨hF,BX _,rfl⟩ AL ?_;rintro⟨p,n⟩ F ⟨hIt,hp,hall⟩;dsimp only at hIt hp hall⊢;refine AC.seq ?_;refine zP w1 200 0 [1] rfl (by kernel_rfl) s p ?_;refine And.intro hIt (And.intro (λhlt F hIt=>?_) (λhge=>?_))
 ·refine CD ?_
  generalize hc:(Utf8.decode s p).1=c;refine AC.seq ?_;refine AM ?_;refine Ao ?_;refine AC.block ?_;refine fR 300 ?_;refine DU ⟨[(0,str s),(7,.optr 101 2 0 0 0),(4,.prim (.int .i32 c)),(5,As ((decide ((c:Int)>=97)&&decide ((c:Int)<=122))||(decide ((c:Int)>=65)&&decide ((c:Int)<=90))))],[],n+30⟩ (Ap w1 400 (by kernel_rfl) ?_) ?_
  ·repeat'(first|(refine And.intro (by exact Bx) ?_;refine An ?_)|((refine By (λhb=>?_) (λhb=>?_))<;>(try simp only[Bi,Bv]at hb)<;>(try simp only[hb])<;>(refine An ?_)))
   all_goals exact AL
  generalize hL:((decide ((c:Int)>=97)&&decide ((c:Int)<=122))||(decide ((c:Int)>=65)&&decide ((c:Int)<=90)))=L;refine DU ⟨[(0,str s),(7,.optr 101 2 0 0 0),(47,As ((((!L && !(decide ((c:Int)>=48)&&decide ((c:Int)<=57)))&&((c:Int) != 45))&&((c:Int) != 95))&&((c:Int) != 46)))],[],n+60⟩ (Ap w1 500 (by kernel_rfl) ?_) ?_
  ·repeat'(first|(refine And.intro (by exact Bx) ?_;refine An ?_)|((refine By (λhb=>?_) (λhb=>?_))<;>(try simp only[Bi,Bv]at hb)<;>(try simp only[hb])<;>(refine An ?_)))
   all_goals exact AL
  have hbad:((((!L && !(decide ((c:Int)>=48)&&decide ((c:Int)<=57)))&&((c:Int) != 45))&&((c:Int) != 95))&&((c:Int) != 46)) = !(Cr c):=by
   subst hL;rw[Fm];simp only[Cr,BQ,Bi,JT,Bool.and_eq_false_iff,Is,bne_iff_ne,ne_eq,Bu];omega
  rw[hbad];refine AM ?_
  (refine By (λhb=>?_) (λhb=>?_))<;>(try simp only[Bi,Bv]at hb)<;>(try simp only[hb])
  ·have hbf:Cr c=false:=by simpa using hb
   refine fR 600 ?_;refine Ak ?_;refine AK ?_ AA.out;have hb8:Cr (s.get! p).toNat=false:=by
    by_cases hlow:(s.get! p).toNat<128
    ·rw[Y6 s p hlow]at hc
     rw[show(s.get! p).toNat=c from hc];exact hbf
    ·unfold Cr;simp;omega
   have:Dg s.data.toList=false:=by
    unfold Dg
    have:s.data.toList.all (λb=>Cr b.toNat)=false:=by
     rw[List.all_eq_false];exact⟨_,Aw (gL s p hlt),by rw[hb8];simp⟩
    rw[this];rfl
   rw[this]
  ·have hbt:Cr c=true:=by simpa using hb
   have hclt:c<128:=by
    unfold Cr at hbt;simp only[KN,BQ,F8,EH]at hbt;omega
   have hlow:(s.get! p).toNat<128:=by
    apply Dd;intro h
    have:=mq s p h
    omega
   rw[Y6 s p hlow]at hc hIt;refine Ao ?_;refine⟨(p+1,n+60),⟨hIt,hlt,?_⟩,by dsimp only;omega,AL⟩;rw[Dp,gL s p hlt,KO,hall];simp;rw[show(s.get! p).toNat=c from hc];exact hbt
 ·have hpe:p=s.size:=by omega
  refine CD ?_;refine AC.seq ?_;refine AM ?_;refine CC ?_;refine DU ⟨[(2,As (decide (1<=(s.size:Int))&&decide ((s.size:Int)<=24)))],[],n+60⟩ (Ap w1 700 (by kernel_rfl) ?_) ?_
  ·repeat'(first|(refine And.intro (by exact Bx) ?_;refine An ?_)|((refine By (λhb=>?_) (λhb=>?_))<;>(try simp only[Bi,Bv]at hb)<;>(try simp only[hb])<;>(refine An ?_)))
   all_goals exact AL
  refine Ak ?_;refine AK ?_ AA.out;have hall':s.data.toList.all (λb=>Cr b.toNat)=true:=by rw[<-hall,hpe,<-hsz,DV]
  unfold Dg;rw[hall',Gi,hsz];have e:(decide (1<=(s.size:Int))&&decide ((s.size:Int)<=24))=(decide (1<=s.size)&&decide (s.size<=24)):=by
   rw[Fm];simp only[BQ,F8];omega
  rw[<-e]
def VY:Value->Value->Bool
 | .int .i64 a,.int .i64 b=>a==b
 | .string a,.string b=>a.data.toList==b.data.toList
 | .bool a,.bool b=>a==b
 | .slice none 0 0,.slice none 0 0=>true
 |_,_=>false
theorem mL {a b:Value}(h:VY a b=true):a=b:=by
 unfold VY at h;split at h
 ·rw[eq_of_beq h]
 ·rename_i a b
  have:=eq_of_beq h
  congr 1
  exact ByteArray.ext (Array.toList_inj.1 this)
 ·rw[eq_of_beq h]
 ·rfl
 ·cases h
def LS (f:D->D->Bool):List D->List D->Bool
 | [],[]=>true
 |a::l,b::m=>f a b&&LS f l m
 |_,_=>false
theorem RF {f:D->D->Bool}(hf:∀a b,f a b=true->a=b):∀ {l m:List D},LS f l m=true->l=m
 | [],[],_=>rfl
 |a::l,b::m,h=>by
  simp only[LS,BQ]at h;rw[hf a b h.1,RF hf h.2]
 | [],_::_,h=>by simp[LS]at h
 |_::_,[],h=>by simp[LS]at h
def Nt:Nat->D->D->Bool
 | 0,_,_=>false
 |n+1,a,b=>match a,b with
  | .prim a,.prim b=>VY a b
  | .agg l,.agg m=>LS (Nt n) l m
  | .sl x y l,.sl x' y' m=>(x==x')&&Nat.beq y y'&&LS (Nt n) l m
  |_,_=>false
theorem Ud:∀(n:Nat) (a b:D),Nt n a b=true->a=b
 | 0,_,_,h=>by simp[Nt]at h
 |n+1,a,b,h=>by
  unfold Nt at h;split at h
  ·rw[mL h]
  ·rw[RF (Ud n) h]
  ·simp only[BQ]at h
   rw[eq_of_beq h.1.1,B6 h.1.2,RF (Ud n) h.2]
  ·cases h
def ze:Nat->Nat->List UInt8
 | 0,_=>[]
 |k+1,u=>match Nat.blt u 10 with
  |true=>[UInt8.ofNat (48+u)]
  |false=>ze k (u/10)++[UInt8.ofNat (48+u%10)]
def Sa (t:Nat)(name:String):Option Nat:=match Nat.beq t 122 with
 |true=>match decide (name = "Cmp")with
  |true=>some 240
  |false=>none
 |false=>none
theorem dJ (t:Nat)(name:String)(f:Nat)(h:Sa t name=some f)(v:Value)(w:World):(method (C0.P.types.size+Made.depth) t v name).run C0.P w=.ok (f,v) w:=by
 unfold Sa at h;split at h<;>try(cases h;done)
 rename_i ht;split at h<;>try(cases h;done)
 rename_i hn;obtain rfl:=B6 ht;obtain rfl:=C6 hn;cases h
 kernel_rfl
def zV:Az:=⟨.arr 256 1 false,256,256,true,.agg (Array.replicate 256 (.bool false))⟩
noncomputable def P0 (t:Nat):Option Az:=match Nat.beq t 322 with
 |true=>some zV
 |false=>Py.get t
theorem Vq:Cp C0.P P0:=λt i h=>by
 unfold P0 at h;split at h
 ·rename_i ht
  obtain rfl:=B6 ht;cases h
  kernel_rfl
 ·exact iF t i h
set_option maxHeartbeats 2000000
def Bf (c:UInt8):Bool:=Nat.ble 48 c.toNat&&Nat.ble c.toNat 57
def HS:D:=.agg ((List.range 256).map λi=>As (Nat.ble 48 i&&Nat.ble i 57))
abbrev Sg:List UInt8:=[48,49,50,51,52,53,54,55,56,57]
noncomputable def X4:EV:=⟨P0,Mc.get,Nu.get,λ_=>false,λ_ _=>none,λ_ _=>none,LI⟩
theorem Vl:FL C0 X4:=⟨Vq,SH,KQ,λ_ _ _ h=>by simp[X4]at h,by kernel_rfl,λ_ _ _ h=>by simp[X4]at h,Qr⟩
theorem w4:DJ C0 X4:=Vl.w
theorem js:AJ C0 304 [str (sb Sg)] (.tup [HS,As true]):=CH Vl 1000 40 (by kernel_rfl)
def V0 (o:Option D)(b:Bool):Bool:=match o with
 |some (.prim (.bool c))=>c==b
 |_=>false
theorem lF {o:Option D}{b:Bool}(h:V0 o b=true):o=some (As b):=by
 unfold V0 at h;split at h
 ·rw[EH]at h;subst h;rfl
 ·cases h
theorem iW:((List.range 256).all λc=>V0 ((Gl X4 1000 40).1 311 [.pptr HS,.prim (.int .u8 (c:Nat))]) (Nat.ble 48 c&&Nat.ble c 57))=true:=by kernel_rfl
theorem Wb (c:UInt8):AJ C0 311 [.pptr HS,.prim (.int .u8 (c.toNat:Nat))] (As (Bf c)):=by
 refine CH Vl 1000 40 ?_;have h:=CS.1 iW c.toNat (List.mem_range.2 c.toNat_lt);exact lF h
instance:AU HS:=⟨λc hc=>by
 change c∈(List.range 256).map (λi=>As (Nat.ble 48 i&&Nat.ble i 57))at hc;obtain⟨i,_,rfl⟩:=List.mem_map.1 hc;exact .prim _⟩
def GW (l:List UInt8):List UInt8:=(l.reverse.dropWhile Bf).reverse
theorem j0 (m:List UInt8)(c:UInt8):GW (m++[c])=if Bf c then GW m else m++[c]:=by
 unfold GW;rw[List.reverse_append,List.reverse_singleton,List.singleton_append,No];split
 ·rfl
 ·rw[List.reverse_cons,List.reverse_reverse]
theorem nK (l:List UInt8):((GW l).dropWhile Bf=[])↔l.all Bf=true:=by
 constructor
 ·intro h
  have h1:∀m:List UInt8,m.dropWhile Bf=[]->m.all Bf=true:=λm=>by
   induction m with
   |nil=>intro _;rfl
   |cons c m ih=>
    intro hm;rw[No]at hm;split at hm
    ·rename_i hc
     rw[Fl,hc,ih hm];rfl
    ·cases hm
  have h2:(l.reverse.dropWhile Bf).all Bf=true:=by
   have:=h1 _ h
   unfold GW at this
   rwa [List.all_reverse]at this
  have h3:∀m:List UInt8,(m.dropWhile Bf).all Bf=true->m.all Bf=true:=λm=>by
   induction m with
   |nil=>intro _;rfl
   |cons c m ih=>
    intro hm;rw[No]at hm;split at hm
    ·rename_i hc
     rw[Fl,hc,ih hm];rfl
    ·exact hm
  have:=h3 _ h2
  rwa [List.all_reverse]at this
 ·intro h
  have h1:∀m:List UInt8,m.all Bf=true->m.dropWhile Bf=[]:=λm=>by
   induction m with
   |nil=>intro _;rfl
   |cons c m ih=>
    intro hm;rw[Fl,BQ]at hm;rw[No,AH hm.1];exact ih hm.2
  have hx:=h1 l.reverse (by rw[List.all_reverse];exact h);unfold GW;rw[hx];rfl
theorem jD (l:List UInt8)(hl:l.length<=1000000000):AJ C0 305 [str (sb l),.pptr HS] (str (sb (l.dropWhile Bf))):=by
 refine Aj.walk w1 bT rfl λF=>?_
 have hps:AU HS:=AI;have hcc:=Wb;generalize HS=sd at*;refine sR 0 ?_;refine AC.seq ?_;refine AC.block ?_;refine AC.loop (α:=List UInt8×Nat) (λp=>⟨[(0,str (sb p.1)),(1,.pptr sd)],[],p.2⟩) (λp=>p.1.length) (λp=>p.1.dropWhile Bf=l.dropWhile Bf/\p.1.length<=l.length) (l,_) ⟨rfl,Ai _⟩ AL ?_;rintro⟨m,n⟩ F ⟨h1,h2⟩;dsimp only at h1 h2⊢;refine AC.seq ?_;refine AC.seq ?_;cases m with
 |nil=>
  have e1:decide (((sb []).size:Int)>0)=false:=rfl;refine Ap w1 100 (by kernel_rfl) ?_;refine AV e1 ?_;refine AM ?_;refine CC ?_;refine sR 400 ?_;refine Ak ?_;exact AK (by rw[<-h1];rfl) AA.out
 |cons c m=>
  have hsz:=Ci (c::m);have e1:decide (((sb (c::m)).size:Int)>0)=true:=AZ (by rw[hsz,Bp];omega);have hx:(((sb (c::m)).data.toList.getD ((0:Int)).toNat 0).toNat:Int)=(c.toNat:Int):=rfl;have b1:(0:Int)<((sb (c::m)).size:Int):=by rw[hsz,Bp];omega
  have b2:(1:Int)<=((sb (c::m)).size:Int):=by omega
  have e3:(sb (c::m)).extract ((1:Int)).toNat (sb (c::m)).size=sb m:=by
   rw[Ew,hsz,CE (Ai _)];rfl
  have cc:=hcc c;refine Ap w1 100 (by kernel_rfl) ?_;refine AV e1 ?_;refine AM ?_;refine Ao ?_;refine AC.block ?_;refine AC.seq ?_;refine sZ 200 ?_;refine AV hx ?_;refine cI cc ?_;rcases hb:Bf c with _|_
  ·refine AM ?_
   refine CC ?_;refine sR 400 ?_;refine Ak ?_;refine AK ?_ AA.out;rw[<-h1,No,AF (by rw[hb];simp)]
  ·refine AM ?_
   refine Ao ?_;refine Ap w1 300 (by kernel_rfl) ?_;refine AV e3 ?_;refine⟨(m,_),⟨?_,?_⟩,?_,AL⟩
   ·rw[<-h1,No,AH hb]
   ·rw[Bp]at h2;dsimp only;omega
   ·show m.length<m.length+1;omega
theorem ig (l:List UInt8)(hl:l.length<=1000000000):AJ C0 306 [str (sb l),.pptr HS] (str (sb (GW l))):=by
 refine Aj.walk w1 bU rfl λF=>?_
 have hps:AU HS:=AI;have hcc:=Wb;generalize HS=sd at*;refine sR 0 ?_;refine AC.seq ?_;refine AC.block ?_;refine AC.loop (α:=List UInt8×Nat) (λp=>⟨[(0,str (sb p.1)),(1,.pptr sd)],[],p.2⟩) (λp=>p.1.length) (λp=>GW p.1=GW l/\p.1.length<=l.length) (l,_) ⟨rfl,Ai _⟩ AL ?_;rintro⟨m,n⟩ F ⟨h1,h2⟩;dsimp only at h1 h2⊢;refine AC.seq ?_;refine AC.seq ?_;rcases SR m with rfl|⟨m,c,rfl⟩
 ·have e1:decide (((sb []).size:Int)>0)=false:=rfl
  refine Ap w1 100 (by kernel_rfl) ?_;refine AV e1 ?_;refine AM ?_;refine CC ?_;refine sR 400 ?_;refine Ak ?_;exact AK (by rw[<-h1];rfl) AA.out
 ·rw[SQ]at h1 h2⊢
  have hsz:=Ci (m++[c]);rw[Bk,Gj]at hsz h2;have e1:decide (((sb (m++[c])).size:Int)>0)=true:=AZ (by rw[hsz];omega);have wk1:IntKind.i64.wrap (((sb (m++[c])).size:Int)-1)=(m.length:Int):=by rw[hsz,wI (by omega) (by omega)];omega
  have hx:(((sb (m++[c])).data.toList.getD (((m.length:Nat):Int)).toNat 0).toNat:Int)=(c.toNat:Int):=by
   show(((m++[c]).getD m.length 0).toNat:Int)=_;simp
  have b1:((m.length:Nat):Int)<((sb (m++[c])).size:Int):=by rw[hsz];omega
  have e3:(sb (m++[c])).extract 0 (((m.length:Nat):Int)).toNat=sb m:=by
   rw[Ew];simp
  have cc:=hcc c;have ht:=j0 m c;refine Ap w1 100 (by kernel_rfl) ?_;refine AV e1 ?_;refine AM ?_;refine Ao ?_;refine AC.block ?_;refine AC.seq ?_;refine sZ 200 ?_;refine AV (Ad wk1 hx) ?_;refine cI cc ?_;rcases hb:Bf c with _|_
  ·rw[AF (by rw[hb];simp)]at ht
   refine AM ?_;refine CC ?_;refine sR 400 ?_;refine Ak ?_;exact AK (by rw[<-h1,ht]) AA.out
  ·rw[AH hb]at ht
   refine AM ?_;refine Ao ?_;refine Ap w1 300 (by kernel_rfl) ?_;refine AV (Ad wk1 e3) ?_;refine⟨(m,_),⟨by rw[<-h1,ht],by dsimp only;omega⟩,?_,AL⟩;dsimp only;rw[Bk,Gj];omega
namespace TrimW
theorem w1:DJ C0 X4:=w4
theorem trim_ok (l:List UInt8)(hl:l.length<=1000000000):AJ C0 293 [str (sb l),str (sb Sg)] (str (sb ((GW l).dropWhile Bf))):=by
 refine Aj.walk w1 bS rfl λF=>?_
 have cm:=js;have c1:=ig l hl;have hlr:(GW l).length<=1000000000:=by
  unfold GW;rw[List.length_reverse];exact BR (List.dropWhile_sublist _).length_le (by rw[List.length_reverse];exact hl)
 have c2:=jD (GW l) hlr;have hps:AU HS:=AI;have eS:=E2 l [];have e2:(((sb Sg).size:Int)==1)=false:=rfl;have e4:BF (sb Sg) (sb [])=false:=by rw[E2];exact Ah (by simp)
 have hfit:Br true 256 HS:=by
  have h:((List.range 256).map λi=>As (Nat.ble 48 i&&Nat.ble i 57)).length=256:=by rw[Am,List.length_range]
  have:=Br.agg (ds:=(List.range 256).map λi=>As (Nat.ble 48 i&&Nat.ble i 57))
  rw[h]at this;exact this
 refine sR 0 ?_
 by_cases h0:l=[]
 ·subst h0
  have eS':BF (sb []) (sb [])=true:=by rw[E2];exact AZ rfl
  refine AC.seq ?_;refine sZ 100 ?_;refine AV eS' ?_;refine AE (Ad eS' kT) ?_;refine AM ?_;refine sR 200 ?_;refine Ak ?_;exact AK rfl AA.out
 ·rw[Ah h0]at eS
  refine AC.seq ?_;refine sZ 100 ?_;refine AV eS ?_;refine AE (At eS e4 kF) ?_;refine AE (At eS e4 kF) ?_;refine AM ?_;refine Ao ?_;refine AC.seq ?_;refine sZ 300 ?_;refine AV e2 ?_;refine AE e2 ?_;refine AE e2 ?_;refine AM ?_;refine Ao ?_;refine AC.seq ?_;refine sR 500 ?_;refine BE.same _ cm AI ?_;refine An ?_;generalize HS=sd at*
  repeat(refine EB rfl rfl ?_;refine IV (λ_ _=>rfl) ?_)
  refine OP (And.intro (by repeat'(first|exact hfit|refine And.intro ?_ ?_|exact Bx)) ?_);refine An ?_;refine sR 600 ?_;refine AM ?_;refine sR 700 ?_;refine BE.own _ (MT c1 rfl ?_ AI (KA.prim _)) ?_
  ·intro i x y hx hy
   match i with
   | 0=>simp at hx hy;subst hx;subst hy;exact DQ.refl _ _
   | 1=>simp at hx hy;subst hx;subst hy;exact DQ.ptr rfl rfl rfl rfl
   |i+2=>simp at hx
  rintro d H' n' ⟨rfl,rfl,rfl⟩;refine BP ?_;refine BE.own _ (MT c2 rfl ?_ AI (KA.prim _)) ?_
  ·intro i x y hx hy
   match i with
   | 0=>simp at hx hy;subst hx;subst hy;exact DQ.refl _ _
   | 1=>simp at hx hy;subst hx;subst hy;exact DQ.ptr rfl rfl rfl rfl
   |i+2=>simp at hx
  rintro d H' n' ⟨rfl,rfl,rfl⟩;refine BP ?_;refine Ak ?_;exact AK rfl AA.out
end TrimW
def G4 (a:Nat)(l:List UInt8):Nat:=l.foldl (λa c=>a*10+(c.toNat-48)) a
def dv (l:List UInt8):Nat:=G4 0 l
theorem am (l:List UInt8):∀a,G4 a l=a*10^l.length+dv l:=by
 induction l with
 |nil=>intro a;simp[G4,dv]
 |cons c l ih=>
  intro a;have h1:∀b,G4 b (c::l)=G4 (b*10+(c.toNat-48)) l:=λb=>rfl
  have h2:dv (c::l)=G4 (0*10+(c.toNat-48)) l:=rfl;rw[h1,h2,ih,ih (0*10+(c.toNat-48)),Bp,CN];rw[Bw,G8,BV,Bz,BS 10];omega
theorem OG (l m:List UInt8):dv (l++m)=dv l*10^m.length+dv m:=by
 have:dv (l++m)=G4 (dv l) m:=by unfold dv G4;rw[List.foldl_append]
 rw[this,am]
theorem iu (l:List UInt8):∀a,l.all Bf=true->Lib.decFrom a l=some (G4 a l):=by
 induction l with
 |nil=>intro a _;rfl
 |cons c l ih=>
  intro a h;rw[Fl,BQ]at h;have hd:Lib.digitVal c=some (c.toNat-48):=by
   have h1:=h.1;unfold Bf at h1;rw[BQ]at h1;unfold Lib.digitVal;rw[AH ⟨Bj h1.1,Bj h1.2⟩]
  rw[Lib.decFrom,hd];exact ih _ h.2
theorem Lg {c:UInt8}(h:Bf c=true):48<=c.toNat/\c.toNat<=57:=by
 unfold Bf at h;rw[BQ]at h;exact⟨Bj h.1,Bj h.2⟩
theorem ma {l:List UInt8}(h0:l≠[])(h:l.all Bf=true):Lib.atoi l=some (dv l:Int):=by
 cases l with
 |nil=>exact Ae rfl h0
 |cons c l=>
  have hc:Bf c=true:=by rw[Fl,BQ]at h;exact h.1
  obtain⟨c1,c2⟩:=Lg hc;have e1:(c==45)=false:=by
   rw[Bu];intro hh;subst hh;simp at c1
  have e2:(c==43)=false:=by
   rw[Bu];intro hh;subst hh;simp at c1
  unfold Lib.atoi;dsimp only;rw[e1,e2];simp only[ID,if_false];unfold Lib.decNat;simp only[List.isEmpty_cons,ID,if_false];rw[iu _ _ h];rfl
theorem GS (l:List UInt8)(h:l.all Bf=true):dv l<10^l.length:=by
 induction l with
 |nil=>decide
 |cons c l ih=>
  rw[Fl,BQ]at h;have h1:dv (c::l)=G4 (0*10+(c.toNat-48)) l:=rfl;have h2:=ih h.2;obtain⟨c1,c2⟩:=Lg h.1;rw[h1,am,G8,BV,Bp,CN,BS _ 10];have h3:(c.toNat-48)*10^l.length<=9*10^l.length:=CM _ (by omega);omega
def V1 (o:Option D)(z:Int):Bool:=match o with
 |some (.agg [.prim (.int .i64 a),.prim (.slice none 0 0)])=>a==z
 |_=>false
theorem lG {o:Option D}{z:Int}(h:V1 o z=true):o=some (C3 z):=by
 unfold V1 at h;split at h
 ·rw[EH]at h;subst h;rfl
 ·cases h
theorem qK:((List.range 19).all λk=>V1 ((Gl X1 1000 60).1 198 [C3 10,i64 (k:Nat)]) ((10^k:Nat):Int))=true:=by kernel_rfl
theorem uv (k:Nat)(h:k<19):AJ C0 198 [C3 10,i64 k] (C3 ((10^k:Nat):Int)):=by
 refine CH Da 1000 60 ?_;exact lG (CS.1 qK k (List.mem_range.2 h))
theorem Vc {n:Nat}(h:n<9223372036854775808):C3 (n:Int)=(AX (n:Int)).D:=by
 rw[Jt ⟨by omega,by omega⟩];rfl
theorem yh (a b:Nat)(ha:(Af a).length<1000000)(hb:(Af b).length<1000000):AJ C0 153 [(AX (a:Int)).D,(AX (b:Int)).D] (AX ((a+b:Nat):Int)).D:=by
 have:=O7 (AX (a:Int)) (AX (b:Int)) (Cj _) (Cj _) (IS ha) (IS hb)
 have e:EE (AX (a:Int)) (AX (b:Int))=AX ((a+b:Nat):Int):=by
  have h1:=ND (AX (a:Int)) (AX (b:Int));rw[Dq,Dq]at h1;rw[O8 (Mr _ _) (by rw[h1];omega),h1]
  congr 1
 rw[e]at this;exact this
theorem Mi {n k:Nat}(h:n<10^k):(Af n).length<=k:=HB (CZ h (Nr (by decide) k))
def rv (l:List UInt8):Int:=if DN l then -(dv (Bo l):Int)else dv (Bo l)
theorem qL (k:Nat)(h:k<19):AJ C0 198 [C3 10,i64 k] (AX ((10^k:Nat):Int)).D:=by
 have:=uv k h
 have h2:10^k<9223372036854775808:=Db (FY (by decide) (show k<=18 by omega)) (by decide)
 rwa [Vc h2]at this
theorem vU (n:Nat)(h:n<9223372036854775808):AJ C0 122 [i64 n] (AX (n:Int)).D:=by
 have:=PG (n:Int)
 rwa [Vc h]at this
theorem Qv (l:List UInt8)(hd:(Bo l).all Bf=true)(hl:l.length<=100000):AJ C0 150 [str (sb l)] (AX (rv l)).D:=by
 refine Aj.walk w1 aY rfl λF=>?_
 have c1:=iZ l (by omega);have c2:=So l (by omega);have hml:(Bo l).length<=100000:=by
  unfold Bo;split
  ·rw[Dv];omega
  ·exact hl
 unfold rv;generalize hm0:Bo l=m0 at*;generalize DN l=ng at*;generalize sb l=sl at*;have ez:C3 0=(AX ((0:Nat):Int)).D:=Vc (by decide);have hpm:∀n:Nat,AA (AX (n:Int)).w:=λn=>AI
 refine sR 0 ?_;refine sR 100 ?_;refine cI c1 ?_;refine sR 200 ?_;refine cI c2 ?_;refine sR 300 ?_;refine Cz (α:=Nat) (λn=>⟨[(2,.optr 0 0 2 0 0),(3,As ng),(4,.optr 301 8 2 0 0)],[⟨301,8,120,2,[(AX (dv m0:Int)).D]⟩,⟨0,0,120,2,[C3 0]⟩],n⟩) (λ_=>True) ?_ ?_
 ·refine AC.block ?_
  refine Ge (α:=List UInt8×Nat×Nat) (λp=>⟨[(0,str (sb p.1)),(2,.optr 0 0 2 0 0),(3,As ng),(4,.optr 301 8 2 0 0)],[⟨301,8,120,2,[(AX (p.2.1:Int)).D]⟩,⟨0,0,120,2,[C3 0]⟩],p.2.2⟩) (λp=>p.1.length)
   (λp F'=>F'=F/\p.1.all Bf=true/\p.1.length<=m0.length/\p.2.1<10^(m0.length-p.1.length)/\dv m0=p.2.1*10^p.1.length+dv p.1) (m0,0,20) ⟨rfl,hd,Ai _,by simp,by simp⟩ (by rw[<-ez];exact AL) ?_
  rintro⟨m,A,n⟩ F' ⟨rfl,h1,h2,h3,h4⟩;dsimp only at h1 h2 h3 h4⊢;refine AC.seq ?_;refine AC.seq ?_
  by_cases hm:m=[]
  ·subst hm
   have e1:decide (((sb []).size:Int)>0)=false:=rfl;have hA:dv m0=A:=by simpa[dv,G4]using h4
   rw[hA];refine Ap w1 400 (by kernel_rfl) ?_;refine AV e1 ?_;refine AM ?_;refine CC ?_;exact⟨rfl,_,trivial,AL⟩
  ·have hm1:0<m.length:=List.length_pos_iff.2 hm
   have hsz:=Ci m;obtain⟨k,hk⟩:∃k,k=min 18 m.length:=⟨_,rfl⟩
   have e1:decide (((sb m).size:Int)>0)=true:=AZ (by rw[hsz];omega);have ek:min (18:Int) ((sb m).size:Int)=(k:Int):=by rw[hsz];omega
   have b1:(k:Int)<=((sb m).size:Int):=by rw[hsz];omega
   have e22:(sb m).extract 0 ((k:Int)).toNat=sb (m.take k):=by rw[Ew];rfl
   have e36:(sb m).extract ((k:Int)).toNat (sb m).size=sb (m.drop k):=by
    rw[Ew,hsz,CE (Ai _)];rfl
   have htk:(m.take k).all Bf=true:=CS.2 λc hc=>CS.1 h1 c (FX hc)
   have hdk:(m.drop k).all Bf=true:=CS.2 λc hc=>CS.1 h1 c (KK hc)
   have hlk:(m.take k).length=k:=by rw[Bb];omega
   have hv:=GS _ htk;rw[hlk]at hv;have h18:10^k<=10^18:=FY (by decide) (by omega);have ca:=oB (sb (m.take k)) (dv (m.take k):Int) (by rw[Ci,hlk];omega) (ma (by intro h;change m.take k=[]at h;rw[h]at hlk;simp at hlk;omega) htk);have hval:dv m=dv (m.take k)*10^(m.drop k).length+dv (m.drop k):=by
    conv=>lhs;rw[<-E8 k m]
    exact OG _ _
   generalize dv (m.take k)=v at*;have hAl:(Af A).length<=100000:=BR (Mi h3) (by omega);have h10:(Af (10^k)).length<=19:=Mi (k:=19) (Nat.pow_lt_pow_right (by decide) (by omega));have hmul:=Li A (10^k);have cp:=qL k (by omega);have c3:=Vw A (10^k) (by omega) (by omega);have cv:=vU v (by omega);have hvl:(Af v).length<=19:=Mi (k:=19) (CZ hv (FY (by decide) (by omega)));have c4:=yh (A*10^k) v (by omega) (by omega);refine Ap w1 400 (by kernel_rfl) ?_;refine AV e1 ?_;refine AM ?_;refine Ao ?_;refine AC.block ?_;refine sZ 500 ?_;refine AV ek ?_;refine sZ 600 ?_;refine AV e22 ?_;refine cI ca ?_;refine AC.seq ?_;refine B9 w1 700 [0,1,2,3,4,5] [6,7,8] (by kernel_rfl) ?_;refine BP ?_;refine BU.same _ (PG 10) AI ?_;refine BP ?_;refine BU.same _ (cp) AI ?_;refine BP ?_;refine BU.same _ (c3) AI ?_;refine BP ?_;refine cI cv ?_;refine cI c4 ?_;refine Ap w1 800 (by kernel_rfl) ?_;refine AV e36 ?_;refine⟨(m.drop k,A*10^k+v,_),⟨trivial,hdk,?_,?_,?_⟩,?_,AL⟩
   ·dsimp only;rw[Dv];omega
   ·dsimp only
    rw[Dv,show m0.length-(m.length-k)=(m0.length-m.length)+k by omega,GC];have h5:(A+1)*10^k<=10^(m0.length-m.length)*10^k:=CM _ h3;rw[Bw]at h5;omega
   ·dsimp only
    rw[h4,hval,Dv];have h6:10^m.length=10^k*10^(m.length-k):=by rw[<-GC];congr 1;omega
    rw[h6,Bw,Bz];omega
   ·dsimp only;rw[Dv];omega
 rintro n -;have hAl:(Af (dv m0)).length<=100000:=BR (Mi (GS _ hd)) hml;have cn:=PF (AX (dv m0:Int)) (Cj _) (IS (by omega));rw[Dq]at cn;have hpn:AA (AX (-(dv m0:Int))).w:=AI;refine AC.seq ?_;refine sR 900 ?_;cases ng with
 |true=>
  rw[AH rfl];refine AM ?_;refine sR 1000 ?_;refine cI cn ?_;refine Ak ?_;exact AK rfl AA.out
 |false=>
  rw[AF (by simp)];refine AM ?_;refine Ao ?_;refine sR 1100 ?_;refine Ak ?_;exact AK rfl AA.out
def LA (l:List UInt8):Bool:=!decide (l=[])&&l.all Bf
def C8 (l:List UInt8):Bool:=LA l&&(decide (l=[48]) || !decide (l.head? = some 48))
def B1 (l:List UInt8):List UInt8:=l.take (BK l)
def BY (l:List UInt8):List UInt8:=l.drop (BK l+1)
def Cu (l:List UInt8):Bool:=decide (BK l<l.length)
def B3 (l:List UInt8):List UInt8:=Bo (B1 l)
def Jl (l:List UInt8):Bool:=!C8 (B3 l)||decide (B1 l=[45,48])||(Cu l&&(!C8 (BY l)||decide (BY l=[48])||decide (BY l=[49])))
def Cb (l:List UInt8):Nat:=if Jl l then 1 else if 600<(B3 l).length\/600<(BY l).length then 4
 else if Cu l=true/\Nat.gcd (dv (B3 l)) (dv (BY l))≠1 then 1 else 0
theorem KZ {l:List UInt8}(h:C8 l=true):l≠[]/\l.all Bf=true:=by
 unfold C8 LA at h;rw[BQ,BQ]at h;exact⟨by have:=h.1.1;simpa using this,h.1.2⟩
theorem Sy {l:List UInt8}(h:l.all Bf=true):DN l=false:=by
 cases l with
 |nil=>rfl
 |cons c l=>
  rw[Fl,BQ]at h;obtain⟨c1,c2⟩:=Lg h.1;show(c==45)=false;rw[Bu];intro hh;subst hh;simp at c1
theorem KW {l:List UInt8}(h:l.all Bf=true):Bo l=l:=by unfold Bo;rw[Sy h];rfl
theorem M7 {l:List UInt8}(h:l.all Bf=true):rv l=(dv l:Int):=by
 unfold rv;rw[Sy h,KW h];rfl
theorem jy (l:List UInt8)(hl:l.length<=1000000000):AJ C0 272 [str (sb l)] (As (LA l)):=by
 refine Aj.walk w1 bP rfl λF=>?_
 have ct:=TrimW.trim_ok l hl;have eS:=E2 l [];have eT:=E2 ((GW l).dropWhile Bf) [];have hall:decide ((GW l).dropWhile Bf=[])=l.all Bf:=by
  rw[Fm,decide_eq_true_iff];exact nK l
 rw[hall]at eT;unfold LA;rw[<-eS];generalize hb:BF (sb l) (sb [])=b at*;refine sR 0 ?_;refine AC.seq ?_;cases b with
 |true=>
  have e1:(!BF (sb l) (sb []))=false:=by rw[hb];rfl
  refine Ap w1 100 (by kernel_rfl) ?_;refine AV e1 ?_;refine AE e1 ?_;refine Ak ?_;exact AK rfl AA.out
 |false=>
  have e1:(!BF (sb l) (sb []))=true:=by rw[hb];rfl
  refine Ap w1 100 (by kernel_rfl) ?_;refine AV e1 ?_;refine AE e1 ?_;refine Ny e1 ?_;refine BE.same _ ct AI ?_;refine AE (Ad e1 eT) ?_;refine Ak ?_;exact AK rfl AA.out
theorem Yv (l:List UInt8)(hl:l.length<=1000000000):AJ C0 238 [str (sb l)] (As (C8 l)):=by
 refine Aj.walk w1 bI rfl λF=>?_
 have cd:=jy l hl;have e0:=E2 l [48];unfold C8;refine sR 0 ?_;refine sR 100 ?_;refine cI cd ?_;rcases hd:LA l with _|_
 ·refine AE (Ad kT ID) ?_
  refine AE (Ad kT ID) ?_;refine Ak ?_;exact AK rfl AA.out
 ·obtain⟨c,m,rfl⟩:∃c m,l=c::m:=by
   cases l with
   |nil=>cases hd
   |cons c m=>exact⟨c,m,rfl⟩
  have hsz:=Ci (c::m);rw[Bp]at hsz;have hx:(((sb (c::m)).data.toList.getD ((0:Int)).toNat 0).toNat:Int)=(c.toNat:Int):=rfl;have b0:(0:Int)<((sb (c::m)).size:Int):=by rw[hsz];omega
  by_cases h0:(c::m)=[48]
  ·rw[AZ h0]at e0⊢
   refine AE e0 ?_;refine AE (Ad e0 kT) ?_;refine AE (Ad e0 kT) ?_;refine Ak ?_;exact AK rfl AA.out
  ·rw[Ah h0]at e0⊢
   have e1:((c.toNat:Int) != 48) = !decide (c=48):=by
    rw[Fm];simp only[bne_iff_ne,ne_eq,Bi,Is];constructor
    ·intro h hc;subst hc;exact h rfl
    ·intro h hc
     apply h
     have:c.toNat=48:=by omega
     exact UInt8.toNat_inj.1 this
   refine AE e0 ?_;refine AE (BZ e0 kF hx e1) ?_;refine AE (BZ e0 kF hx e1) ?_;refine Ak ?_;exact AK (by simp) AA.out
theorem pU (n:Nat):AJ C0 239 [(AX (n:Int)).D] (.tup [i64 (AX (n:Int)).s,As (decide (Sm (n:Int)))]):=by
 refine Aj.walk w1 bJ rfl λF=>?_
 by_cases hs:Sm (n:Int)
 ·obtain⟨a1,a2⟩:=SB hs
  dsimp only[GI.D];rw[a1,a2,AZ hs];refine sR 0 ?_;refine AC.seq ?_;refine B9 w1 100 [0,1,2,3,4,5] [6] (by kernel_rfl) ?_;refine BP ?_;refine Ak ?_;exact AK rfl AA.out
 ·obtain⟨a1,a2,a3⟩:=Vv hs
  dsimp only[GI.D];rw[a1,a2,Ah hs];generalize(Af n).map AR=l at*;refine sR 0 ?_;refine AC.seq ?_;refine B9 w1 100 [0,1,2,3,4,5] [6] (by kernel_rfl) ?_;refine AV (At (@ne_eq (List D)) a3 EW) ?_;refine Ak ?_;exact AK rfl AA.out
def GT (l:List UInt8):GF:=⟨AX (rv (B1 l)),if Cu l then dv (BY l)else 1⟩
theorem oE (l:List UInt8)(hl:l.length<=100000)(h1:(B3 l).all Bf=true)(h2:Cu l=true->(BY l).all Bf=true):AJ C0 111 [str (sb l)] (GT l).D:=by
 refine Aj.walk w1 aE rfl λF=>?_
 have cc:=ak l (by omega);have r1:=Qv (B1 l) h1 (by unfold B1;rw[Bb];omega);have hpw:AA (AX (rv (B1 l))).w:=AI;unfold GT;change AJ C0 _ _ (.tup [str (sb (B1 l)),str (sb (BY l)),As (Cu l)])at cc;rcases hs:Cu l with _|_
 ·rw[hs]at cc
  have wg:=Z0 (AX (rv (B1 l)));have hp1:AA (AX ((1:Nat):Int)).w:=AI;rw[AF (by simp)];dsimp only[GI.D,GF.D]at*;refine sR 0 ?_;refine sR 100 ?_;refine cI cc ?_;refine AC.seq ?_;refine sR 200 ?_;refine AM ?_;refine sR 300 ?_;refine cI r1 ?_;refine cI wg ?_;refine Ak ?_;exact AK rfl AA.out
 ·rw[hs]at cc
  have hd:=h2 hs;have r2:=Qv (BY l) (by rw[KW hd];exact hd) (by unfold BY;rw[Dv];omega);rw[M7 hd]at r2;have hp1:AA (AX (dv (BY l):Int)).w:=AI;rw[AH rfl];dsimp only[GI.D,GF.D]at*;refine sR 0 ?_;refine sR 100 ?_;refine cI cc ?_;refine AC.seq ?_;refine sR 200 ?_;refine AM ?_;refine Ao ?_;refine sR 400 ?_;refine cI r1 ?_;refine cI r2 ?_;refine Ak ?_;exact AK rfl AA.out
set_option maxHeartbeats 4000000
theorem vQ (g:Nat):((g:Int) != 1)=decide (g≠1):=by
 rw[Fm,bne_iff_ne,decide_eq_true_iff];omega
theorem me (l:List UInt8)(hl:l.length<=100000):AJ C0 182 [str (sb l)] (i64 (Cb l)):=by
 refine Aj.walk w1 bo rfl λF=>?_
 have cc:=ak l (by omega);change AJ C0 _ _ (.tup [str (sb (B1 l)),str (sb (BY l)),As (Cu l)])at cc;have hnl:(B1 l).length<=100000:=by unfold B1;rw[Bb];omega
 have hdl:(BY l).length<=100000:=by unfold BY;rw[Dv];omega
 have hsl:(B3 l).length<=100000:=by
  unfold B3 Bo;split
  ·rw[Dv];omega
  ·exact hnl
 have ct:=So (B1 l) (by omega);change AJ C0 _ _ (str (sb (B3 l)))at ct;have p1:=Yv (B3 l) (by omega);have p2:=Yv (BY l) (by omega);have en:=E2 (B1 l) [45,48];have e0:=E2 (BY l) [48];have e1:=E2 (BY l) [49];have z1:=Ci (B3 l);have z2:=Ci (BY l);have hbf:∃b,b=Jl l:=⟨_,rfl⟩
 obtain⟨bf,hbf⟩:=hbf;unfold Cb;rw[<-hbf];unfold Jl at hbf;refine sR 0 ?_;refine sR 100 ?_;refine cI cc ?_;refine sR 200 ?_;refine cI ct ?_;refine AC.seq ?_;refine Cz (α:=Nat) (λn=>⟨[(4,str (sb (BY l))),(5,As (Cu l)),(6,str (sb (B3 l))),(39,As bf)],[],n⟩) (λ_=>True) ?_ ?_
 ·refine rI 300 ?_
  refine cI p1 ?_;rcases hp:C8 (B3 l)with _|_
  ·rw[hp]at hbf
   have hb:bf=true:=by rw[hbf];rfl
   subst hb;simp only[SN];refine AE kT ?_;refine AE kT ?_;exact⟨trivial,_,trivial,AL⟩
  ·rw[hp]at hbf
   simp only[Ph]
   by_cases hn:B1 l=[45,48]
   ·rw[AZ hn]at en hbf
    have hb:bf=true:=by rw[hbf];rfl
    subst hb;refine AE (Ad kF en) ?_;refine AE (At kF kT en) ?_;exact⟨trivial,_,trivial,AL⟩
   ·rw[Ah hn]at en hbf
    rcases hs:Cu l with _|_
    ·rw[hs]at hbf
     have hb:bf=false:=by rw[hbf];rfl
     subst hb;refine AE (Ad kF en) ?_;refine AE (BZ kF kT en hs) ?_;refine AE (BZ kF kT en hs) ?_;exact⟨trivial,_,trivial,AL⟩
    ·rw[hs]at hbf
     refine AE (Ad kF en) ?_;refine AE (At kF en hs) ?_;refine Ny hs ?_;refine BE.same _ p2 AI ?_;refine An ?_;rcases hq:C8 (BY l)with _|_
     ·rw[hq]at hbf
      have hb:bf=true:=by rw[hbf];rfl
      subst hb;refine AE (At kF kT hq) ?_;refine AE (At kF kT hq) ?_;refine AE (At kF kT hq) ?_;exact⟨trivial,_,trivial,AL⟩
     ·rw[hq]at hbf
      refine AE hq ?_;simp only[Ph];refine AE kF ?_
      by_cases h0:BY l=[48]
      ·rw[AZ h0]at e0 hbf
       have hb:bf=true:=by rw[hbf];rfl
       subst hb;simp only[e0,imp_self];refine AE kT ?_;refine IQ rfl rfl rfl (by simp only[SN]) (by simp) (IV (λ_ _=>rfl) ?_);refine AE kF ?_;exact⟨trivial,_,trivial,AL⟩
      ·rw[Ah h0]at e0 hbf
       simp only[e0];refine AE kF ?_
       by_cases h1:BY l=[49]
       ·rw[AZ h1]at e1 hbf
        have hb:bf=true:=by rw[hbf];rfl
        subst hb;simp only[e1];exact⟨trivial,_,trivial,AL⟩
       ·rw[Ah h1]at e1 hbf
        have hb:bf=false:=by rw[hbf];rfl
        subst hb;simp only[e1];exact⟨trivial,_,trivial,AL⟩
 rintro n -;cases bf with
 |true=>
  rw[AH rfl];refine AM ?_;refine sR 400 ?_;refine Ak ?_;exact AK rfl AA.out
 |false=>
  rw[AF (by simp)];have hbf:=hbf.symm;simp only[JT,Bv,Bool.and_eq_false_iff]at hbf;obtain⟨⟨hp,hn⟩,hd⟩:=hbf;refine AM ?_;refine Ao ?_;have hsd:=(KZ hp).2;refine AC.seq ?_;refine Cz (α:=Nat) (λn=>⟨[(4,str (sb (BY l))),(5,As (Cu l)),(6,str (sb (B3 l))),(47,As (decide (600<(B3 l).length\/600<(BY l).length)))],[],n⟩) (λ_=>True) ?_ ?_
  ·by_cases hA:600<(B3 l).length
   ·have ea:decide (((sb (B3 l)).size:Int)>600)=true:=AZ (by rw[z1];omega)
    have eb:decide (600<(B3 l).length\/600<(BY l).length)=true:=AZ (Or.inl hA);rw[eb];refine Ap w1 500 (by kernel_rfl) ?_;refine AV ea ?_;refine AE kT ?_;exact⟨trivial,_,trivial,AL⟩
   ·have ea:decide (((sb (B3 l)).size:Int)>600)=false:=Ah (by rw[z1];omega)
    have eb:decide (((sb (BY l)).size:Int)>600)=decide (600<(B3 l).length\/600<(BY l).length):=by
     rw[C5,z2];omega
    refine Ap w1 500 (by kernel_rfl) ?_;refine AV ea ?_;refine AE kF ?_;simp only[eb];exact⟨trivial,_,trivial,AL⟩
  rintro n -
  by_cases hL:600<(B3 l).length\/600<(BY l).length
  ·rw[AZ hL,AH hL]
   refine AM ?_;refine sR 600 ?_;refine Ak ?_;exact AK rfl AA.out
  ·rw[Ah hL,AF hL]
   refine AM ?_;refine Ao ?_;refine AC.seq ?_;refine sR 700 ?_;rcases hs:Cu l with _|_
   ·rw[AF (by simp)]
    refine AM ?_;refine Ao ?_;refine sR 1100 ?_;refine Ak ?_;exact AK rfl AA.out
   ·rw[hs]at hd
    have hd':=hd.resolve_left (by simp);have hdd:=(KZ hd'.1.1).2;have r1:=Qv (B3 l) (by rw[KW hsd];exact hsd) hsl;have r2:=Qv (BY l) (by rw[KW hdd];exact hdd) hdl;rw[M7 hsd]at r1;rw[M7 hdd]at r2;have l1:(Af (dv (B3 l))).length<=100000:=BR (Mi (GS _ hsd)) hsl;have l2:(Af (dv (BY l))).length<=100000:=BR (Mi (GS _ hdd)) hdl;have cg:=eV (AX (dv (B3 l):Int)) (AX (dv (BY l):Int)) (Cj _) (Cj _) (IS (by omega)) (IS (by omega));rw[Dq,Dq,ET,ET]at cg;have cs:=pU (Nat.gcd (dv (B3 l)) (dv (BY l)));obtain⟨g,hg0⟩:∃g,g=Nat.gcd (dv (B3 l)) (dv (BY l)):=⟨_,rfl⟩
    rw[<-hg0]at cg cs;simp only[<-hg0];have hpa:AA (AX (dv (B3 l):Int)).w:=AI;have hpb:AA (AX (dv (BY l):Int)).w:=AI;have hpg:AA (AX (g:Int)).w:=AI;dsimp only[GI.D]at r1 r2 cg cs;refine AM ?_;refine sR 800 ?_;refine cI r1 ?_;refine cI r2 ?_;refine cI cg ?_;refine cI cs ?_;refine Cz (α:=Nat) (λn=>⟨[(63,As (decide (g≠1)))],[],n⟩) (λ_=>True) ?_ ?_
    ·by_cases hg:Sm (g:Int)
     ·obtain⟨a1,a2⟩:=SB hg
      have eg:=vQ g;rw[a1,AZ hg];refine rI 900 ?_;simp only[Ph];refine AE kF ?_;simp only[eg];exact⟨trivial,_,trivial,AL⟩
     ·have eg:decide (g≠1)=true:=AZ λh=>hg (by rw[h];exact⟨by decide,by decide⟩)
      rw[eg,Ah hg];refine rI 900 ?_;simp only[SN];refine AE kT ?_;exact⟨trivial,_,trivial,AL⟩
    rintro n -
    by_cases hg:g=1
    ·rw[Ah (λh=>h hg),AF (λh=>h.2 hg)]
     refine AM ?_;refine Ao ?_;refine sR 1100 ?_;refine Ak ?_;exact AK rfl AA.out
    ·rw[AZ hg,AH ⟨trivial,hg⟩]
     refine AM ?_;refine sR 1000 ?_;refine Ak ?_;exact AK rfl AA.out
abbrev RB:Nat:=1000000000
def Aa (n:Nat):List Nat:=if _h:n=0 then[]else(n%RB)::Aa (n/RB)
termination_by n
decreasing_by exact IE (D8 _h) (by decide)
def AO:List Nat->Nat
 | []=>0
 |a::l=>a+RB*AO l
def Rd (l:List Nat):Prop:=∀a∈l,a<RB
theorem Gp:Aa 0=[]:=by unfold Aa;rfl
theorem I5 {n:Nat}(h:n≠0):Aa n=(n%RB)::Aa (n/RB):=by rw[Aa,dif_neg h]
theorem Eg (n:Nat):Rd (Aa n):=by
 induction n using Nat.strongRecOn with
 |ind n ih=>
  by_cases h:n=0
  ·subst h;rw[Gp];intro a ha;cases ha
  ·rw[I5 h]
   intro a ha;rcases BA.1 ha with rfl|ha
   ·exact B4 _ (by decide)
   ·exact ih _ (IE (D8 h) (by decide)) a ha
theorem EA (n:Nat):AO (Aa n)=n:=by
 induction n using Nat.strongRecOn with
 |ind n ih=>
  by_cases h:n=0
  ·subst h;rw[Gp];rfl
  ·rw[I5 h,AO,ih _ (IE (D8 h) (by decide))]
   exact Er n RB
theorem Jd (l m:List Nat):AO (l++m)=AO l+RB^l.length*AO m:=by
 induction l with
 |nil=>simp[AO]
 |cons a l ih=>
  simp only[Em,AO,ih,Bp,CN,BN];rw[BS (RB^l.length) RB,Bz,Ed]
theorem Rd.tail {a:Nat}{l:List Nat}(h:Rd (a::l)):Rd l:=λb hb=>h b (CF _ hb)
theorem Rd.head {a:Nat}{l:List Nat}(h:Rd (a::l)):a<RB:=h a CA
theorem Rd.append {l m:List Nat}(h:Rd l)(k:Rd m):Rd (l++m):=λa ha=>(List.mem_append.1 ha).elim (h a) (k a)
theorem Rd.take {l:List Nat}(h:Rd l)(n:Nat):Rd (l.take n):=λa ha=>h a (FX ha)
theorem GL:∀ {l:List Nat},Rd l->AO l<RB^l.length
 | [],_=>by simp[AO]
 |a::l,h=>by
  have h1:=GL h.tail;have h2:=h.head;rw[AO,Bp,CN]
  calc a+RB*AO l<RB+RB*AO l:=by omega
   _=RB*(AO l+1):=by rw[BN,EG,LO]
   _<=RB*RB^l.length:=Cc _ h1
   _=_:=BS _ _
theorem Wt:∀ {l:List Nat},Rd l->(∀a∈l.getLast?,a≠0)->Aa (AO l)=l
 | [],_,_=>Gp
 | [a],h,hl=>by
  have ha:a≠0:=hl a (by simp);have hb:=h.head;rw[show AO [a]=a from by simp[AO],I5 ha,Dj hb,HZ hb,Gp]
 |a::b::l,h,hl=>by
  have ih:=Wt h.tail (λx hx=>hl x (by simpa using hx));have hb:=h.head;have hv:AO (b::l)≠0:=by
   intro h0;rw[h0,Gp]at ih;cases ih
  have e1:AO (a::b::l)%RB=a:=by rw[AO,SO,Dj hb]
  have e2:AO (a::b::l)/RB=AO (b::l):=by
   rw[AO,SU _ _ (by decide),HZ hb,BV]
  have hne:AO (a::b::l)≠0:=by
   intro h0;rw[h0]at e2;exact hv (by rw[<-e2];rfl)
  rw[I5 hne,e1,e2,ih]
theorem WV:∀(k:Nat),AO (List.replicate k 0)=0
 | 0=>rfl
 |k+1=>by rw[List.replicate_succ,AO,WV k,Eb]
theorem I1 (b:Nat):∀a,b<=a->(Aa b).length<=(Aa a).length:=by
 induction b using Nat.strongRecOn with
 |ind b ih=>
  intro a h
  by_cases hb:b=0
  ·subst hb;rw[Gp];exact BX _
  ·rw[I5 hb,I5 (n:=a) (by omega),Bp,Bp]
   exact Nat.succ_le_succ (ih _ (IE (D8 hb) (by decide)) _ (Nat.div_le_div_right h))
theorem WL {a b:Nat}(h:(Aa a).length<(Aa b).length):a<b:=by
 rcases BI a b with h1|h1
 ·exact h1
 ·have:=I1 b a h1;omega
theorem OH {l:List Nat}{k a:Nat}(h:l[k]?=some a):AO l=AO (l.take k)+RB^k*(a+RB*AO (l.drop (k+1))):=by
 have hk:k<l.length:=(List.getElem?_eq_some_iff.1 h).1
 conv=>lhs;rw[<-E8 k l]
 rw[Jd,Bb,FC (by omega)]
 have:l.drop k=a::l.drop (k+1):=by
  rw[EU hk]
  congr 1
  exact(List.getElem?_eq_some_iff.1 h).2
 rw[this,AO]
theorem WU {l m:List Nat}{k a b:Nat}(hl:Rd l)(ha:l[k]?=some a)(hb:m[k]?=some b)(hd:l.drop (k+1)=m.drop (k+1))(hab:a<b):AO l<AO m:=by
 have hk:k<l.length:=(List.getElem?_eq_some_iff.1 ha).1;rw[OH ha,OH hb,hd];have h1:=GL (hl.take k);rw[Bb,FC (by omega)]at h1;generalize AO (m.drop (k+1))=r;have h2:RB^k*(a+RB*r)+RB^k<=RB^k*(b+RB*r):=by
  rw[<-Nat.mul_succ];exact Cc _ (by omega)
 omega
theorem HH {l:List Nat}{i a:Nat}(hi:l.length=i):AO (l++[a])=AO l+RB^i*a:=by rw[Jd,hi];simp[AO]
theorem Rd.set {l:List Nat}(h:Rd l){i a:Nat}(ha:a<RB):Rd (l.set i a):=λb hb=>by
 rcases Nj hb with h1|rfl
 ·exact h b h1
 ·exact ha
theorem S5 (n:Nat):Rd (List.replicate n 0):=λa ha=>by rw[Pr ha];decide
theorem OJ:∀ {l:List Nat} {k o d:Nat},l[k]?=some o->AO (l.set k d)+RB^k*o=AO l+RB^k*d
 |a::l,0,o,d,h=>by
  simp only[SP,BM]at h;subst h;simp only[List.set_cons_zero,AO,MX,JV];omega
 |a::l,k+1,o,d,h=>by
  simp only[KI]at h;have ih:=OJ (d:=d) h;simp only[List.set_cons_succ,AO];have h1:RB^(k+1)*o=RB*(RB^k*o):=by rw[CN,BS (RB^k) RB,Bz]
  have h2:RB^(k+1)*d=RB*(RB^k*d):=by rw[CN,BS (RB^k) RB,Bz]
  have h3:RB*AO (l.set k d)+RB*(RB^k*o)=RB*AO l+RB*(RB^k*d):=by rw[<-BN,<-BN,ih]
  omega
theorem LY {n k:Nat}(h:n<RB^k):(Aa n).length<=k:=by
 induction k generalizing n with
 |zero=>
  have:n=0:=by simpa using h
  subst this;rw[Gp];exact Ai _
 |succ k ih=>
  by_cases h0:n=0
  ·subst h0;rw[Gp];exact BX _
  ·rw[I5 h0,Bp]
   exact Nat.succ_le_succ (ih (E9 (by rw[BS,<-CN];exact h)))
theorem I3 (n:Nat):n<RB^(Aa n).length:=by
 have:=GL (Eg n)
 rwa [EA]at this
theorem Wq (a b:Nat):(Aa (a+b)).length<=max (Aa a).length (Aa b).length+1:=by
 refine LY ?_;have h1:=I3 a;have h2:=I3 b;have m1:RB^(Aa a).length<=RB^max (Aa a).length (Aa b).length:=FY (by decide) (Nat.le_max_left _ _);have m2:RB^(Aa b).length<=RB^max (Aa a).length (Aa b).length:=FY (by decide) (Nat.le_max_right _ _);rw[CN];generalize RB^max (Aa a).length (Aa b).length=q at*;unfold RB;omega
theorem Ws (a b:Nat):(Aa (a-b)).length<=(Aa a).length:=I1 _ _ (Nat.sub_le _ _)
theorem Sr (a b:Nat):(Aa (a*b)).length<=(Aa a).length+(Aa b).length:=by
 refine LY ?_;rw[GC];exact Nat.mul_lt_mul'' (I3 a) (I3 b)
theorem P8 {n:Nat}(h0:n≠0)(h:n<RB):Aa n=[n]:=by
 rw[I5 h0,Dj h,HZ h,Gp]
theorem Uy {l:List Nat}{k a:Nat}(hl:l.length=k+1)(ha:l[k]?=some a):AO l=AO (l.take k)+RB^k*a:=by
 rw[OH ha,Hb (by omega)];simp[AO]
theorem vA {l:List Nat}{k a b:Nat}(hl:l.length=k+2)(ha:l[k]?=some a)(hb:l[k+1]?=some b):AO l=AO (l.take k)+RB^k*(a+RB*b):=by
 rw[OH ha]
 have:l.drop (k+1)=[b]:=by
  rw[EU (by omega),Hb (by omega)]
  congr 1
  exact(List.getElem?_eq_some_iff.1 hb).2
 rw[this];simp[AO]
theorem vB {l:List Nat}{k a b c:Nat}(hl:l.length=k+3)(ha:l[k]?=some a)(hb:l[k+1]?=some b)(hc:l[k+2]?=some c):AO l=AO (l.take k)+RB^k*(a+RB*(b+RB*c)):=by
 rw[OH ha];have h1:=Uy (l:=l.drop (k+1)) (k:=1) (a:=c) (by rw[Dv];omega) (by rw[Hc,Ed];exact hc);have h2:(l.drop (k+1)).take 1=[b]:=by
  rw[EU (by omega)];simp only[List.take_succ_cons,LN]
  congr 1
  exact(List.getElem?_eq_some_iff.1 hb).2
 rw[h1,h2];simp[AO]
structure K4 (P v:List Nat)(m p0 p1 p2 v2 v1:Nat):Prop where
 lP:P.length=m+3
 lv:v.length=m+2
 wP:Rd P
 wv:Rd v
 h0:P[m]?=some p0
 h1:P[m+1]?=some p1
 h2:P[m+2]?=some p2
 g2:v[m]?=some v2
 g1:v[m+1]?=some v1
 top:0<v1
 less:AO P<AO v*RB
namespace K4
variable {P v:List Nat} {m p0 p1 p2 v2 v1:Nat} (S:K4 P v m p0 p1 p2 v2 v1)
include S
theorem valP:AO P=AO (P.take m)+RB^m*(p0+RB*(p1+RB*p2)):=vB S.lP S.h0 S.h1 S.h2
theorem valv:AO v=AO (v.take m)+RB^m*(v2+RB*v1):=vA S.lv S.g2 S.g1
theorem lowP:AO (P.take m)<RB^m:=by
 have:=GL (S.wP.take m)
 rwa [Bb,FC (by have:=S.lP;omega)]at this
theorem lowv:AO (v.take m)<RB^m:=by
 have:=GL (S.wv.take m)
 rwa [Bb,FC (by have:=S.lv;omega)]at this
theorem p0l:p0<RB:=S.wP _ (Aw S.h0)
theorem p1l:p1<RB:=S.wP _ (Aw S.h1)
theorem p2l:p2<RB:=S.wP _ (Aw S.h2)
theorem v1l:v1<RB:=S.wv _ (Aw S.g1)
theorem v2l:v2<RB:=S.wv _ (Aw S.g2)
theorem below3:AO P<(p0+RB*(p1+RB*p2)+1)*RB^m:=by
 rw[S.valP,Bw,JV,BS (RB^m)]
 have:=S.lowP
 omega
theorem below2:AO P<(p1+RB*p2+1)*RB^(m+1):=by
 have h:=S.below3;have h1:=S.p0l;generalize p1+RB*p2=t at*;have h2:(p0+RB*t+1)*RB^m<=(RB*(t+1))*RB^m:=CM _ (by rw[BN RB t 1];omega);have h3:(t+1)*RB^(m+1)=(RB*(t+1))*RB^m:=by rw[CN,BS (RB^m) RB,<-Bz,BS (t+1) RB]
 omega
theorem abovev:v1*RB^(m+1)<=AO v:=by
 rw[S.valv,CN,BN]
 have:v1*(RB^m*RB)=RB^m*(RB*v1):=by rw[BS v1,Bz]
 omega
theorem abovev2:(v2+RB*v1)*RB^m<=AO v:=by
 rw[S.valv,BS];omega
theorem pos:0<AO v:=CZ (Hd S.top (Nat.pow_pos (by decide))) S.abovev
theorem p2v1:p2<=v1:=by
 rcases BI v1 p2 with h|h
 ·exfalso
  have e1:RB^(m+2)*p2<=AO P:=by
   rw[S.valP,BN,BN,BN]
   have:RB^(m+2)*p2=RB^m*(RB*(RB*p2)):=by rw[CN,CN,Bz,Bz]
   omega
  have e2:AO v<RB^(m+1)*(v1+1):=by
   have h1:=S.lowv;have h2:=S.v2l;have e3:RB^(m+1)*(v1+1)=RB^m*(RB*v1+RB):=by rw[CN,Bz,BN,EG]
   have e4:RB^m*(v2+RB*v1+1)<=RB^m*(RB*v1+RB):=Cc _ (by omega);rw[BN _ _ 1,EG]at e4;rw[S.valv,e3];omega
  have e5:RB^(m+1)*(v1+1)*RB=RB^(m+2)*(v1+1):=by rw[Nat.mul_right_comm,<-CN]
  have e6:RB^(m+2)*(v1+1)<=RB^(m+2)*p2:=Cc _ h;have e7:(AO v)*RB<=RB^(m+1)*(v1+1)*RB:=CM _ (KL e2)
  have:=S.less
  omega
 ·exact h
end K4
theorem iN {A P v:List Nat}{q i z x d b c b' c' lo:Nat}(hz:A[i]?=some z)(hx:v[i]?=some x)(hI:AO A+q*AO (v.take i)=AO P+RB^i*(c+b))
  (h1:lo+RB*c'=q*x+c) (h2:d+lo+b=z+RB*b'):AO (A.set i d)+q*AO (v.take (i+1))=AO P+RB^(i+1)*(c'+b'):=by
 have hs:=OJ (d:=d) hz;have hi:i<v.length:=(List.getElem?_eq_some_iff.1 hx).1;rw[FF hx,HH (i:=i) (by rw[Bb];omega),BN,Iq q,CN,Bz];have e:RB^i*(d+q*x+(c+b))=RB^i*(z+RB*(c'+b')):=by congr 1;rw[BN RB];omega
 rw[BN,BN,BN (RB^i) z]at e;omega
theorem iK {A P v:List Nat}{i z x c:Nat}(hz:A[i]?=some z)(hx:v[i]?=some x)(hI:AO A+RB^i*c=AO P+AO (v.take i)):
  AO (A.set i ((z+x+c)%RB))+RB^(i+1)*((z+x+c)/RB)=AO P+AO (v.take (i+1)):=by
 have hs:=OJ (d:=(z+x+c)%RB) hz;have hi:i<v.length:=(List.getElem?_eq_some_iff.1 hx).1;rw[FF hx,HH (i:=i) (by rw[Bb];omega),CN,Bz];have e:RB^i*((z+x+c)%RB+RB*((z+x+c)/RB))=RB^i*(z+x+c):=by rw[Er]
 rw[BN,BN,BN (RB^i) z]at e;omega
theorem jA {n k:Nat}(h1:RB^k<=n)(h2:n<RB^(k+1)):(Aa n).length=k+1:=by
 have h3:=LY h2;have h4:=Db h1 (I3 n);have h5:=(Nat.pow_lt_pow_iff_right (show 1<RB by decide)).1 h4;omega
theorem P9:∀(n:Nat) {k a:Nat},(Aa n).length=k+1->(Aa n)[k]?=some a->a≠0:=λn=>by
 induction n using Nat.strongRecOn with
 |ind n ih=>
  intro k a h1 h2
  by_cases h0:n=0
  ·subst h0;rw[Gp]at h1;cases h1
  ·rw[I5 h0]at h1 h2
   rw[Bp]at h1;have h3:=Nat.succ.inj h1;cases k with
   |zero=>
    have h4:Aa (n/RB)=[]:=En h3;have h5:n/RB=0:=by rw[<-EA (n/RB),h4];rfl
    have h6:=Er n RB;rw[h5]at h6;simp at h2;intro h7;subst h7;rw[h2]at h6;omega
   |succ k=>
    rw[KI]at h2;exact ih _ (IE (D8 h0) (by decide)) h3 h2
theorem S4 {n k:Nat}(h:(Aa n).length=k+1):RB^k<=n:=by
 obtain⟨a,ha⟩:=CU (l:=Aa n) (i:=k) (by omega);have h1:=P9 n h ha;have h2:=Uy h ha;rw[EA]at h2;have h3:=Cc (RB^k) (show 1<=a by omega);omega
theorem QF {l:List Nat}{j a:Nat}(h:l[j]?=some a):AO (l.drop j)=a+RB*AO (l.drop (j+1)):=by
 have hj:j<l.length:=(List.getElem?_eq_some_iff.1 h).1;rw[EU hj,(List.getElem?_eq_some_iff.1 h).2];rfl
theorem iv {a q:List Nat}{j x b rest:Nat}(hb:0<b)(hx:a[j]?=some x)(hj:j<q.length)(hI:AO (q.drop (j+1))*b+rest=AO (a.drop (j+1))):
  AO ((q.set j ((rest*RB+x)/b)).drop j)*b+(rest*RB+x)%b=AO (a.drop j)/\(rest*RB+x)%b<b:=by
 refine⟨?_,B4 _ hb⟩;rw[Qm hj,QF hx,<-hI,AO];have e:=Ec (rest*RB+x) b;rw[Bw,BN RB,Bz RB,BS RB rest,BS _ b];omega
structure MH (X:Nat)(v U q:List Nat)(lu lq k:Nat):Prop where
 lU:U.length=lu
 lQ:q.length=lq
 wU:Rd U
 wq:Rd q
 val:RB^k*AO (q.drop k)*AO v+AO U=X
 less:AO (U.drop k)<AO v
theorem jw {X:Nat}{v U q:List Nat}{lu lq j m:Nat}(I:MH X v U q lu lq (j+1))(hv:v.length=m+2)(wv:Rd v)(v1 v2:Nat)(h2:v[m]?=some v2)(h1:v[m+1]?=some v1)(ht:0<v1)(hj:j+(m+3)<=lu):
  ∃p0 p1 p2,K4 ((U.drop j).take (m+3)) v m p0 p1 p2 v2 v1/\AO (U.drop (j+(m+3)))=0/\AO ((U.drop j).take (m+3))=AO (U.drop j):=by
 obtain⟨lU,lQ,wU,wq,val,less⟩:=I;obtain⟨x,hx⟩:=CU (l:=U) (i:=j) (by omega);have hxl:=wU x (Aw hx);have e1:=QF hx;have hlt:AO (U.drop j)<AO v*RB:=by
  have:RB*(AO (U.drop (j+1))+1)<=RB*AO v:=Cc _ less
  rw[BN,BS RB (AO v)]at this;omega
 have hPl:((U.drop j).take (m+3)).length=m+3:=by rw[Bb,Dv];omega
 have e2:AO (U.drop j)=AO ((U.drop j).take (m+3))+RB^(m+3)*AO (U.drop (j+(m+3))):=by
  conv=>lhs;rw[<-E8 (m+3) (U.drop j)]
  rw[Jd,hPl,List.drop_drop]
 have hvl:=GL wv;rw[hv]at hvl;have hz:AO (U.drop (j+(m+3)))=0:=by
  rcases Dh (AO (U.drop (j+(m+3))))with h|h
  ·exact h
  ·exfalso
   have e3:RB^(m+3)*1<=RB^(m+3)*AO (U.drop (j+(m+3))):=Cc _ h;have e4:AO v*RB<=RB^(m+2)*RB:=CM _ (KL hvl);have e5:RB^(m+2)*RB=RB^(m+3):=(CN RB (m+2)).symm;rw[e5]at e4;omega
 rw[hz,Eb,De]at e2;obtain⟨p0,h0⟩:=CU (l:=(U.drop j).take (m+3)) (i:=m) (by omega);obtain⟨p1,h3⟩:=CU (l:=(U.drop j).take (m+3)) (i:=m+1) (by omega);obtain⟨p2,h4⟩:=CU (l:=(U.drop j).take (m+3)) (i:=m+2) (by omega);exact⟨p0,p1,p2,⟨hPl,hv,λa ha=>wU a (KK (FX ha)),wv,h0,h3,h4,h2,h1,ht,by rw[<-e2];exact hlt⟩,hz,e2.symm⟩
theorem jv {X:Nat}{v U q P':List Nat}{lu lq j m:Nat}(I:MH X v U q lu lq (j+1))(hv:0<AO v)(hj:j+(m+3)<=lu)(hjq:j<lq)(hz:AO (U.drop (j+(m+3)))=0)(hP:AO ((U.drop j).take (m+3))=AO (U.drop j))
  (h1:P'.length=m+3) (h2:Rd P') (h3:AO P'=AO ((U.drop j).take (m+3))%AO v) (hd:AO ((U.drop j).take (m+3))/AO v<RB):
  MH X v (U.take j++(P'++U.drop (j+(m+3)))) (q.set j (AO ((U.drop j).take (m+3))/AO v)) lu lq j:=by
 obtain⟨lU,lQ,wU,wq,val,less⟩:=I;have hA:(U.take j).length=j:=by rw[Bb];omega
 have e0:AO U=AO (U.take j)+RB^j*AO (U.drop j):=by
  conv=>lhs;rw[<-E8 j U]
  rw[Jd,hA]
 have e1:AO (P'++U.drop (j+(m+3)))=AO P':=by rw[Jd,hz,Eb,De]
 refine⟨?_,by rw[DF];exact lQ,?_,wq.set hd,?_,?_⟩
 ·rw[Bk,Bk,hA,h1,Dv];omega
 ·exact Rd.append (wU.take j) (Rd.append h2 λa ha=>wU a (KK ha))
 ·rw[Qm (by omega),AO,Jd,hA,e1,h3,hP]
  rw[e0]at val;have e2:=Ec (AO (U.drop j)) (AO v);have e3:RB^(j+1)*AO (q.drop (j+1))*AO v=RB^j*(RB*AO (q.drop (j+1))*AO v):=by
   rw[CN,Bz,Bz,Bz]
  rw[e3]at val;have e4:RB^j*AO (U.drop j)=RB^j*(AO v*(AO (U.drop j)/AO v))+RB^j*(AO (U.drop j)%AO v):=by
   rw[<-BN,e2]
  rw[Bz,Bw,BN,BS (AO (U.drop j)/AO v)];omega
 ·rw[List.drop_left' hA,e1,h3]
  exact B4 _ hv
set_option maxHeartbeats 2000000
abbrev Ab (n:Nat):D:=i64 (n:Int)
def rL (l:List Nat):D:=.sl false 1 (l.map Ab)
def rD (n:Nat):D:=rL (Aa n)
theorem Oo (l:List Nat):B8 (rL l):=.sl λe he d hd=>by
 obtain⟨a,_,rfl⟩:=List.mem_map.1 he;simp only[D.cells,BA,Dc,or_false]at hd;subst hd;exact .prim _
instance  (l:List Nat):AA (rL l):=⟨Oo l⟩
instance  (n:Nat):AA (rD n):=⟨Oo _⟩
theorem Ds {l:List Nat}{i a:Nat}(h:l[i]?=some a):(l.map Ab)[i]?=some (Ab a):=by rw[A7,h];rfl
theorem M5 {l:List Nat}{i a:Nat}:(l.map Ab).set i (Ab a)=(l.set i a).map Ab:=List.map_set.symm
theorem xS (c:Nat):((c:Int)==0)=decide (c=0):=by rw[Fm,EH,decide_eq_true_iff];omega
theorem T9 (m:List Nat):AO (m++[0])=AO m:=by rw[HH rfl];simp
theorem Zk {m:List Nat}{c:Nat}(h:Rd (m++[c]))(hc:c≠0):Aa (AO (m++[c]))=m++[c]:=Wt h λa ha=>by
 rw[List.getLast?_append]at ha;simp at ha;rw[<-ha];exact hc
theorem L4 (l:List Nat)(h:Rd l)(hlen:l.length<4000000000):AJ C0 214 [rL l] (rD (AO l)):=by
 refine Aj.walk w1 cZ rfl λF=>?_
 unfold rL;refine sR 0 ?_;refine AC.seq ?_;refine AC.block ?_;refine AC.loop (α:=List Nat×Nat) (λp=>⟨[(0,.sl false 1 (p.1.map Ab))],[],p.2⟩) (λp=>p.1.length)
  (λp=>AO p.1=AO l/\Rd p.1/\p.1.length<=l.length) (l,_) ⟨rfl,h,Ai _⟩ AL ?_
 rintro⟨m,n⟩ F ⟨h1,h2,h3⟩;dsimp only at h1 h2 h3⊢;refine AC.seq ?_;refine AC.seq ?_;rcases SR m with rfl|⟨m,c,rfl⟩
 ·have e1:decide (((0:Nat):Int)>0)=false:=rfl
  refine Ap w1 100 (by kernel_rfl) ?_;refine AV e1 ?_;refine AE e1 ?_;refine AM ?_;refine CC ?_;refine sR 300 ?_;refine Ak ?_;refine AK (d0:=rL []) ?_ AA.out;rw[<-h1];unfold rD;rw[show AO []=0 from rfl,Gp]
 ·rw[SQ]at h1 h2 h3⊢
  have el:((((m++[c]).map Ab).length:Nat):Int)=((m.length+1:Nat):Int):=by rw[Am,Bk];rfl
  rw[Bk,Gj]at h3;have e1:decide (((m.length+1:Nat):Int)>0)=true:=AZ (by omega);have wk:IntKind.i64.wrap (((m.length+1:Nat):Int)-1)=(m.length:Int):=by rw[wI (by omega) (by omega)];omega
  have wraw:IntKind.i64.wrap (((((m++[c]).map Ab).length:Nat):Int)-1)=(m.length:Int):=by rw[el,wk]
  have hx:((m++[c]).map Ab)[m.length]?=some (Ab c):=Ds (by simp);have ec:=xS c;refine Ap w1 100 (by kernel_rfl) ?_;refine AV (Ad el e1) ?_;refine AE (CO e1 wraw el wk kN) ?_;refine Bs e1 hx ?_;refine AE (CO e1 wraw el wk ec) ?_
  by_cases hc:c=0
  ·rw[AZ hc]
   subst hc;have e4:List.take (m.length-0) (List.drop 0 ((m++[0]).map Ab))=m.map Ab:=by simp
   have e5:List.take m.length ((m++[0]).map Ab)=m.map Ab:=by simp
   rw[T9]at h1;refine AM ?_;refine Ao ?_;refine AC.block ?_;refine Ap w1 200 (by kernel_rfl) ?_;refine AV (CO el wk wraw kN e4) ?_;exact⟨(m,_),⟨h1,λa ha=>h2 a (IF _ ha),by dsimp only;omega⟩,by dsimp only;rw[Bk,Gj];omega,AL⟩
  ·rw[Ah hc]
   refine AM ?_;refine CC ?_;refine sR 300 ?_;refine Ak ?_;refine AK (d0:=rL (m++[c])) ?_ AA.out;unfold rD;rw[<-h1,Zk h2 hc]
theorem UL (l:List Nat)(i:Nat)(hlen:l.length<4000000000)(hi:i<4000000000):AJ C0 254 [rL l,Ab i] (Ab (l.getD i 0)):=by
 refine Aj.walk w1 uD rfl λF=>?_
 unfold rL;have el:(((l.map Ab).length:Nat):Int)=(l.length:Int):=by rw[Am]
 refine sR 0 ?_;refine AC.seq ?_;refine AC.seq ?_
 by_cases h:i<l.length
 ·have e1:decide ((i:Int)<(l.length:Int))=true:=AZ (by omega)
  obtain⟨a,ha⟩:=CU h;have hx:=Ds ha;have eg:l.getD i 0=a:=by rw[Dw,ha];rfl
  rw[eg];refine Ap w1 100 (by kernel_rfl) ?_;refine AV (Ad el e1) ?_;refine AM ?_;refine sZ 200 ?_;refine AE kN ?_;refine Bs kT hx ?_;refine AE kN ?_;refine Ak ?_;exact AK rfl AA.out
 ·have e1:decide ((i:Int)<(l.length:Int))=false:=Ah (by omega)
  have eg:l.getD i 0=0:=by rw[Dw,Dk (by omega)];rfl
  rw[eg];refine Ap w1 100 (by kernel_rfl) ?_;refine AV (Ad el e1) ?_;refine AM ?_;refine Ao ?_;refine sR 300 ?_;refine Ak ?_;exact AK rfl AA.out
theorem Ru (a b:Nat)(ha:(Aa a).length<4000000000)(hb:(Aa b).length<4000000000):AJ C0 212 [rD a,rD b] (i64 (D4 a b)):=by
 refine Aj.walk w1 sI rfl λF=>?_
 have hwa:=Eg a;have hwb:=Eg b;have va:=EA a;have vb:=EA b;have hlt:=@WL a b;have hgt:=@WL b a;unfold rD rL D4;generalize Aa a=la at*;generalize Aa b=lb at*;have ea:(((la.map Ab).length:Nat):Int)=(la.length:Int):=by rw[Am]
 have eb:(((lb.map Ab).length:Nat):Int)=(lb.length:Int):=by rw[Am]
 refine sR 0 ?_;refine AC.seq ?_;refine sZ 100 ?_;refine AV (Ad ea eb) ?_;refine AM ?_
 (refine By (λh10=>?_) (λh10=>?_))<;>(try simp only[Bi,Bv]at h10)<;>(try simp only[h10])
 ·have hne:la.length≠lb.length:=by
   have:(la.length:Int)≠lb.length:=by simpa using h10
   omega
  refine AC.seq ?_;refine sZ 200 ?_;refine AV (Ad ea eb) ?_;refine AM ?_
  (refine By (λh15=>?_) (λh15=>?_))<;>(try simp only[Bi,Bv]at h15)<;>(try simp only[h15])
  ·have h1:la.length<lb.length:=by
    have:(la.length:Int)<lb.length:=by simpa using h15
    omega
   rw[AH (by have:=hlt h1;omega)];refine sR 300 ?_;refine Ak ?_;exact AK rfl AA.out
  ·have h1:lb.length<la.length:=by
    have:¬(la.length:Int)<lb.length:=by simpa using h15
    omega
   have h2:=hgt h1;rw[AF (by omega),AH (by omega)];refine Ao ?_;refine sR 400 ?_;refine Ak ?_;exact AK rfl AA.out
 ·have hl:la.length=lb.length:=by
   have:(la.length:Int)=lb.length:=by simpa using h10
   omega
  clear hlt hgt;refine Ao ?_;refine AC.seq ?_;refine sZ 500 ?_;refine AV ea ?_;refine AC.block ?_;have w0:IntKind.i64.wrap ((la.length:Int)-1)=(la.length:Int)-1:=wI (by omega) (by omega);rw[w0];refine AC.loop (α:=Nat×Nat) (λp=>⟨[(0,.sl false 1 (la.map Ab)),(1,.sl false 1 (lb.map Ab)),(5,i64 ((p.1:Int)-1))],[],p.2⟩) (λp=>p.1)
   (λp=>p.1<=la.length/\la.drop p.1=lb.drop p.1) (la.length,_) ⟨Ai _,by rw[JX,hl,JX]⟩ AL ?_
  rintro⟨k,m⟩ F ⟨h1,h2⟩;dsimp only at h1 h2⊢;refine AC.seq ?_;refine sR 600 ?_;refine AM ?_
  (refine By (λh20=>?_) (λh20=>?_))<;>(try simp only[Bi,Bv]at h20)<;>(try simp only[h20])
  ·obtain⟨j,rfl⟩:∃j,k=j+1:=⟨k-1,by
    have:(k:Int)-1>=0:=by simpa using h20
    omega⟩
   have wj:((j+1:Nat):Int)-1=(j:Int):=by omega
   obtain⟨x,hx⟩:∃x,la[j]?=some x:=⟨la[j],BG (by omega)⟩
   obtain⟨y,hy⟩:∃y,lb[j]?=some y:=⟨lb[j],BG (by omega)⟩
   have hx':=Ds hx;have hy':=Ds hy;rw[wj];refine Ao ?_;refine AC.seq ?_;refine AC.block ?_;refine AC.seq ?_;refine AC.seq ?_;refine B9 w1 800 [0,1,2,3,4,5,6,7] [8] (by kernel_rfl) ?_;refine AE kN ?_;refine Bs kT hx' ?_;refine AE kN ?_;refine Bs kT hy' ?_;refine AE kN ?_;refine AE kN ?_;refine AM ?_
   (refine By (λh31=>?_) (λh31=>?_))<;>(try simp only[Bi,Bv]at h31)<;>(try simp only[h31])
   ·have hxy:x<y:=by
     have:=C6 h31
     omega
    have:=WU hwa hx hy h2 hxy
    rw[AH (by omega)];refine sR 900 ?_;refine Ak ?_;exact AK rfl AA.out
   ·have hxy0:¬x<y:=by
     have:=DP h31
     omega
    refine Ao ?_;refine AC.seq ?_;refine B9 w1 1000 [0,1,2,3,4,5,6,7] [8] (by kernel_rfl) ?_;refine AE kN ?_;refine Bs kT hx' ?_;refine AE kN ?_;refine Bs kT hy' ?_;refine AE kN ?_;refine AE kN ?_;refine AM ?_
    (refine By (λh40=>?_) (λh40=>?_))<;>(try simp only[Bi,Bv]at h40)<;>(try simp only[h40])
    ·have hxy:y<x:=by
      have:=C6 h40
      omega
     have:=WU hwb hy hx h2.symm hxy
     rw[AF (by omega),AH (by omega)];refine sR 1100 ?_;refine Ak ?_;exact AK rfl AA.out
    ·have hxy:x=y:=by
      have:=DP h40
      omega
     subst hxy;have w5:IntKind.i64.wrap ((j:Int)-1)=(j:Int)-1:=wI (by omega) (by omega);refine Ao ?_;refine Ap w1 700 (by kernel_rfl) ?_;refine AV w5 ?_;have hj:=(List.getElem?_eq_some_iff.1 hx)
     have hj':=(List.getElem?_eq_some_iff.1 hy)
     refine⟨(j,_),⟨by dsimp only;omega,?_⟩,by dsimp only;omega,AL⟩;dsimp only;rw[EU hj.1,EU hj'.1,hj.2,hj'.2,h2]
  ·have hk:k=0:=by
    have:¬((k:Int)-1>=0):=by simpa using h20
    omega
   subst hk;have hab:a=b:=by
    rw[<-va,<-vb]
    have:la=lb:=by simpa using h2
    rw[this]
   subst hab;rw[AF (by omega),AF (by omega)];refine CC ?_;refine sR 1200 ?_;refine Ak ?_;exact AK rfl AA.out
theorem Sz (l:List Nat)(i:Nat):AO (l.take (i+1))=AO (l.take i)+RB^i*l.getD i 0:=by
 by_cases h:i<l.length
 ·obtain⟨a,ha⟩:=CU h
  rw[FF ha,HH (i:=i) (by rw[Bb];omega),Dw,ha];rfl
 ·rw[CE (by omega),CE (by omega),Dw,Dk (by omega)]
  simp
theorem TY {l:List Nat}(h:Rd l)(i:Nat):l.getD i 0<RB:=by
 by_cases hi:i<l.length
 ·obtain⟨a,ha⟩:=CU hi
  rw[Dw,ha];exact h a (Aw ha)
 ·rw[Dw,Dk (by omega)];decide
theorem X3 (l:List Nat)(i:Nat):AO (l.take i)<=AO l:=by
 conv=>rhs;rw[<-E8 i l]
 rw[Jd];exact Nat.le_add_right _ _
theorem W3 {a i:Nat}(h:i<(Aa a).length):RB^i<=a:=by
 obtain⟨k,hk⟩:∃k,(Aa a).length=k+1:=⟨(Aa a).length-1,by omega⟩
 exact BR (FY (by decide) (by omega)) (S4 hk)
structure Ov (a b:Nat)(i c:Nat)(out:List Nat):Prop where
 len:out.length=i
 wd:Rd out
 c1:c<=1
 val:AO out+RB^i*c=AO ((Aa a).take i)+AO ((Aa b).take i)
 can:i=0\/RB^(i-1)<=a+b
theorem m8 {a b i c:Nat}{out:List Nat}(I:Ov a b i c out)(h:i<(Aa a).length\/i<(Aa b).length\/0<c):
  Ov a b (i+1) (((Aa a).getD i 0+(Aa b).getD i 0+c)/RB) (out++[((Aa a).getD i 0+(Aa b).getD i 0+c)%RB])/\(Aa a).getD i 0+(Aa b).getD i 0+c<2*RB:=by
 obtain⟨len,wd,c1,val,can⟩:=I;have h1:=TY (Eg a) i;have h2:=TY (Eg b) i;have hs:(Aa a).getD i 0+(Aa b).getD i 0+c<2*RB:=by omega
 have e1:=Sz (Aa a) i;have e2:=Sz (Aa b) i;have ta:=X3 (Aa a) i;have tb:=X3 (Aa b) i;rw[EA]at ta tb;refine⟨⟨by rw[Bk,len];rfl,Rd.append wd λx hx=>?_,?_,?_,.inr ?_⟩,hs⟩
 ·simp only[BA,Dc,or_false]at hx
  subst hx;exact B4 _ (by decide)
 ·exact Nh (E9 (by rw[BS];exact hs))
 ·rw[HH len,e1,e2,CN,Bz]
  have e:=Er ((Aa a).getD i 0+(Aa b).getD i 0+c) RB;generalize(Aa a).getD i 0=p at*;generalize(Aa b).getD i 0=q at*;have e3:RB^i*((p+q+c)%RB+RB*((p+q+c)/RB))=RB^i*(p+q+c):=by rw[e]
  rw[BN,BN,BN (RB^i) p]at e3;omega
 ·rw[Ip]
  rcases h with h|h|h
  ·have:=W3 h;omega
  ·have:=W3 h;omega
  ·have hc:c=1:=by omega
   subst hc;rw[EG]at val;omega
theorem m7 {a b i:Nat}{out:List Nat}(I:Ov a b i 0 out)(h1:¬i<(Aa a).length)(h2:¬i<(Aa b).length):out=Aa (a+b):=by
 obtain⟨len,wd,c1,val,can⟩:=I;rw[CE (by omega),CE (by omega),EA,EA,Eb,De]at val;rcases SR out with rfl|⟨m,c,rfl⟩
 ·rw[<-val];unfold Aa;rfl
 ·rw[SQ]at*
  rw[Bk,Gj]at len;have hc:c≠0:=by
   intro hc;subst hc;rcases can with h|h
   ·omega
   ·rw[T9]at val
    have:=GL (l:=m) λx hx=>wd x (IF _ hx)
    rw[show i-1=m.length by omega]at h;omega
  rw[<-val,Zk wd hc]
theorem vf (a b:Nat)(ha:(Aa a).length<1000000)(hb:(Aa b).length<1000000):AJ C0 221 [rD a,rD b] (rD (a+b)):=by
 refine Aj.walk w1 sQ rfl λF=>?_
 have hT:Fz [] [] (rD a) (rD a):=.refl _;change AC C0 F none F _ ⟨DM 0 [.sl false 1 ((Aa a).map Ab),.sl false 1 ((Aa b).map Ab)],[],0⟩ _;have ea:((((Aa a).map Ab).length:Nat):Int)=((Aa a).length:Int):=by rw[Am]
 have eb:((((Aa b).map Ab).length:Nat):Int)=((Aa b).length:Int):=by rw[Am]
 have I0:Ov a b 0 0 []:=⟨rfl,(λx hx=>Ae hx Dc),BX _,by simp[AO],.inl rfl⟩
 refine sR 0 ?_;refine sR 100 ?_;refine sR 200 ?_;refine AC.seq ?_;refine sR 300 ?_;refine AC.block ?_;refine AC.loop (α:=Nat×Nat×List Nat×List D×Nat×Nat) (λp=>⟨[(0,.sl false 1 ((Aa a).map Ab)),(1,.sl false 1 ((Aa b).map Ab)),(5,D3 704 p.2.2.2.2.1 1 p.2.2.2.1),(6,Ab p.2.1),(7,Ab p.1)],Dt 704 p.2.2.2.2.1 3 1 p.2.2.2.1,p.2.2.2.2.2⟩)
  (λp=>(max (Aa a).length (Aa b).length-p.1)*2+p.2.1) (λp=>Ov a b p.1 p.2.1 p.2.2.1/\p.2.2.2.1=p.2.2.1.map Ab/\p.1<=max (Aa a).length (Aa b).length+1) (0,0,[],[],0,_) ⟨I0,rfl,BX _⟩ AL ?_
 rintro⟨i,c,out,L,g,n⟩ F ⟨I,hL,hi⟩;dsimp only at I hL hi⊢;have c1:=I.c1;have hol:=I.len;refine AC.seq ?_;refine Cz (α:=Nat) (λn=>⟨[(0,.sl false 1 ((Aa a).map Ab)),(1,.sl false 1 ((Aa b).map Ab)),(5,D3 704 g 1 L),(6,Ab c),(7,Ab i),(22,As (decide (i<(Aa a).length\/i<(Aa b).length\/0<c)))],Dt 704 g 3 1 L,n⟩) (λ_=>True) ?_ ?_
 ·generalize D3 704 g 1 L=od at*
  generalize Dt 704 g 3 1 L=oh at*
  by_cases h1:i<(Aa a).length
  ·have e1:decide ((i:Int)<((Aa a).length:Int))=true:=AZ (by omega)
   have e:decide (i<(Aa a).length\/i<(Aa b).length\/0<c)=true:=AZ (.inl h1);rw[e];refine Ap w1 400 (by kernel_rfl) ?_;refine AV (Ad ea e1) ?_;refine AE kT ?_;refine AE kT ?_;exact⟨trivial,_,trivial,AL⟩
  ·have e1:decide ((i:Int)<((Aa a).length:Int))=false:=Ah (by omega)
   by_cases h2:i<(Aa b).length
   ·have e2:decide ((i:Int)<((Aa b).length:Int))=true:=AZ (by omega)
    have e:decide (i<(Aa a).length\/i<(Aa b).length\/0<c)=true:=AZ (.inr (.inl h2));rw[e];refine Ap w1 400 (by kernel_rfl) ?_;refine AV (Ad ea e1) ?_;refine AE kF ?_;simp only[eb,e2];refine AE kT ?_;exact⟨trivial,_,trivial,AL⟩
   ·have e2:decide ((i:Int)<((Aa b).length:Int))=false:=Ah (by omega)
    have e:decide ((c:Int)>0)=decide (i<(Aa a).length\/i<(Aa b).length\/0<c):=by rw[C5];omega
    rw[<-e];refine Ap w1 400 (by kernel_rfl) ?_;refine AV (Ad ea e1) ?_;refine AE kF ?_;simp only[eb,e2];refine AE kF ?_;exact⟨trivial,_,trivial,AL⟩
 rintro n2 -
 by_cases h:i<(Aa a).length\/i<(Aa b).length\/0<c
 ·obtain⟨J,hs⟩:=m8 I h
  have d1:=UL (Aa a) i (by omega) (by omega);have d2:=UL (Aa b) i (by omega) (by omega);unfold rL at d1 d2;have hmu:∀c',c'<=1->(max (Aa a).length (Aa b).length<=i->c'=0)->(max (Aa a).length (Aa b).length-(i+1))*2+c'<(max (Aa a).length (Aa b).length-i)*2+c:=λc' h1 h2=>by
   rcases BI i (max (Aa a).length (Aa b).length)with h3|h3
   ·omega
   ·have:=h2 h3;omega
  have hmu2:max (Aa a).length (Aa b).length<=i->((Aa a).getD i 0+(Aa b).getD i 0+c)/RB=0:=λh3=>by
   rw[Dw,Dk (by omega),Dw,Dk (by omega)];show(0+0+c)/1000000000=0;omega
  have hbnd:i<max (Aa a).length (Aa b).length+1:=by
   rcases h with h|h|h
   ·omega
   ·omega
   ·rcases BI i (max (Aa a).length (Aa b).length+1)with h3|h3
    ·exact h3
    ·exfalso
     obtain⟨len,wd,_,val,_⟩:=I;have hc:c=1:=by omega
     subst hc;rw[CE (by omega),CE (by omega),EA,EA,EG]at val;have l1:=I3 a;have l2:=I3 b;have m1:RB^(Aa a).length<=RB^max (Aa a).length (Aa b).length:=FY (by decide) (Nat.le_max_left _ _);have m2:RB^(Aa b).length<=RB^max (Aa a).length (Aa b).length:=FY (by decide) (Nat.le_max_right _ _);have m3:RB^(max (Aa a).length (Aa b).length+1)<=RB^i:=FY (by decide) h3;rw[CN]at m3;generalize RB^max (Aa a).length (Aa b).length=Q at*;change Q*1000000000<=_ at m3;omega
  have hmu3:=hmu _ J.c1 hmu2;rw[AZ h];generalize hp:(Aa a).getD i 0=p at*;generalize hq:(Aa b).getD i 0=q at*;have k1:IntKind.i64.wrap ((p:Int)+(q:Int))=((p+q:Nat):Int):=by rw[wI (by omega) (by unfold RB at hs;omega)];omega
  have k2:IntKind.i64.wrap (((p+q:Nat):Int)+(c:Int))=((p+q+c:Nat):Int):=by rw[wI (by omega) (by unfold RB at hs;omega)];omega
  have k3:((p+q+c:Nat):Int).tmod 1000000000=(((p+q+c)%RB:Nat):Int):=rfl;have k4:IntKind.i64.wrap (((p+q+c:Nat):Int).tdiv 1000000000)=(((p+q+c)/RB:Nat):Int):=by
   show IntKind.i64.wrap ((((p+q+c)/1000000000:Nat)):Int)=_;exact wN (by unfold RB at hs;omega)
  have wi:IntKind.i64.wrap ((i:Int)+1)=((i+1:Nat):Int):=wI (by omega) (by omega);generalize(p+q+c)%RB=d at*;generalize(p+q+c)/RB=c' at*;have hlo:L.length<=1000001:=by rw[hL,Am];omega
  have hmo:L++[Ab d]=(out++[d]).map Ab:=by rw[hL,DG];rfl
  clear hmu hmu2 ea eb hL I;refine AM ?_;refine Ao ?_;refine AC.seq ?_;refine AC.block ?_;refine sR 600 ?_;refine cI d1 ?_;refine cI d2 ?_;simp only[k1,k2];refine AC.seq ?_;rcases L with _|⟨x,L⟩
  all_goals
   (try simp only[Bp]at hlo)
   dsimp only[I6,I7,Hk,Hl];refine Ap w1 700 (by kernel_rfl) ?_;refine AV k3 ?_;refine Ap w1 800 (by kernel_rfl) ?_;refine AV k4 ?_;refine Ap w1 500 (by kernel_rfl) ?_;refine AV wi ?_
  ·exact⟨(i+1,c',out++[d],[]++[Ab d],_,_),⟨J,hmo,hbnd⟩,hmu3,AL⟩
  ·have htk:List.take (L.length+1) (x::L)=x::L:=by simp
   rw[htk];refine⟨(i+1,c',out++[d],x::L++[Ab d],_,_),⟨J,hmo,hbnd⟩,hmu3,by(dsimp only;rw[OC];exact AL)⟩
 ·rw[Ah h]
  have hc:c=0:=by omega
  subst hc;have hout:=m7 I (by omega) (by omega);refine AM ?_;refine CC ?_;refine sR 900 ?_;refine Ak ?_;refine⟨_,RO _ _ _ _ _,?_,?_⟩
  ·rw[hL];exact Oo _
  ·rw[hL,hout];rfl
set_option maxHeartbeats 4000000
theorem wJ {env:Au}{t K g T n:Nat}{l:List D}(he:env.get t=D3 K g 1 l:=by exact rfl):Wk ⟨env,Dt K g T 1 l,n⟩ ⟨[(t,.sl false 1 l)],[],n⟩:=by
 refine⟨?_,⟨?_,trivial⟩,Ai _⟩
 ·cases l with
  |nil=>exact .nil
  |cons x l=>exact .drop .nil
 ·dsimp only
  rw[he];exact RO _ _ _ _ _
theorem qr {env:Au}{t K g n N:Nat}{z:List Nat}{T:Nat}(hl:z.length=N)(he:env.get t=.osl K g 1 0 N:=by exact rfl):Wk ⟨env,[⟨K,g,T,1,z.map Ab⟩],n⟩ ⟨[(t,.sl false 1 (z.map Ab))],[],n⟩:=by
 subst hl;refine⟨.drop .nil,⟨?_,trivial⟩,Ai _⟩;dsimp only;rw[he]
 have:=RP K g T 1 (z.map Ab)
 rwa [Am]at this
theorem jB {a v c:Nat}(ha:a<RB)(hv:v<RB)(hc:c<=1):∃d c',d<RB/\c'<=1/\d+v+c=a+RB*c'/\((c'=0/\(a:Int)-v-c=d)\/(c'=1/\(a:Int)-v-c<0/\(a:Int)-v-c+1000000000=d)):=by
 unfold RB at ha hv⊢
 by_cases h:a<v+c
 ·exact⟨a+1000000000-v-c,1,by omega,by omega,by omega,.inr ⟨rfl,by omega,by omega⟩⟩
 ·exact⟨a-v-c,0,by omega,by omega,by omega,.inl ⟨rfl,by omega⟩⟩
theorem gD (a b:Nat)(hab:b<=a)(ha:(Aa a).length<1000000):AJ C0 222 [rD a,rD b] (rD (a-b)):=by
 refine Aj.walk w1 sS rfl λF=>?_
 change AC C0 F none F _ ⟨DM 0 [.sl false 1 ((Aa a).map Ab),.sl false 1 ((Aa b).map Ab)],[],0⟩ _;have hlb:=I1 b a hab;have va:=EA a;have vb:=EA b;have wx:=Eg a;have wy:=Eg b;generalize Aa a=x at*;generalize Aa b=y at*;have ea:(((x.map Ab).length:Nat):Int)=(x.length:Int):=by rw[Am]
 refine sR 0 ?_;refine sR 100 ?_;refine sR 200 ?_;refine AC.seq ?_;refine sR 300 ?_;refine AC.block ?_;refine AC.loop (α:=Nat×Nat×List Nat×List D×Nat×Nat) (λp=>⟨[(0,.sl false 1 (x.map Ab)),(1,.sl false 1 (y.map Ab)),(5,D3 1103 p.2.2.2.2.1 1 p.2.2.2.1),(6,Ab p.2.1),(7,Ab p.1)],Dt 1103 p.2.2.2.2.1 3 1 p.2.2.2.1,p.2.2.2.2.2⟩)
  (λp=>x.length-p.1) (λp=>p.1<=x.length/\p.2.1<=1/\p.2.2.1.length=p.1/\Rd p.2.2.1/\AO p.2.2.1+AO (y.take p.1)=AO (x.take p.1)+RB^p.1*p.2.1/\p.2.2.2.1=p.2.2.1.map Ab) (0,0,[],[],0,_) ⟨BX _,BX _,rfl,(λx hx=>Ae hx Dc),by simp[AO],rfl⟩ AL ?_
 rintro⟨i,c,out,L,g,n⟩ F ⟨hi,hc,hol,how,hI,hL⟩;dsimp only at hi hc hol how hI hL⊢;refine AC.seq ?_;refine AC.seq ?_
 by_cases h:i<x.length
 ·have e1:decide ((i:Int)<(x.length:Int))=true:=AZ (by omega)
  obtain⟨p,hp⟩:=CU h;have hx:=Ds hp;have hpl:=wx p (Aw hp);have d2:=UL y i (by omega) (by omega);unfold rL at d2;have hql:=TY wy i;have ty:=Sz y i;have tx:AO (x.take (i+1))=AO (x.take i)+RB^i*p:=by rw[FF hp,HH (i:=i) (by rw[Bb];omega)]
  generalize y.getD i 0=q at*;obtain⟨d,c',hd,hc',hdig,hcase⟩:=jB hpl hql hc;have k1:IntKind.i64.wrap ((p:Int)-(q:Int))=(p:Int)-q:=wI (by unfold RB at*;omega) (by unfold RB at*;omega);have k2:IntKind.i64.wrap ((p:Int)-q-(c:Int))=(p:Int)-q-c:=wI (by unfold RB at*;omega) (by unfold RB at*;omega);have wi:IntKind.i64.wrap ((i:Int)+1)=((i+1:Nat):Int):=wI (by omega) (by omega);have hlo:L.length<=1000001:=by rw[hL,Am];omega
  have hmo:L++[Ab d]=(out++[d]).map Ab:=by rw[hL,DG];rfl
  have hvn:AO (out++[d])+AO (y.take (i+1))=AO (x.take (i+1))+RB^(i+1)*c':=by
   rw[HH hol,ty,tx,CN,Bz];have e3:RB^i*(d+q+c)=RB^i*(p+RB*c'):=by rw[hdig]
   rw[BN,BN,BN (RB^i) p]at e3;omega
  have how':Rd (out++[d]):=Rd.append how λx hx=>by
   simp only[BA,Dc,or_false]at hx;subst hx;exact hd
  have hol':(out++[d]).length=i+1:=by rw[Bk,hol];rfl
  clear hI hL how;refine Ap w1 400 (by kernel_rfl) ?_;refine AV (Ad ea e1) ?_;refine AM ?_;refine Ao ?_;refine AC.seq ?_;refine AC.block ?_;refine AC.seq ?_;refine B9 w1 600 [0,1,2,3,4,5,6,7,8] [9,10] (by kernel_rfl) ?_;refine AE kN ?_;refine Bs kT hx ?_;refine AE kN ?_;refine BU.same _ d2 AI ?_;refine AE (Ad k1 k2) ?_;refine sR 700 ?_;refine Cz (α:=Nat) (λn=>⟨[(0,.sl false 1 (x.map Ab)),(1,.sl false 1 (y.map Ab)),(5,D3 1103 g 1 L),(6,Ab c'),(7,Ab i),(8,Ab d)],Dt 1103 g 3 1 L,n⟩) (λ_=>True) ?_ ?_
  ·generalize D3 1103 g 1 L=od at*
   generalize Dt 1103 g 3 1 L=oh at*;refine AC.seq ?_;rcases hcase with⟨rfl,h2⟩|⟨rfl,h2,h3⟩
   ·have e2:decide ((p:Int)-q-c<0)=false:=Ah (by omega)
    rw[h2]at e2;rw[h2];refine Ap w1 800 (by kernel_rfl) ?_;refine AV e2 ?_;refine AM ?_;refine Ao ?_;exact⟨rfl,_,trivial,AL⟩
   ·have e2:decide ((p:Int)-q-c<0)=true:=AZ h2
    have k3:IntKind.i64.wrap ((p:Int)-q-c+1000000000)=(d:Int):=by rw[h3];exact wI (by unfold RB at*;omega) (by unfold RB at*;omega)
    refine Ap w1 800 (by kernel_rfl) ?_;refine AV e2 ?_;refine AM ?_;refine sZ 900 ?_;refine AV k3 ?_;refine rI 1000 ?_;exact⟨rfl,_,trivial,AL⟩
  rintro n3 -;rcases L with _|⟨x0,L⟩
  all_goals
   (try simp only[Bp]at hlo)
   dsimp only[I6,I7,Hk,Hl];refine rI 1100 ?_;refine Ap w1 500 (by kernel_rfl) ?_;refine AV wi ?_
  ·exact⟨(i+1,c',out++[d],[]++[Ab d],_,_),⟨h,hc',hol',how',hvn,hmo⟩,by dsimp only;omega,AL⟩
  ·have htk:List.take (L.length+1) (x0::L)=x0::L:=by simp
   rw[htk];refine⟨(i+1,c',out++[d],x0::L++[Ab d],_,_),⟨h,hc',hol',how',hvn,hmo⟩,by dsimp only;omega,by(dsimp only;rw[OC];exact AL)⟩
 ·have e1:decide ((i:Int)<(x.length:Int))=false:=Ah (by omega)
  have hix:i=x.length:=by omega
  subst hix;rw[CE (by omega),CE (by omega),va,vb]at hI;have hlt:=GL how;rw[hol]at hlt;have hxl:=GL wx;rw[va]at hxl;have hov:AO out=a-b:=by
   rcases Dh c with h|h
   ·subst h;rw[Eb]at hI;omega
   ·have:c=1:=by omega
    subst this;rw[EG]at hI;omega
  refine Ap w1 400 (by kernel_rfl) ?_;refine AV (Ad ea e1) ?_;refine AM ?_;refine CC ?_;refine AC.weak ⟨[(5,.sl false 1 L)],[],_⟩ wJ ?_;rw[hL];refine sR 1200 ?_;refine BE.same _ (L4 out how (by omega)) AI ?_;refine BP ?_;refine Ak ?_;exact AK (by rw[hov]) AA.out
theorem Vd (a b:Nat)(hla:(Aa a).length<1000000)(hlb:(Aa b).length<1000000):AJ C0 215 [rD a,rD b] (rD (a*b)):=by
 refine Aj.walk w1 sK rfl λF=>?_
 change AC C0 F none F _ ⟨DM 0 [.sl false 1 ((Aa a).map Ab),.sl false 1 ((Aa b).map Ab)],[],0⟩ _;have va:=EA a;have vb:=EA b;have ha:=Eg a;have hb:=Eg b;generalize Aa a=x at*;generalize Aa b=y at*;subst va;subst vb;have ea:(((x.map Ab).length:Nat):Int)=(x.length:Int):=by rw[Am]
 have eb:(((y.map Ab).length:Nat):Int)=(y.length:Int):=by rw[Am]
 have wl:IntKind.i64.wrap ((x.length:Int)+(y.length:Int))=((x.length+y.length:Nat):Int):=by rw[wI (by omega) (by omega)];omega
 have r3:List.replicate (x.length+y.length) (ofV (.int .i64 0))=(List.replicate (x.length+y.length) 0).map Ab:=by rw[KM];rfl
 refine sR 0 ?_;refine sZ 100 ?_;refine AV (BZ ea eb wl kN) ?_;refine AC.seq ?_;refine sR 200 ?_;refine AC.block ?_;refine AC.loop (α:=Nat×List Nat×Nat) (λp=>⟨[(0,.sl false 1 (x.map Ab)),(1,.sl false 1 (y.map Ab)),(5,.osl 105 6 1 0 (x.length+y.length)),(6,i64 p.1)],[⟨105,6,3,1,p.2.1.map Ab⟩],p.2.2⟩) (λp=>x.length-p.1)
  (λp=>p.1<=x.length/\p.2.1.length=x.length+y.length/\Rd p.2.1/\AO p.2.1=AO (x.take p.1)*AO y/\∀k,p.1+y.length<=k->∀d,p.2.1[k]?=some d->d=0) (0,List.replicate (x.length+y.length) 0,_)
  ⟨BX _,by simp,S5 _,by simp[AO,WV],λk _ d hd=>Pr (Aw hd)⟩ (by rw[<-r3];exact AL) ?_
 rintro⟨i,o,m⟩ F ⟨h1,h2,h3,h4,h5⟩;dsimp only at h1 h2 h3 h4 h5⊢;refine AC.seq ?_;refine AC.seq ?_
 by_cases hi:i<x.length
 ·have e1:decide ((i:Int)<(x.length:Int))=true:=AZ (by omega)
  obtain⟨p,hp⟩:=CU hi;have hp':=Ds hp;have hpl:p<RB:=ha p (Aw hp);have wi:IntKind.i64.wrap ((i:Int)+1)=((i+1:Nat):Int):=wI (by omega) (by omega);have hax:AO (x.take (i+1))=AO (x.take i)+RB^i*p:=by rw[FF hp,HH (i:=i) (by rw[Bb];omega)]
  refine Ap w1 300 (by kernel_rfl) ?_;refine AV (Ad ea e1) ?_;refine AM ?_;refine Ao ?_;refine AC.seq ?_;refine AC.block ?_;refine sR 500 ?_;refine AC.seq ?_;refine sR 600 ?_;refine AC.block ?_;refine AC.loop (α:=Nat×Nat×List Nat×Nat) (λq=>⟨[(0,.sl false 1 (x.map Ab)),(1,.sl false 1 (y.map Ab)),(5,.osl 105 6 1 0 (x.length+y.length)),(6,i64 i),(7,Ab q.2.1),(8,i64 q.1)],[⟨105,6,3,1,q.2.2.1.map Ab⟩],q.2.2.2⟩) (λq=>y.length-q.1)
   (λq=>q.1<=y.length/\q.2.1<RB/\q.2.2.1.length=x.length+y.length/\Rd q.2.2.1/\AO q.2.2.1+RB^(i+q.1)*q.2.1=AO (x.take i)*AO y+RB^i*p*AO (y.take q.1)/\∀k,i+y.length<=k->∀d,q.2.2.1[k]?=some d->d=0) (0,0,o,_)
   ⟨BX _,(show 0<RB by decide),h2,h3,by simp[AO,h4],h5⟩ AL ?_
  rintro⟨j,c,q,m2⟩ F ⟨g1,g2,g3,g4,g5,g6⟩;dsimp only at g1 g2 g3 g4 g5 g6⊢;clear h2 h3 h4 h5 r3 wl;refine AC.seq ?_;refine AC.seq ?_
  by_cases hj:j<y.length
  ·have e2:decide ((j:Int)<(y.length:Int))=true:=AZ (by omega)
   obtain⟨r,hr⟩:=CU hj;have hr':=Ds hr;have hrl:r<RB:=hb r (Aw hr);obtain⟨z,hz⟩:=CU (l:=q) (i:=i+j) (by omega);have hz':=Ds hz;have hzl:z<RB:=g4 z (Aw hz);have wj:IntKind.i64.wrap ((j:Int)+1)=((j+1:Nat):Int):=wI (by omega) (by omega);have wij:IntKind.i64.wrap ((i:Int)+(j:Int))=((i+j:Nat):Int):=by rw[wI (by omega) (by omega)];omega
   have hbx:AO (y.take (j+1))=AO (y.take j)+RB^j*r:=by rw[FF hr,HH (i:=j) (by rw[Bb];omega)]
   have hpr:p*r<=999999999*999999999:=Iw (by unfold RB at hpl;omega) (by unfold RB at hrl;omega);have k0:IntKind.i64.wrap ((p:Int)*(r:Int))=((p*r:Nat):Int):=by rw[<-F9,wI (by omega) (by omega)]
   have k1:IntKind.i64.wrap ((z:Int)+((p*r:Nat):Int))=((z+p*r:Nat):Int):=by rw[wI (by omega) (by unfold RB at*;omega)];omega
   have k2:IntKind.i64.wrap (((z+p*r:Nat):Int)+(c:Int))=((z+p*r+c:Nat):Int):=by rw[wI (by omega) (by unfold RB at*;omega)];omega
   have hs:=OJ (d:=(z+p*r+c)%RB) hz;have e:=Er (z+p*r+c) RB;have hq:(z+p*r+c)/RB<RB:=E9 (by unfold RB at*;omega);have hd:(z+p*r+c)%RB<RB:=B4 _ (by decide);have k3:((z+p*r+c:Nat):Int).tmod 1000000000=(((z+p*r+c)%RB:Nat):Int):=rfl;have k4:IntKind.i64.wrap (((z+p*r+c:Nat):Int).tdiv 1000000000)=(((z+p*r+c)/RB:Nat):Int):=by
    show IntKind.i64.wrap ((((z+p*r+c)/1000000000:Nat)):Int)=_;exact wN (by change(z+p*r+c)/RB<=_;unfold RB at hq⊢;omega)
   have hval:AO (q.set (i+j) ((z+p*r+c)%RB))+RB^(i+(j+1))*((z+p*r+c)/RB)=AO (x.take i)*AO y+RB^i*p*AO (y.take (j+1)):=by
    rw[hbx,BN,<-Ed (AO (x.take i)*AO y),<-g5];have h6:RB^(i+j)*((z+p*r+c)%RB)+RB^(i+(j+1))*((z+p*r+c)/RB)=RB^i*p*(RB^j*r)+RB^(i+j)*z+RB^(i+j)*c:=by
     have:RB^i*p*(RB^j*r)=RB^(i+j)*(p*r):=by
      rw[GC,Bz,Bz,Iq p]
     rw[this,<-Ed i j 1,CN,Bz,<-BN,<-BN,<-BN,e]
     congr 1;omega
    omega
   generalize(z+p*r+c)%RB=d at*;generalize(z+p*r+c)/RB=c' at*;clear hs e g5 hax hbx;refine Ap w1 700 (by kernel_rfl) ?_;refine AV (Ad eb e2) ?_;refine AM ?_;refine Ao ?_;refine AC.seq ?_;refine AC.block ?_;refine AC.seq ?_;refine B9 w1 900 [0,1,2,3,4,5,6,7,8,9,10,11,12,13,14,15,16] [17,18] (by kernel_rfl) ?_;refine AE (BZ wij kN BV hz') ?_;refine Bs kT hp' ?_;refine AE (BZ wij kN BV hz') ?_;refine Bs kT hr' ?_;refine AE (At k0 k1 k2) ?_;refine sZ 1000 ?_;refine AE (CO wij kN BV hz' k3) ?_;rw[M5];refine Ap w1 1100 (by kernel_rfl) ?_;refine AV k4 ?_;refine Ap w1 800 (by kernel_rfl) ?_;refine AV wj ?_;refine⟨(j+1,c',q.set (i+j) d,_),⟨hj,hq,by dsimp only;rw[DF];exact g3,g4.set hd,hval,λk hk d hd=>?_⟩,by dsimp only;omega,AL⟩;dsimp only at hk hd;rw[Io (by omega)]at hd;exact g6 k hk d hd
  ·have e2:decide ((j:Int)<(y.length:Int))=false:=Ah (by omega)
   have hj:j=y.length:=by omega
   subst hj;obtain⟨z,hz⟩:=CU (l:=q) (i:=i+y.length) (by omega);have hz0:z=0:=g6 _ (Ai _) _ hz;subst hz0;have hz':=Ds hz;have wij:IntKind.i64.wrap ((i:Int)+(y.length:Int))=((i+y.length:Nat):Int):=by rw[wI (by omega) (by omega)];omega
   have wij0:IntKind.i64.wrap ((i:Int)+(((y.map Ab).length:Nat):Int))=((i+y.length:Nat):Int):=by rw[eb];exact wij
   have k1:IntKind.i64.wrap (((0:Nat):Int)+(c:Int))=(c:Int):=by rw[wI (by omega) (by unfold RB at*;omega)];omega
   have hs:=OJ (d:=c) hz;rw[CE (Ai _)]at g5;have hval:AO (q.set (i+y.length) c)=AO (x.take (i+1))*AO y:=by
    rw[hax,Bw];omega
   clear hs g5 hax;refine Ap w1 700 (by kernel_rfl) ?_;refine AV (Ad eb e2) ?_;refine AM ?_;refine CC ?_;refine Ap w1 1200 (by kernel_rfl) ?_;refine AE (EQ eb wij kN BV hz' k1) ?_;rw[M5];refine Ap w1 400 (by kernel_rfl) ?_;refine AV wi ?_;refine⟨(i+1,q.set (i+y.length) c,_),⟨hi,by dsimp only;rw[DF];exact g3,g4.set g2,hval,λk hk d hd=>?_⟩,by dsimp only;omega,AL⟩;dsimp only at hk hd;rw[Io (by omega)]at hd;exact g6 k (by omega) d hd
 ·have e1:decide ((i:Int)<(x.length:Int))=false:=Ah (by omega)
  have hi:i=x.length:=by omega
  subst hi;rw[CE (Ai _)]at h4;refine Ap w1 300 (by kernel_rfl) ?_;refine AV (Ad ea e1) ?_;refine AM ?_;refine CC ?_;refine AC.weak ⟨[(5,.sl false 1 (o.map Ab))],[],_⟩ (qr h2) ?_;refine sR 1300 ?_;refine BE.same _ (L4 o h3 (by omega)) AI ?_;refine BP ?_;refine Ak ?_;exact AK (by rw[h4]) AA.out
theorem PI (a b:Nat)(h:a/b<=9223372036854775807):IntKind.i64.wrap ((a:Int).tdiv (b:Int))=((a/b:Nat):Int):=by
 rw[<-Int.ofNat_tdiv];exact wN h
theorem Ry (a b:Nat):(a:Int).tmod (b:Int)=((a%b:Nat):Int):=(Int.ofNat_tmod a b).symm
theorem nN {env:Au}{t K g n N t2:Nat}{z:List Nat}{T:Nat}{d2:D}(hl:z.length=N)(he:env.get t=.osl K g 1 0 N:=by exact rfl)(h2:env.get t2=d2:=by exact rfl):Wk ⟨env,[⟨K,g,T,1,z.map Ab⟩],n⟩ ⟨[(t,.sl false 1 (z.map Ab)),(t2,d2)],[],n⟩:=by
 subst hl;refine⟨.drop .nil,⟨?_,?_,trivial⟩,Ai _⟩
 ·dsimp only
  rw[he]
  have:=RP K g T 1 (z.map Ab)
  rwa [Am]at this
 ·dsimp only
  rw[h2];exact .refl _
theorem mv {r p d:Nat}(h:r*RB+p<d*RB)(hd:d<RB):IntKind.i64.wrap ((r:Int)*1000000000)=((r*RB:Nat):Int)/\IntKind.i64.wrap (((r*RB:Nat):Int)+(p:Int))=((r*RB+p:Nat):Int):=by
 unfold RB at*;refine⟨?_,?_⟩
 ·rw[wI (by omega) (by omega)];omega
 ·rw[wI (by omega) (by omega)];omega
theorem XE (a d:Nat)(hd:0<d)(hdl:d<RB)(hl:(Aa a).length<1000000):AJ C0 213 [rD a,Ab d] (.tup [rD (a/d),Ab (a%d)]):=by
 refine Aj.walk w1 sJ rfl λF=>?_
 change AC C0 F none F _ ⟨DM 0 [.sl false 1 ((Aa a).map Ab),Ab d],[],0⟩ _;have va:=EA a;have wa:=Eg a;generalize Aa a=x at*;have ea:(((x.map Ab).length:Nat):Int)=(x.length:Int):=by rw[Am]
 have wl:IntKind.i64.wrap ((x.length:Int)-1)=(x.length:Int)-1:=wI (by omega) (by omega);have r3:List.replicate x.length (ofV (.int .i64 0))=(List.replicate x.length 0).map Ab:=by rw[KM];rfl
 have d0:¬(d:Int)=0:=by omega
 refine sR 0 ?_;refine sZ 100 ?_;refine AV (Ad ea kN) ?_;refine sR 200 ?_;refine AC.seq ?_;refine sZ 300 ?_;refine AV (Ad ea wl) ?_;refine AC.block ?_;refine AC.loop (α:=Nat×Nat×List Nat×Nat) (λp=>⟨[(0,.sl false 1 (x.map Ab)),(1,Ab d),(6,.osl 102 4 1 0 x.length),(7,Ab p.2.1),(8,i64 ((p.1:Int)-1))],[⟨102,4,3,1,p.2.2.1.map Ab⟩],p.2.2.2⟩) (λp=>p.1)
  (λp=>p.1<=x.length/\p.2.1<d/\p.2.2.1.length=x.length/\Rd p.2.2.1/\AO (p.2.2.1.drop p.1)*d+p.2.1=AO (x.drop p.1)) (x.length,0,List.replicate x.length 0,_)
  ⟨Ai _,hd,by simp,S5 _,by simp[AO]⟩ (by rw[<-r3];exact AL) ?_
 rintro⟨k,r,q,m⟩ F ⟨h1,h2,h3,h4,h5⟩;dsimp only at h1 h2 h3 h4 h5⊢;clear ea wl r3;refine AC.seq ?_;refine sR 400 ?_;refine AM ?_
 (refine By (λh20=>?_) (λh20=>?_))<;>(try simp only[Bi,Bv]at h20)<;>(try simp only[h20])
 ·obtain⟨j,rfl⟩:∃j,k=j+1:=⟨k-1,by
   have:=C6 h20
   omega⟩
  have wj:((j+1:Nat):Int)-1=(j:Int):=by omega
  obtain⟨p,hp⟩:=CU (l:=x) (i:=j) (by omega);obtain⟨z,hz⟩:=CU (l:=q) (i:=j) (by omega);have hp':=Ds hp;have hz':=Ds hz;have hpl:=wa p (Aw hp);obtain⟨J1,J2⟩:=iv hd hp (by omega) h5;have hsb:r*RB+p<d*RB:=by
   have:(r+1)*RB<=d*RB:=CM _ h2
   rw[Bw]at this;omega
  have hql:(r*RB+p)/d<RB:=E9 hsb;obtain⟨k1,k2⟩:=mv hsb hdl;have k3:=PI (r*RB+p) d (BR (KL hql) (by decide));have k4:=Ry (r*RB+p) d;have wi:IntKind.i64.wrap ((j:Int)-1)=(j:Int)-1:=wI (by omega) (by omega);generalize(r*RB+p)/d=e at*;generalize(r*RB+p)%d=r' at*;rw[wj];refine Ao ?_;refine AC.seq ?_;refine AC.block ?_;refine sZ 600 ?_;refine AE kN ?_;refine Bs kT hp' ?_;refine AE (Ad k1 k2) ?_;refine sZ 700 ?_;refine AE (BZ kN BV hz' k3) ?_;rw[M5];refine Ap w1 800 (by kernel_rfl) ?_;refine AV k4 ?_;refine Ap w1 500 (by kernel_rfl) ?_;refine AV wi ?_;exact⟨(j,r',q.set j e,_),⟨by dsimp only;omega,J2,by dsimp only;rw[DF];exact h3,h4.set hql,J1⟩,by dsimp only;omega,AL⟩
 ·have hk:k=0:=by
   have:=DP h20
   omega
  subst hk;rw[Fk,Fk,va]at h5;obtain⟨q1,q2⟩:=QL h5 h2;refine CC ?_;refine AC.weak ⟨[(6,.sl false 1 (q.map Ab)),(7,Ab r)],[],_⟩ (nN h3) ?_;refine sR 900 ?_;refine BE.same _ (L4 q h4 (by omega)) AI ?_;refine BP ?_;refine Ak ?_;exact AK (by rw[q1,q2]) AA.out
structure Jr (U V n2 v1 p1 q r:Nat):Prop where
 eq:q*v1+r=n2
 up:U<(q+1)*V
 cap:n2<=v1*RB+p1
 p1l:p1<RB
namespace Jr
variable {U V n2 v1 p1 q r:Nat} (G:Jr U V n2 v1 p1 q r)
include G
theorem small (h:RB<=r):q<RB:=by
 rcases BI q RB with h1|h1
 ·exact h1
 ·exfalso
  have h2:=CM v1 h1;have h3:=G.eq;have h4:=G.cap;have h5:=G.p1l;rw[BS RB v1]at h2;omega
theorem qle (hv:0<v1):q<=2*RB:=by
 rcases BI (2*RB) q with h1|h1
 ·exfalso
  have h2:=CM v1 h1;have h3:=G.eq;have h4:=G.cap;have h5:=G.p1l;have h6:RB*1<=RB*v1:=Cc _ hv;rw[Nat.succ_mul,Bz,BS RB v1]at h2;rw[BS RB v1]at h6;omega
 ·exact h1
end Jr
section
variable {P v:List Nat} {m p0 p1 p2 v2 v1:Nat} (S:K4 P v m p0 p1 p2 v2 v1)
include S
theorem iY:Jr (AO P) (AO v) (p1+RB*p2) v1 p1 ((p2*RB+p1)/v1) ((p2*RB+p1)%v1):=by
 have c0:p2*RB+p1=p1+RB*p2:=by rw[BS,LO]
 rw[c0];have e:=Ec (p1+RB*p2) v1;have l:=B4 (p1+RB*p2) S.top;have c1:=BS v1 ((p1+RB*p2)/v1);refine⟨by omega,Wi S.below2 S.abovev ?_,?_,S.p1l⟩
 ·rw[Bw];omega
 ·have:=Cc RB S.p2v1
  rw[BS v1];omega
theorem jG {q r:Nat}(G:Jr (AO P) (AO v) (p1+RB*p2) v1 p1 q r)(h:RB<=q\/r*RB+p0<q*v2):0<q/\Jr (AO P) (AO v) (p1+RB*p2) v1 p1 (q-1) (r+v1):=by
 obtain⟨e,u,cp,pl⟩:=G;have hq:0<q:=by
  rcases h with h|h
  ·unfold RB at h;omega
  ·rcases Dh q with h0|h0
   ·subst h0;omega
   ·exact h0
 obtain⟨k,rfl⟩:∃k,q=k+1:=⟨q-1,by omega⟩
 refine⟨hq,⟨?_,?_,cp,pl⟩⟩
 ·rw[Ip,<-e,Bw];omega
 ·rw[Ip]
  rcases h with h|h
  ·have h1:AO v*RB<=(k+1)*AO v:=by rw[BS];exact CM _ h
   have:=S.less
   omega
  ·have e2:(k+1)*(v2+RB*v1)=(k+1)*v2+RB*((k+1)*v1):=by rw[BN,Iq]
   refine XN S.below3 S.abovev2 ?_;rw[e2,<-e,BN RB,BS RB r];omega
theorem Wj {q r:Nat}(G:Jr (AO P) (AO v) (p1+RB*p2) v1 p1 q r)(h:RB<=r\/(q<RB/\q*v2<=r*RB+p0)):q<RB/\q*AO v<=AO P+AO v:=by
 have hqB:q<RB:=by
  rcases h with h|h
  ·exact G.small h
  ·exact h.1
 obtain⟨e,u,cp,pl⟩:=G;have h5:=S.v2l;have hq:q*v2<=r*RB+p0:=by
  rcases h with h|h
  ·have h2:q*v2<=RB*RB:=Iw (by omega) (by omega)
   have h3:RB*RB<=r*RB:=CM _ h;omega
  ·exact h.2
 have e2:q*(v2+RB*v1)=q*v2+RB*(q*v1):=by rw[BN,Iq]
 refine⟨hqB,Xg (n3:=p0+RB*(p1+RB*p2)) (D:=v2+RB*v1) (P:=RB^m) (B:=RB) (v:=AO (v.take m)) ?_ ?_ S.lowv ?_ (by omega) ?_⟩
 ·rw[S.valP,BS];omega
 ·rw[S.valv,BS];omega
 ·rw[e2,<-e,BN RB,BS RB r]
  omega
 ·have:=S.top
  have h1:=Cc RB (show 1<=v1 from this);omega
end
theorem DQ.of {H:Hp}{d0 d:D}(h:Fz H [] d0 d):DQ H d0 d:=λ_ _ _ _ m hO hN _ hv=>h.rep m hO (λe he b hb _=>hN e he b hb) hv
theorem zp {C:BD}{f:Nat}{ds ds':List D}{Φ:D->Prop}{H:Hp}{n:Nat}(hc:Aj C f ds' Φ)(hl:ds'.length=ds.length)(hv:∀(i:Nat) (a b:D),ds[i]?=some a->ds'[i]?=some b->DQ H a b)
  (hp:Al ds') (hflat:∀d,Φ d->KA d):Cg C f ds H n (λd' H' n'=>Φ d'/\H'=H/\n'=n+1):=by
 refine⟨hc.1,λF ρ w vs m hfr hg hvs hr=>?_⟩;have hH:Ck H [] H []:=by
  generalize H=H0
  have:∀H1:Hp,Ck H0 [] H1 []:=λH1=>by
   induction H1 with
   |nil=>exact .nil
   |cons e r ih=>exact .drop ih
  exact this H0
 obtain⟨m',hO,hN⟩:=hH.mem m;refine(hc.2 (AN F.X ρ []) w vs m.g (BR m.gn m.size) (λb hb=>m'.own_lt hb) (by omega) λi x hx=>?_).mono ?_
 ·have hi:i<ds'.length:=(List.getElem?_eq_some_iff.1 hx).1
  have hd0:ds[i]?=some ds[i]:=BG (by omega);exact hp.out x (Aw hx) _ _ _ _ _ (hv i _ x hd0 hx C F ρ w m hO (λe he b hb=>hN e he b hb rfl) _ (hr i _ hd0))
 ·rintro e w' ⟨v,d',rfl,hb,hd',rep⟩
  have x:BT ρ (AN F.X ρ H) w ρ (AN F.X ρ H) w':=⟨hb.size,λ_ _ _ h=>h,λb hb' hO=>⟨hO,hb.block b hb'⟩,λb cs T fz hh=>⟨cs,_,by
   rw[hb.block b (Array.getElem?_eq_some_iff.1 hh).1];exact hh,rfl⟩⟩
  exact⟨v,_,H,n+1,ρ,rfl,⟨hd',rfl,rfl⟩,m.same x hb.os hb.tape hb.output hb.block,x,λk g hg'=>hfr k g (by omega),λe he=>DD (hg e he),hflat _ hd' _ _ _ _ _ _ _ rep⟩
def YN (P v:List Nat)(d:D):Prop:=∃q,d=Ab q/\q<RB/\AO P<(q+1)*AO v/\q*AO v<=AO P+AO v
theorem lV {p2 p1 v1:Nat}(h1:p1<RB)(h2:p2<RB):IntKind.i64.wrap ((p2:Int)*1000000000)=((p2*RB:Nat):Int)/\IntKind.i64.wrap (((p2*RB:Nat):Int)+(p1:Int))=((p2*RB+p1:Nat):Int) /\
  IntKind.i64.wrap (((p2*RB+p1:Nat):Int).tdiv (v1:Int))=(((p2*RB+p1)/v1:Nat):Int):=by
 have h3:=GA (p2*RB+p1) v1;unfold RB at*;refine⟨?_,?_,?_⟩
 ·rw[wI (by omega) (by omega)];omega
 ·rw[wI (by omega) (by omega)];omega
 ·exact PI _ _ (by omega)
theorem jq {t r v2 p0:Nat}(ht:t<RB)(hr:r<RB)(h2:v2<RB)(h0:p0<RB):IntKind.i64.wrap ((t:Int)*(v2:Int))=((t*v2:Nat):Int)/\IntKind.i64.wrap ((r:Int)*1000000000)=((r*RB:Nat):Int) /\
  IntKind.i64.wrap (((r*RB:Nat):Int)+(p0:Int))=((r*RB+p0:Nat):Int):=by
 have h3:t*v2<=999999999*999999999:=Iw (by unfold RB at ht;omega) (by unfold RB at h2;omega);unfold RB at*;refine⟨?_,?_,?_⟩
 ·rw[<-F9,wI (by omega) (by omega)]
 ·rw[wI (by omega) (by omega)];omega
 ·rw[wI (by omega) (by omega)];omega
theorem q7 {t v2 r p0:Nat}(h:t<RB):decide (((t*v2:Nat):Int)>((r*RB+p0:Nat):Int))=decide (RB<=t\/r*RB+p0<t*v2):=
 C5.2 ⟨λh1=>.inr (Int.ofNat_lt.1 h1),λh1=>Int.ofNat_lt.2 (h1.resolve_left (Nat.not_le.2 h))⟩
theorem q8 {t v2 r p0:Nat}(h:¬(RB<=t\/r*RB+p0<t*v2)):t<RB/\t*v2<=r*RB+p0:=⟨Nat.lt_of_not_le λh1=>h (.inl h1),Nat.le_of_not_lt λh1=>h (.inr h1)⟩
theorem q9 {P v:List Nat}{m p0 p1 p2 v2 v1:Nat}(S:K4 P v m p0 p1 p2 v2 v1):∃a1 T q0 r0:Nat,IntKind.i64.wrap ((p2:Int)*1000000000)=(a1:Int)/\IntKind.i64.wrap ((a1:Int)+(p1:Int))=(T:Int) /\
  IntKind.i64.wrap ((T:Int).tdiv (v1:Int))=(q0:Int)/\(T:Int).tmod (v1:Int)=(r0:Int)/\Jr (AO P) (AO v) (p1+RB*p2) v1 p1 q0 r0/\r0<RB:=by
 obtain⟨k1,k2,k3⟩:=lV (v1:=v1) S.p1l S.p2l;exact⟨_,_,_,_,k1,k2,k3,Ry _ v1,iY S,GB (B4 _ S.top) S.v1l⟩
theorem nV {t r v2 p0:Nat}(ht:t<RB)(hr:r<RB)(h2:v2<RB)(h0:p0<RB):∃a1 a2 a3:Nat,IntKind.i64.wrap ((t:Int)*(v2:Int))=(a3:Int)/\IntKind.i64.wrap ((r:Int)*1000000000)=(a1:Int) /\
  IntKind.i64.wrap ((a1:Int)+(p0:Int))=(a2:Int)/\decide ((a3:Int)>(a2:Int))=decide (RB<=t\/r*RB+p0<t*v2):=by
 obtain⟨q1,q2,q3⟩:=jq ht hr h2 h0;exact⟨_,_,_,q1,q2,q3,q7 ht⟩
theorem oJ (U v:List Nat)(j m p0 p1 p2 v2 v1:Nat)(S:K4 ((U.drop j).take (m+3)) v m p0 p1 p2 v2 v1)(hj:j+(m+3)<=U.length)(hU:U.length<4000000):Aj C0 216 [rL U,rL v,Ab j] (YN ((U.drop j).take (m+3)) v):=by
 refine Aj.walk w1 sL rfl λF=>?_
 unfold rL;have hg:∀ {k p:Nat},((U.drop j).take (m+3))[k]?=some p->U[j+k]?=some p:=λ{k p} h=>by
  rw[Eo]at h;split at h
  ·rwa [Hc]at h
  ·cases h
 have u0:=Ds (hg S.h0);have u1:=Ds (hg S.h1);have u2:=Ds (hg S.h2);have y1:=Ds S.g1;have y2:=Ds S.g2;have l0:=S.p0l;have l1:=S.p1l;have l2:=S.p2l;have lv1:=S.v1l;have lv2:=S.v2l;have ev:(((v.map Ab).length:Nat):Int)=((m+2:Nat):Int):=by rw[Am,S.lv]
 have eu:(((U.map Ab).length:Nat):Int)=(U.length:Int):=by rw[Am]
 have w0:IntKind.i64.wrap ((j:Int)+((m+2:Nat):Int))=((j+(m+2):Nat):Int):=by rw[wI (by omega) (by omega)];omega
 have wa:IntKind.i64.wrap (((j+(m+2):Nat):Int)-1)=((j+(m+1):Nat):Int):=by rw[wI (by omega) (by omega)];omega
 have wb:IntKind.i64.wrap (((j+(m+2):Nat):Int)-2)=((j+m:Nat):Int):=by rw[wI (by omega) (by omega)];omega
 have wc:IntKind.i64.wrap (((m+2:Nat):Int)-1)=((m+1:Nat):Int):=by rw[wI (by omega) (by omega)];omega
 have wd:IntKind.i64.wrap (((m+2:Nat):Int)-2)=(m:Int):=by rw[wI (by omega) (by omega)];omega
 have ra:IntKind.i64.wrap (IntKind.i64.wrap ((j:Int)+((m+2:Nat):Int))-1)=((j+(m+1):Nat):Int):=by rw[w0,wa]
 have rb:IntKind.i64.wrap (IntKind.i64.wrap ((j:Int)+((m+2:Nat):Int))-2)=((j+m:Nat):Int):=by rw[w0,wb]
 obtain⟨a1,T,q0,r0,k1,k2,k3,k4,G0,hr0⟩:=q9 S;have v0:¬(v1:Int)=0:=by have:=S.top;omega
 have hvl:=S.lv;refine sR 0 ?_;refine sZ 100 ?_;refine AV ev ?_;refine AC.seq ?_;refine B9 w1 200 [0,1,2,3,4,5,6,7,8,9,10,11,12,13] [14,15] (by kernel_rfl) ?_;refine AE (BZ w0 wa ra kN) ?_;refine Bs kT u2 ?_;refine AE (BZ w0 wa ra kN) ?_;refine Bs kT u1 ?_;refine AE (EQ w0 wa ra kN k1 k2) ?_;refine AC.seq ?_;refine B9 w1 300 [0,1,2,3,4,5,6,7,8,9,10,11,12,13,14] [15] (by kernel_rfl) ?_;refine AE (Ad wc kN) ?_;refine Bs kT y1 ?_;refine AE (Ad wc kN) ?_;refine Bs kT y1 ?_;refine AE (BZ wc kN k3 k4) ?_;refine Cz (α:=Nat×Nat) (λp=>⟨[(9,Ab p.1)],[],p.2⟩) (λp=>p.1<RB/\AO ((U.drop j).take (m+3))<(p.1+1)*AO v/\p.1*AO v<=AO ((U.drop j).take (m+3))+AO v) ?_ ?_
 ·refine AC.block ?_
  refine Ge (α:=Nat×Nat×Nat) (λp=>⟨[(0,.sl false 1 (U.map Ab)),(1,.sl false 1 (v.map Ab)),(2,Ab j),(7,i64 ((m+2:Nat):Int)),(9,Ab p.1),(10,Ab p.2.1)],[],p.2.2⟩) (λp=>p.1)
   (λp F'=>F'=F/\Jr (AO ((U.drop j).take (m+3))) (AO v) (p1+RB*p2) v1 p1 p.1 p.2.1/\p.2.1<RB) (q0,r0,_) ⟨rfl,G0,hr0⟩ AL ?_
  rintro⟨t,r,n⟩ F' ⟨rfl,G,hr⟩;dsimp only at G hr⊢;clear G0 hr0 k1 k2 k3 k4 u1 u2 ra wa;have htl:=G.qle S.top;obtain⟨b,hb⟩:∃b,b=decide (RB<=t\/r*RB+p0<t*v2):=⟨_,rfl⟩
  refine AC.seq ?_;refine Cz (α:=Nat) (λn=>⟨[(0,.sl false 1 (U.map Ab)),(1,.sl false 1 (v.map Ab)),(2,Ab j),(7,i64 ((m+2:Nat):Int)),(9,Ab t),(10,Ab r),(63,As b)],[],n⟩) (λ_=>True) ?_ ?_
  ·rcases BI t RB with h|h
   ·have e1:decide ((t:Int)>=1000000000)=false:=Ah (by unfold RB at h;omega)
    obtain⟨a1,a2,a3,q1,q2,q3,q4⟩:=nV h hr lv2 l0;rw[<-hb]at q4;clear hb;rw[<-q4];refine B9 w1 400 [0,1,2,3,4,5,6,7,8,9,10,11,12,13,14,15,16,17,18,19] [20,21] (by kernel_rfl) ?_;refine AE e1 ?_;refine AE (At kF wd kN) ?_;refine Bs kF y2 ?_;refine AE (CO kF w0 wb rb kN) ?_;refine Bs kF u0 ?_;refine AE (BZ kF q1 q2 q3) ?_;refine AE kF ?_;exact⟨trivial,_,trivial,AL⟩
   ·have e1:decide ((t:Int)>=1000000000)=true:=AZ (by unfold RB at h;omega)
    have e2:b=true:=hb.trans (AZ (.inl h));subst e2;refine B9 w1 400 [0,1,2,3,4,5,6,7,8,9,10,11,12,13,14,15,16,17,18,19] [20,21] (by kernel_rfl) ?_;refine AE e1 ?_;refine AE kT ?_;refine AE kT ?_;exact⟨trivial,_,trivial,AL⟩
  rintro n2 -;cases b with
  |true=>
   have hc:=C6 hb.symm;obtain⟨t0,G2⟩:=jG S G hc;have j1:IntKind.i64.wrap ((t:Int)-1)=((t-1:Nat):Int):=by rw[wI (by omega) (by unfold RB at htl;omega)];omega
   have j2:IntKind.i64.wrap ((r:Int)+(v1:Int))=((r+v1:Nat):Int):=by rw[wI (by omega) (by unfold RB at hr lv1;omega)];omega
   clear hc hb;refine AM ?_;refine Ao ?_;refine AC.block ?_;refine sZ 500 ?_;refine AV j1 ?_;refine sZ 600 ?_;refine AE (Ad wc kN) ?_;refine Bs kT y1 ?_;refine AE j2 ?_;refine AC.seq ?_;rcases BI (r+v1) RB with h|h
   ·have e3:decide (((r+v1:Nat):Int)>=1000000000)=false:=Ah (by unfold RB at h;omega)
    refine Ap w1 700 (by kernel_rfl) ?_;refine AV e3 ?_;refine AM ?_;refine Ao ?_;exact⟨(t-1,r+v1,_),⟨rfl,G2,h⟩,by dsimp only;omega,AL⟩
   ·have e3:decide (((r+v1:Nat):Int)>=1000000000)=true:=AZ (by unfold RB at h;omega)
    obtain⟨g1,g2⟩:=Wj S G2 (.inl h);refine Ap w1 700 (by kernel_rfl) ?_;refine AV e3 ?_;refine AM ?_;refine sR 800 ?_;refine Ak ?_;exact⟨_,.refl _,AA.out,t-1,rfl,g1,G2.up,g2⟩
  |false=>
   have hc:=DP hb.symm;obtain⟨g1,g2⟩:=Wj S G (.inr (q8 hc));clear hc hb;refine AM ?_;refine CC ?_;exact⟨rfl,⟨t,_⟩,⟨g1,G.up,g2⟩,AL⟩
 rintro⟨q,n⟩ ⟨g1,g2,g3⟩;dsimp only at g1 g2 g3⊢;refine sR 900 ?_;refine Ak ?_;exact⟨_,.refl _,AA.out,q,rfl,g1,g2,g3⟩
def O4 (k g k' n:Nat)(env:Au):Au->Prop
 | []=>True
 |(t,d)::r=>(d=env.get t\/∃sz i len,env.get t=.osl k g sz i len/\d=.osl k' n sz i len)/\O4 k g k' n env r
theorem O4.get {k g k' n:Nat}{env:Au}:∀ {env':Au},O4 k g k' n env env'->∀t,env'.get t=.any\/env'.get t=env.get t\/∃sz i len,env.get t=.osl k g sz i len/\env'.get t=.osl k' n sz i len
 | [],_,t=>.inl rfl
 |(t0,d)::r,h,t=>by
  simp only[Au.get];cases hb:Nat.beq t0 t with
  |true=>
   obtain rfl:=B6 hb;rcases h.1 with h1|h1
   ·exact .inr (.inl h1)
   ·exact .inr (.inr h1)
  |false=>exact O4.get h.2 t
section
variable {C:BD} {B F:Ac} {rd:Option Nat} {Q:Exit->Ac->St->Prop}
theorem zf {c:Code}{env:Au}{k g k' T sz n:Nat}{es:List D}(env':Au)(he:O4 k g k' n env env')(h:AC C B rd F c ⟨env',[⟨k',n,T,sz,es⟩],n+1⟩ Q):AC C B rd F c ⟨env,[⟨k,g,T,sz,es⟩],n⟩ Q:=by
 refine⟨λhB hd ρ a w hs=>?_⟩;obtain⟨ρ',hl,hk,hf⟩:∃ρ':Lk,(∀k1 g1 b,ρ k1 g1=some b->ρ' k1 g1=some b)/\ρ' k' n=ρ k g/\JK ρ' (n+1):=by
  cases hb:ρ k g with
  |none=>exact⟨ρ,λ_ _ _ h=>h,hs.fresh _ _ (Ai _),λk1 g1 h=>hs.fresh _ _ (Nat.le_of_succ_le h)⟩
  |some b=>exact⟨ρ.put k' n b,λk1 g1 b1 h1=>Ng (hs.fresh _ _ (Ai _)) h1,EO _ _ _ _,λk1 g1 h1=>by
    unfold Lk.put;split
    ·rename_i hh;omega
    ·exact hs.fresh _ _ (Nat.le_of_succ_le h1)⟩
 have hO:AN F.X ρ' [⟨k',n,T,sz,es⟩]=AN F.X ρ [⟨k,g,T,sz,es⟩]:=funext λb=>propext (by simp[AN,hk])
 have x:BT ρ (AN F.X ρ [⟨k,g,T,sz,es⟩]) w ρ' (AN F.X ρ' [⟨k',n,T,sz,es⟩]) w:=⟨Ai _,hl,λb _ hb=>⟨by rw[hO];exact hb,rfl⟩,λ_ cs _ _ h=>⟨cs,_,h,rfl⟩⟩
 refine h.out hB hd ρ' a w ⟨⟨⟨λe he'=>?_,by simp,λe he' b hb=>?_⟩,hs.mem.os,hs.mem.tape,hs.mem.output,hs.mem.size,hs.mem.blk,hs.mem.xlt,hs.mem.g0,hs.mem.gn,hs.mem.gw,λk1 g1 b h1=>hl _ _ _ (hs.mem.lnk _ _ _ h1),hs.mem.shp⟩,hf,λe he'=>?_,λt=>?_,hs.nt,hs.dfr⟩
 ·simp only[BA,Dc,or_false]at he'
  subst he';rcases hs.mem.hok.ent ⟨k,g,T,sz,es⟩ (by simp)with⟨h1,h2⟩|⟨b,cs,h1,h2,h3⟩
  ·exact .inl ⟨h1,by rw[show ρ' k' n=ρ k g from hk];exact h2⟩
  ·refine .inr ⟨b,cs,hk.trans h1,h2,?_⟩
   have h4:=h3.mono x;exact⟨h4.len,h4.siz,h4.one,h4.rep⟩
 ·simp only[BA,Dc,or_false]at he'
  subst he';exact hs.mem.hok.own ⟨k,g,T,sz,es⟩ (by simp) b (hk.symm.trans hb)
 ·simp only[BA,Dc,or_false]at he'
  subst he';exact Ha _
 ·have h0:=(hs.env t).mono x
  rcases he.get t with h1|h1|⟨sz',i,len,h1,h2⟩
  ·show AW _ _ _ (env'.get t) _
   rw[h1];exact .any _
  ·show AW _ _ _ (env'.get t) _
   rw[h1];exact h0
  ·show AW _ _ _ (env'.get t) _
   rw[h2];have h5:=hs.env t;change AW _ _ _ (env.get t) _ at h5;rw[h1]at h5;generalize a.tmps.getD t undef=v at*;cases h5 with
   |onil=>exact .onil _ _ _
   |osl hr hb hc hs' hm=>exact .osl (hk.trans hr) hb hc hs' hm
end
theorem yZ {b m y:Nat}(hl:(Aa b).length=m+1)(hy:(Aa b)[m]?=some y):∃f,f=1000000000/(y+1)/\0<f/\f<RB/\(Aa (b*f)).length=m+1:=by
 have hy0:=P9 b hl hy;have hyl:y<RB:=Eg b y (Aw hy);have hf0:0<1000000000/(y+1):=Nat.div_pos (by unfold RB at hyl;omega) (by omega);have hf1:1000000000/(y+1)<RB:=IE (by decide) (by omega);have hm:=Nat.div_mul_le_self 1000000000 (y+1);refine⟨_,rfl,hf0,hf1,?_⟩;generalize 1000000000/(y+1)=f at*;refine jA ?_ ?_
 ·exact BR (S4 hl) (Nat.le_mul_of_pos_right _ hf0)
 ·have h2:=Uy hl hy
  have h3:=GL ((Eg b).take m);rw[Bb,hl,FC (by omega)]at h3;rw[EA]at h2;have h4:b<RB^m*(y+1):=by rw[BN,EG];omega
  have h5:b*f<RB^m*(y+1)*f:=SV h4 hf0;have h6:RB^m*(y+1)*f=RB^m*(f*(y+1)):=by rw[Bz,BS (y+1)]
  have h7:RB^m*(f*(y+1))<=RB^m*RB:=Cc _ hm;rw[CN];omega
theorem jU {a b f:Nat}{U v:List Nat}{k lu lq:Nat}(hf:0<f)(hU:AO U=a*f)(hv:AO v=b*f)(wU:Rd U)(lU:U.length=lu){q:List Nat}(hq:q=List.replicate lq 0)(hk:lq<=k)
  (hab:a<RB^k*b):MH (a*f) v U q lu lq k:=by
 subst hq;refine⟨lU,Iu,wU,S5 _,?_,?_⟩
 ·rw[Hb (by rw[Iu];exact hk)]
  rw[show AO []=0 from rfl,Eb,G8,BV,hU]
 ·rcases BI (AO (U.drop k)) (AO v)with h|h
  ·exact h
  ·exfalso
   have e0:AO U=AO (U.take k)+RB^(U.take k).length*AO (U.drop k):=by
    conv=>lhs;rw[<-E8 k U]
    rw[Jd]
   have h3:a*f<RB^k*b*f:=SV hab hf;rw[Bz,<-hv]at h3;rcases BI U.length k with hl|hl
   ·rw[Hb (by omega)]at h
    rw[show AO []=0 from rfl]at h;rw[Nat.le_zero.1 h,Eb]at h3;omega
   ·rw[Bb,FC hl]at e0
    have:=Cc (RB^k) h
    omega
theorem kz {a b f:Nat}{v U q:List Nat}{lu lq:Nat}(hf:0<f)(I:MH (a*f) v U q lu lq 0)(hv:AO v=b*f):AO q=a/b/\AO U=a%b*f:=by
 obtain⟨lU,lQ,wU,wq,val,less⟩:=I;simp only[MX,JV,Fk]at val less;obtain⟨h1,h2⟩:=QL val less;rw[hv,Pi _ _ hf]at h1;rw[hv,Pj]at h2;exact⟨h1,h2⟩
theorem pG {P V q N Pn c z W:Nat}(hI:N+q*V=Pn+W*c)(hP:P=Pn+W*z)(hc:c<=z)(hup:P<(q+1)*V):P/V=q/\P%V=N+W*(z-c):=by
 have e:W*z=W*c+W*(z-c):=by rw[<-BN];congr 1;omega
 exact TJ (N:=N+W*(z-c)) (by omega) hup
theorem pH {P V q N Pn N2 c c2 z W:Nat}(hI:N+q*V=Pn+W*c)(hP:P=Pn+W*z)(hz:z<c)(hN:N<W)(hdn:q*V<=P+V)(hN2:N2+W*c2=N+V)(hc2:c2<=1)(hN2l:N2<W)(hVW:V<W):
  0<q/\P/V=q-1/\P%V=N2/\(z:Int)-c+c2=0:=by
 obtain⟨e,rfl⟩:∃e,c=z+1+e:=⟨c-z-1,by omega⟩
 have h1:W*(z+1+e)=W*z+W+W*e:=by rw[BN,BN,EG]
 have he:e=0:=by
  rcases Dh e with h|h
  ·exact h
  ·have:=Cc W h
   omega
 subst he;rw[Eb]at h1;obtain⟨a1,a2,a3⟩:=X9 (U:=P) (V:=V) (q:=q) (N:=N) (N3:=N2) (T:=W) (c:=c2) (by omega) hN hdn hN2 hc2 hN2l;refine⟨a1,a2,a3,?_⟩
 have:c2=1:=by
  rcases Dh c2 with h|h
  ·exfalso
   subst h;rcases Dh q with h0|h0
   ·subst h0;omega
   ·obtain⟨k,rfl⟩:∃k,q=k+1:=⟨q-1,by omega⟩
    rw[Bw,JV]at hI hdn;omega
  ·omega
 subst this;omega
def blk (A N:List Nat)(top:Int)(Z:List Nat):List D:=A.map Ab++(N.map Ab++(i64 top::Z.map Ab))
theorem af {A N Z:List Nat}{top:Int}{i z:Nat}(h:N[i]?=some z):(blk A N top Z)[A.length+i]?=some (Ab z):=by
 have hi:i<N.length:=(List.getElem?_eq_some_iff.1 h).1;unfold blk;rw[E7 (by rw[Am];omega),Am,LM,Gh (by rw[Am];exact hi)];exact Ds h
theorem ZK {A N Z:List Nat}{top:Int}{i d:Nat}(h:i<N.length):(blk A N top Z).set (A.length+i) (Ab d)=blk A (N.set i d) top Z:=by
 unfold blk;rw[Nm _ _ (by rw[Am];omega),Am,LM,List.set_append_left _ _ (by rw[Am];exact h),M5]
theorem T3 {A N Z:List Nat}{top:Int}{n:Nat}(h:N.length=n):(blk A N top Z)[A.length+n]?=some (i64 top):=by
 unfold blk;rw[E7 (by rw[Am];omega),Am,LM,E7 (by rw[Am];omega),Am,h,Nat.sub_self];rfl
theorem YR {A N Z:List Nat}{top t:Int}{n:Nat}(h:N.length=n):(blk A N top Z).set (A.length+n) (i64 t)=blk A N t Z:=by
 unfold blk;rw[Nm _ _ (by rw[Am];omega),Am,LM,Nm _ _ (by rw[Am];omega),Am,h,Nat.sub_self];rfl
theorem T1 {A N Z:List Nat}{t:Nat}:blk A N (t:Int) Z=(A++((N++[t])++Z)).map Ab:=by
 unfold blk;simp[DG]
theorem nE {t x c z:Nat}(ht:t<RB)(hx:x<RB)(hc:c<=RB)(hz:z<RB):∃p lo hi x' d c':Nat,IntKind.i64.wrap ((t:Int)*(x:Int))=(p:Int)/\IntKind.i64.wrap ((p:Int)+(c:Int))=(x':Int)/\((x':Int)).tmod 1000000000=(lo:Int) /\
  IntKind.i64.wrap (((x':Int)).tdiv 1000000000)=(hi:Int)/\IntKind.i64.wrap ((z:Int)-(lo:Int))=(z:Int)-lo/\d<RB/\c'<=RB/\d+t*x+c=z+RB*c' /\
  ((c'=hi/\(z:Int)-lo=d)\/(c'=hi+1/\(z:Int)-lo<0/\IntKind.i64.wrap ((z:Int)-lo+1000000000)=d/\IntKind.i64.wrap ((hi:Int)+1)=((hi+1:Nat):Int))):=by
 have h3:t*x<=999999999*999999999:=Iw (by unfold RB at ht;omega) (by unfold RB at hx;omega);have e:=Er (t*x+c) 1000000000;have l:=B4 (t*x+c) (show 1000000000>0 by decide);have k0:IntKind.i64.wrap ((t:Int)*(x:Int))=((t*x:Nat):Int):=by rw[<-F9,wI (by omega) (by omega)]
 unfold RB at*;have k1:IntKind.i64.wrap (((t*x:Nat):Int)+(c:Int))=((t*x+c:Nat):Int):=by rw[wI (by omega) (by omega)];omega
 have k2:((t*x+c:Nat):Int).tmod 1000000000=(((t*x+c)%1000000000:Nat):Int):=Ry _ 1000000000;have k3:IntKind.i64.wrap (((t*x+c:Nat):Int).tdiv 1000000000)=(((t*x+c)/1000000000:Nat):Int):=PI _ 1000000000 (by omega);generalize t*x=p at*;generalize(p+c)%1000000000=lo at*;generalize(p+c)/1000000000=hi at*;rcases BI z lo with h|h
 ·exact⟨_,_,_,_,z+1000000000-lo,hi+1,k0,k1,k2,k3,wI (by omega) (by omega),by omega,by omega,by omega,.inr ⟨rfl,by omega,by rw[wI (by omega) (by omega)];omega,by rw[wI (by omega) (by omega)];omega⟩⟩
 ·exact⟨_,_,_,_,z-lo,hi,k0,k1,k2,k3,wI (by omega) (by omega),by omega,by omega,by omega,.inl ⟨rfl,by omega⟩⟩
theorem mu {z x c:Nat}(hz:z<RB)(hx:x<RB)(hc:c<=1):∃p s d c':Nat,IntKind.i64.wrap ((z:Int)+(x:Int))=(p:Int)/\IntKind.i64.wrap ((p:Int)+(c:Int))=(s:Int)/\((s:Int)).tmod 1000000000=(d:Int) /\
  IntKind.i64.wrap (((s:Int)).tdiv 1000000000)=(c':Int)/\d<RB/\c'<=1/\d=(z+x+c)%RB/\c'=(z+x+c)/RB:=by
 have e:=Er (z+x+c) 1000000000;have l:=B4 (z+x+c) (show 1000000000>0 by decide);unfold RB at*;have k0:IntKind.i64.wrap ((z:Int)+(x:Int))=((z+x:Nat):Int):=by rw[wI (by omega) (by omega)];omega
 have k1:IntKind.i64.wrap (((z+x:Nat):Int)+(c:Int))=((z+x+c:Nat):Int):=by rw[wI (by omega) (by omega)];omega
 have k2:((z+x+c:Nat):Int).tmod 1000000000=(((z+x+c)%1000000000:Nat):Int):=Ry _ 1000000000;have k3:IntKind.i64.wrap (((z+x+c:Nat):Int).tdiv 1000000000)=(((z+x+c)/1000000000:Nat):Int):=PI _ 1000000000 (by omega);exact⟨_,_,_,_,k0,k1,k2,k3,l,by omega,rfl,rfl⟩
set_option maxHeartbeats 2000000
theorem qM:rD 0=.sl false 1 []:=by unfold rD;rw[Gp];rfl
theorem UW {H:Hp}{K g T:Nat}{l:List Nat}{N:Nat}(hl:l.length=N)(he:Hp.get H K=some ⟨K,g,T,1,l.map Ab⟩:=by exact rfl):Fz H [] (.osl K g 1 0 N) (.sl false 1 (l.map Ab)):=by
 subst hl;have key:∀(j:Nat) (d d':D),(l.map Ab)[0+j]?=some d->(l.map Ab)[j]?=some d'->d=d':=λj d d' h1 h2=>by
  rw[BV]at h1;rw[h1]at h2;exact F7 h2
 refine .osl (e:=⟨K,g,T,1,l.map Ab⟩) he rfl rfl rfl (by simp) (by simp) (λj d d' h1 h2=>by rw[key j d d' h1 h2]) λj d d' q c c' h1 h2 h3 h4=>?_
 rw[key j d d' h1 h2]at h3;rw[h3]at h4;cases h4;exact Fz.refl _
theorem lC (a b:Nat)(hab:a<b)(ha:(Aa a).length<1000000)(hb:(Aa b).length<1000000):AJ C0 157 [rD a,rD b] (.tup [rD (a/b),rD (a%b)]):=by
 rw[HZ hab,Dj hab,qM];refine Aj.walk w1 Uq rfl λF=>?_
 have cc:=Ru a b (by omega) (by omega);have e1:=Y5 hab;refine sR 0 ?_;refine AC.seq ?_;refine sR 100 ?_;refine cI cc ?_;rw[e1];refine AM ?_;refine sR 200 ?_;refine Ak ?_;exact⟨_,b7 (.nil 1) (.refl _),Yx (.sl λe he=>by cases he) (Oo _),rfl⟩
theorem nB (a b:Nat)(hab:b<=a)(ha:(Aa a).length<1000000)(hb:(Aa b).length=1)(hb0:b≠0):AJ C0 157 [rD a,rD b] (.tup [rD (a/b),rD (a%b)]):=by
 have cc:=Ru a b (by omega) (by omega);have e1:=Q1 hab;have hbl:b<RB:=by
  have:=I3 b
  rw[hb,Nat.pow_one]at this;exact this
 have hlb:(Aa b)[0]?=some b:=by rw[P8 hb0 hbl];rfl
 have hb':=Ds hlb;have cd:=XE a b (D8 hb0) hbl ha;have e3:(((((Aa b).map Ab).length:Nat):Int)==1)=true:=by rw[Am,hb];rfl
 have hml:a%b<RB:=GB (B4 _ (D8 hb0)) hbl;have hv:AO [a%b]=a%b:=by simp[AO]
 refine Aj.walk w1 Uq rfl λF=>?_
 generalize a/b=q at*;generalize a%b=r at*;unfold rD rL at cc cd⊢;change AC C0 F none F _ _ (Rq X1.tt _ (· = .tup [rD q,rD r]));generalize Aa a=la at*;generalize Aa b=lb at*;refine sR 0 ?_;refine AC.seq ?_;refine sR 100 ?_;refine cI cc ?_;rw[e1];refine AM ?_;refine Ao ?_;refine AC.seq ?_;refine sZ 300 ?_;refine AV e3 ?_;refine AM ?_;refine sZ 400 ?_;refine AE kN ?_;refine Bs kT hb' ?_;refine AE kN ?_;refine BE.same _ cd AI ?_;refine BP ?_;refine sR 500 ?_;have hrl:Rd [r]:=λa ha=>by
  simp only[BA,Dc,or_false]at ha;subst ha;exact hml
 refine BE.pure [rL [r]] _ ⟨.nn true 1 _,trivial⟩ (L4 [r] hrl (by simp)) AI ?_;refine BP ?_;refine Ak ?_;exact AK (by rw[hv];rfl) AA.out
theorem ye {H:Hp}{d1 d2 d3 e1 e2 e3:D}(h1:DQ H d1 e1)(h2:DQ H d2 e2)(h3:DQ H d3 e3):∀(i:Nat) (a b:D),[d1,d2,d3][i]?=some a->[e1,e2,e3][i]?=some b->DQ H a b
 | 0,_,_,ha,hb=>by cases ha;cases hb;exact h1
 | 1,_,_,ha,hb=>by cases ha;cases hb;exact h2
 | 2,_,_,ha,hb=>by cases ha;cases hb;exact h3
 |_+3,_,_,ha,_=>by cases ha
theorem jk {P v:List Nat}(d:D)(h:YN P v d):KA d:=by
 obtain⟨q,rfl,_⟩:=h;exact KA.prim _
theorem pI {v N Pn:List Nat}{t i c z x:Nat}(hz:N[i]?=some z)(hx:v[i]?=some x)(ht:t<RB)(hxl:x<RB)(hc:c<=RB)(hzl:z<RB)(hI:AO N+t*AO (v.take i)=AO Pn+RB^i*c):
  ∃(p x' lo hi d c':Nat) (e:Int),IntKind.i64.wrap ((t:Int)*(x:Int))=(p:Int)/\IntKind.i64.wrap ((p:Int)+(c:Int))=(x':Int)/\((x':Int)).tmod 1000000000=(lo:Int) /\
  IntKind.i64.wrap (((x':Int)).tdiv 1000000000)=(hi:Int)/\IntKind.i64.wrap ((z:Int)-(lo:Int))=e/\d<RB/\c'<=RB/\AO (N.set i d)+t*AO (v.take (i+1))=AO Pn+RB^(i+1)*c' /\
  ((decide (e<0)=false/\e=(d:Int)/\hi=c')\/(decide (e<0)=true/\IntKind.i64.wrap (e+1000000000)=(d:Int)/\IntKind.i64.wrap ((hi:Int)+1)=(c':Int))):=by
 obtain⟨p,lo,hi,x',d,c',k1,k2,k3,k4,k5,k6,k7,k8,k9⟩:=nE ht hxl hc hzl;have J:=iN (b:=0) (c':=0) (lo:=t*x+c) (b':=c') (d:=d) (A:=N) (P:=Pn) (v:=v) (q:=t) hz hx hI rfl (by rw[<-k8];exact Ed d (t*x) c ▸ rfl);refine⟨p,x',lo,hi,d,c',_,k1,k2,k3,k4,k5,k6,k7,by rw[J,BV],?_⟩;rcases k9 with⟨h1,h2⟩|⟨h1,h2,h3,h4⟩
 ·exact .inl ⟨Ah (by rw[h2];exact Int.not_lt.2 (Int.natCast_nonneg d)),h2,h1.symm⟩
 ·exact .inr ⟨AZ h2,h3,by rw[h1];exact h4⟩
theorem qO {v N Nb:List Nat}{i c z x:Nat}(hz:N[i]?=some z)(hx:v[i]?=some x)(hxl:x<RB)(hc:c<=1)(hzl:z<RB)(hI:AO N+RB^i*c=AO Nb+AO (v.take i)):
  ∃(p s d c':Nat),IntKind.i64.wrap ((z:Int)+(x:Int))=(p:Int)/\IntKind.i64.wrap ((p:Int)+(c:Int))=(s:Int)/\((s:Int)).tmod 1000000000=(d:Int) /\
  IntKind.i64.wrap (((s:Int)).tdiv 1000000000)=(c':Int)/\d<RB/\c'<=1/\AO (N.set i d)+RB^(i+1)*c'=AO Nb+AO (v.take (i+1)):=by
 obtain⟨p,s,d,c',k1,k2,k3,k4,k5,k6,rfl,rfl⟩:=mu hzl hxl hc;exact⟨p,s,_,_,k1,k2,k3,k4,k5,k6,iK hz hx hI⟩
theorem jT {U:List Nat}{k:Nat}(h:AO U<RB^k)(hk:k<=U.length):AO (U.take k)=AO U:=by
 have e:AO U=AO (U.take k)+RB^k*AO (U.drop k):=by
  conv=>lhs;rw[<-E8 k U]
  rw[Jd,Bb,FC hk]
 rcases Dh (AO (U.drop k))with h0|h0
 ·rw[h0,Eb,De]at e;exact e.symm
 ·exfalso
  have:=Cc (RB^k) h0
  omega
theorem jx {P v:List Nat}{m p0 p1 p2 v2 v1:Nat}(S:K4 P v m p0 p1 p2 v2 v1):∃Pn,P=Pn++[p2]/\Pn.length=m+2/\Rd Pn/\AO P=AO Pn+RB^(m+2)*p2:=by
 have hl:=S.lP;have e:P=P.take (m+2)++[p2]:=by
  rw[<-FF S.h2,CE (by omega)]
 have hn:(P.take (m+2)).length=m+2:=by rw[Bb];omega
 refine⟨P.take (m+2),e,hn,S.wP.take _,?_⟩
 conv=>lhs;rw[e]
 rw[HH hn]
theorem dZ {P N:List Nat}{m z V:Nat}(hl:N.length=m+2)(hN:Rd N)(hz:z<RB)(hv:AO N+RB^(m+2)*z=AO P%V):(N++[z]).length=m+3/\Rd (N++[z])/\AO (N++[z])=AO P%V:=by
 refine⟨by rw[Bk,hl];rfl,Rd.append hN λa ha=>?_,by rw[HH hl,hv]⟩;simp only[BA,Dc,or_false]at ha;subst ha;exact hz
set_option maxHeartbeats 4000000
theorem lE (a b m:Nat)(hab:b<=a)(ha:(Aa a).length<1000000)(hb:(Aa b).length=m+2):AJ C0 157 [rD a,rD b] (.tup [rD (a/b),rD (a%b)]):=by
 have hlen:=I1 b a hab;have cc:=Ru a b (by omega) (by omega);have e1:=Q1 hab;obtain⟨y,hy⟩:=CU (l:=Aa b) (i:=m+1) (by omega);have yl:y<RB:=Eg b y (Aw hy);obtain⟨f,ef,f0,fl,hvl⟩:=yZ hb hy;have wf:IntKind.i64.wrap ((1000000000:Int).tdiv ((y+1:Nat):Int))=(f:Int):=by
  rw[ef];exact PI 1000000000 (y+1) (BR (GA _ _) (by decide))
 have wy:IntKind.i64.wrap ((y:Int)+1)=((y+1:Nat):Int):=wI (by omega) (by unfold RB at yl;omega);have lf:Aa f=[f]:=P8 (Nat.pos_iff_ne_zero.1 f0) fl;have cv:=Vd b f (by omega) (by rw[lf];exact(by decide:1<1000000));have cu:=Vd a f (by omega) (by rw[lf];exact(by decide:1<1000000));have hu1:=Sr a f;have hu2:=I1 a (a*f) (Nat.le_mul_of_pos_right _ f0);rw[lf]at hu1;change _<=_+1 at hu1;obtain⟨v,hv⟩:∃v,v=Aa (b*f):=⟨_,rfl⟩
 have wv:Rd v:=by rw[hv];exact Eg _
 have vv:AO v=b*f:=by rw[hv];exact EA _
 rw[<-hv]at hvl;obtain⟨U0,hU0⟩:∃U0,U0=Aa (a*f):=⟨_,rfl⟩
 have wU0:Rd U0:=by rw[hU0];exact Eg _
 have vU0:AO U0=a*f:=by rw[hU0];exact EA _
 rw[<-hU0]at hu1 hu2;obtain⟨v1,h1⟩:=CU (l:=v) (i:=m+1) (by omega);obtain⟨v2,h2⟩:=CU (l:=v) (i:=m) (by omega);have v10:v1≠0:=P9 (b*f) (by rw[<-hv];exact hvl) (by rw[<-hv];exact h1);have b0:0<b:=by
  refine D8 λh=>?_
  subst h;rw[Gp]at hb;cases hb
 have vpos:0<AO v:=by rw[vv];exact Hd b0 f0
 have hup:=I3 a;have hbge:=S4 hb;unfold rD rL at cc cv cu;rw[lf,<-hv]at cv;rw[lf,<-hU0]at cu;refine Aj.walk w1 Uq rfl λF=>?_
 change AC C0 F none F _ ⟨DM 0 [.sl false 1 ((Aa a).map Ab),.sl false 1 ((Aa b).map Ab)],[],0⟩ _;generalize Aa a=la at*;generalize Aa b=lb at*;obtain⟨lq,hlq⟩:∃lq,la.length=lq+(m+2):=⟨la.length-(m+2),by omega⟩
 have hy':=Ds hy;have e3:((((lb.map Ab).length:Nat):Int)==1)=false:=by rw[Am,hb];exact Bu.2 (by omega)
 have elb:(((lb.map Ab).length:Nat):Int)=((m+2:Nat):Int):=by rw[Am,hb]
 have wlb0:IntKind.i64.wrap (((m+2:Nat):Int)-1)=((m+1:Nat):Int):=by rw[wI (by omega) (by omega)];omega
 have wlb:IntKind.i64.wrap ((((lb.map Ab).length:Nat):Int)-1)=((m+1:Nat):Int):=by rw[elb];exact wlb0
 have ea:(((la.map Ab).length:Nat):Int)=(la.length:Int):=by rw[Am]
 have ev:(((v.map Ab).length:Nat):Int)=((m+2:Nat):Int):=by rw[Am,hvl]
 have eu:(((U0.map Ab).length:Nat):Int)=(U0.length:Int):=by rw[Am]
 have wa1:IntKind.i64.wrap ((la.length:Int)+1)=((la.length+1:Nat):Int):=wI (by omega) (by omega);have wq0:IntKind.i64.wrap (((la.length+1:Nat):Int)-((m+2:Nat):Int))=((lq+1:Nat):Int):=by rw[wI (by omega) (by omega)];omega
 have wq1:IntKind.i64.wrap (((lq+1:Nat):Int)-1)=((lq+1:Nat):Int)-1:=wI (by omega) (by omega);have wraw:IntKind.i64.wrap (IntKind.i64.wrap (((la.length+1:Nat):Int)-((m+2:Nat):Int))-1)=((lq+1:Nat):Int)-1:=by rw[wq0,wq1]
 have r3:List.replicate (lq+1) (ofV (.int .i64 0))=(List.replicate (lq+1) 0).map Ab:=by rw[KM];rfl
 refine sR 0 ?_;refine AC.seq ?_;refine sR 100 ?_;refine cI cc ?_;rw[e1];refine AM ?_;refine Ao ?_;refine AC.seq ?_;refine sZ 300 ?_;refine AV e3 ?_;refine AM ?_;refine Ao ?_;refine sZ 600 ?_;refine AE (BZ wlb elb wlb0 kN) ?_;refine Bs kT hy' ?_;refine AE (At wy wf kN) ?_;refine sR 700 ?_;refine BE.pure [rL lb,rL [f]] _ ⟨.refl _,.nn true 1 _,trivial⟩ cv AI ?_;refine BP ?_;refine sZ 800 ?_;refine AV ev ?_;clear cc e1 e3 elb wlb wlb0 hy' yl hy wy wf hb;refine Cz (α:=Nat×Nat) (λp=>⟨[(0,.sl false 1 (la.map Ab)),(8,.sl true 1 [Ab f]),(9,.sl false 1 (v.map Ab)),(10,i64 ((m+2:Nat):Int)),(11,.osl 904 p.1 1 0 U0.length)],[⟨904,p.1,3,1,U0.map Ab⟩],p.2⟩) (λ_=>True) ?_ ?_
 ·refine rI 900 ?_
  refine BE.pure [rL la,rL [f]] _ ⟨.refl _,.nn true 1 _,trivial⟩ cu AI ?_;refine BP ?_;exact⟨rfl,⟨_,_⟩,trivial,AL⟩
 rintro⟨g,n2⟩ -;dsimp only;refine Cz (α:=Nat×Nat×List Nat×Nat) (λp=>⟨[(0,.sl false 1 (la.map Ab)),(8,.sl true 1 [Ab f]),(9,.sl false 1 (v.map Ab)),(10,i64 ((m+2:Nat):Int)),(11,.osl p.1 p.2.1 1 0 (la.length+1))],[⟨p.1,p.2.1,3,1,p.2.2.1.map Ab⟩],p.2.2.2⟩) (λp=>p.2.2.1.length=la.length+1/\Rd p.2.2.1/\AO p.2.2.1=a*f) ?_ ?_
 ·refine AC.block ?_
  rcases Nat.eq_or_lt_of_le hu1 with hl|hl
  ·have eN:decide (((la.length+1:Nat):Int)<((la.length+1:Nat):Int))=false:=Ah (by omega)
   rw[hl];refine Ge (α:=Nat) (λn=>⟨[(0,.sl false 1 (la.map Ab)),(8,.sl true 1 [Ab f]),(9,.sl false 1 (v.map Ab)),(10,i64 ((m+2:Nat):Int)),(11,.osl 904 g 1 0 (la.length+1))],[⟨904,g,3,1,U0.map Ab⟩],n⟩) (λ_=>0) (λ_ F'=>F'=F) n2 rfl AL ?_;rintro n3 F' rfl;refine AC.seq ?_;refine sZ 1000 ?_;refine AV (At ea wa1 eN) ?_;refine AM ?_;refine CC ?_;exact⟨rfl,⟨904,g,U0,_⟩,⟨hl,wU0,vU0⟩,AL⟩
  ·have hl2:U0.length=la.length:=by omega
   have eN:decide (((la.length+1:Nat):Int)<((la.length+1:Nat):Int))=false:=Ah (by omega);have eY:decide ((la.length:Int)<((la.length+1:Nat):Int))=true:=AZ (by omega);have hap:List.take la.length (U0.map Ab)++[D.prim (Value.int IntKind.i64 0)]=(U0++[0]).map Ab:=by
    rw[CE (by rw[Am];omega),DG];rfl
   rw[hl2];refine Ge (α:=Bool×Nat×Nat) (λp=>match p with
    |(false,_,n)=>⟨[(0,.sl false 1 (la.map Ab)),(8,.sl true 1 [Ab f]),(9,.sl false 1 (v.map Ab)),(10,i64 ((m+2:Nat):Int)),(11,.osl 904 g 1 0 la.length)],[⟨904,g,3,1,U0.map Ab⟩],n⟩
    |(true,g1,n)=>⟨[(0,.sl false 1 (la.map Ab)),(8,.sl true 1 [Ab f]),(9,.sl false 1 (v.map Ab)),(10,i64 ((m+2:Nat):Int)),(11,.osl 1102 g1 1 0 (la.length+1))],[⟨1102,g1,3,1,(U0++[0]).map Ab⟩],n⟩) (λp=>cond p.1 0 1) (λ_ F'=>F'=F) (false,0,n2) rfl AL ?_
   rintro⟨_|_,g1,n3⟩ F' rfl
   ·dsimp only
    refine AC.seq ?_;refine sZ 1000 ?_;refine AV (At ea wa1 eY) ?_;refine AM ?_;refine Ao ?_;refine AC.block ?_;refine rI 1100 ?_;refine⟨(true,n3+8,n3+10),rfl,(by decide:(0:Nat)<1),?_⟩;dsimp only;rw[hap];exact AL
   ·dsimp only
    refine AC.seq ?_;refine sZ 1000 ?_;refine AV (At ea wa1 eN) ?_;refine AM ?_;refine CC ?_;refine⟨rfl,⟨1102,g1,U0++[0],_⟩,⟨by rw[Bk,hl2];rfl,Rd.append wU0 λa ha=>?_,by rw[T9];exact vU0⟩,AL⟩;simp only[BA,Dc,or_false]at ha;subst ha;decide
 rintro⟨K,gK,U1,n3⟩ ⟨lU1,wU1,vU1⟩;dsimp only at lU1 wU1 vU1⊢;refine zf [(8,.sl true 1 [Ab f]),(9,.sl false 1 (v.map Ab)),(10,i64 ((m+2:Nat):Int)),(11,.osl 1102 n3 1 0 (la.length+1))] ⟨.inl rfl,.inl rfl,.inl rfl,.inr ⟨_,_,_,rfl,rfl⟩,trivial⟩ ?_;clear cu hU0 vU0 wU0 hu1 hu2 cv;refine Cz (α:=Nat×Nat) (λp=>⟨[(8,.sl true 1 [Ab f]),(9,.sl false 1 (v.map Ab)),(10,i64 ((m+2:Nat):Int)),(11,.osl 1102 n3 1 0 (la.length+1)),(12,.osl 1204 p.1 1 0 (lq+1))],[⟨1204,p.1,3,1,(List.replicate (lq+1) 0).map Ab⟩,⟨1102,n3,3,1,U1.map Ab⟩],p.2⟩) (λ_=>True) ?_ ?_
 ·refine Ap w1 1200 (by kernel_rfl) ?_
  refine AV (At wq0 kN r3) ?_;exact⟨trivial,⟨_,_⟩,trivial,by rw[<-r3];exact AL⟩
 rintro⟨g,n2⟩ -;dsimp only;have I0:MH (a*f) v U1 (List.replicate (lq+1) 0) (la.length+1) (lq+1) (lq+1):=by
  refine jU f0 vU1 vv wU1 lU1 rfl (Ai _) ?_
  have:RB^(lq+1)*RB^(m+1)<=RB^(lq+1)*b:=Cc _ hbge
  rw[<-GC,show lq+1+(m+1)=la.length by omega]at this;omega
 clear hup hbge;refine AC.seq ?_;refine sZ 1300 ?_;refine AV wraw ?_;refine AC.block ?_;refine AC.loop (α:=Nat×List Nat×List Nat×Nat) (λp=>⟨[(8,.sl true 1 [Ab f]),(9,.sl false 1 (v.map Ab)),(10,i64 ((m+2:Nat):Int)),(11,.osl 1102 n3 1 0 (la.length+1)),(12,.osl 1204 g 1 0 (lq+1)),(13,i64 ((p.1:Int)-1))],[⟨1204,g,3,1,p.2.2.1.map Ab⟩,⟨1102,n3,3,1,p.2.1.map Ab⟩],p.2.2.2⟩) (λp=>p.1)
  (λp=>p.1<=lq+1/\MH (a*f) v p.2.1 p.2.2.1 (la.length+1) (lq+1) p.1) (lq+1,U1,List.replicate (lq+1) 0,_) ⟨Ai _,I0⟩ AL ?_
 rintro⟨k,u,q,n4⟩ F ⟨hk,I⟩;dsimp only at hk I⊢;clear I0 wq0 wq1 wraw r3 ea eu wU1 vU1 lU1;refine AC.seq ?_;refine sR 1400 ?_;refine AM ?_
 (refine By (λh20=>?_) (λh20=>?_))<;>(try simp only[Bi,Bv]at h20)<;>(try simp only[h20])
 ·obtain⟨j,rfl⟩:∃j,k=j+1:=⟨k-1,by
   have:(k:Int)-1>=0:=by simpa using h20
   omega⟩
  have wj:((j+1:Nat):Int)-1=(j:Int):=by omega
  obtain⟨p0,p1,p2,SI,hz,hP⟩:=jw I hvl wv v1 v2 h2 h1 (D8 v10) (by omega);have lu:=I.lU;have cg:=oJ u v j m p0 p1 p2 v2 v1 SI (by omega) (by omega);rw[wj];refine Ao ?_;refine AC.seq ?_;refine AC.block ?_;refine sR 1600 ?_;refine BE.own _ (zp cg rfl (ye (DQ.of (UW lu)) (DQ.of (.refl _)) (DQ.of (.refl _))) AI jk) ?_;rintro d H' n5 ⟨⟨t,rfl,ht1,ht2,ht3⟩,rfl,rfl⟩;refine BP ?_;obtain⟨Pn,eP,lPn,wPn,vPn⟩:=jx SI;have hA:(u.take j).length=j:=by rw[Bb];omega
  have p2l:=SI.p2l;have hdl:AO ((u.drop j).take (m+3))/AO v<RB:=E9 SI.less;have hU:u.map Ab=blk (u.take j) Pn (p2:Int) (u.drop (j+(m+3))):=by rw[T1,<-eP,<-gH]
  have J:=λP' h1 h2 h3=>jv (P':=P') I vpos (by omega) (by omega) hz hP h1 h2 h3 hdl
  obtain⟨zq,hzq⟩:=CU (l:=q) (i:=j) (by rw[I.lQ];omega);have hzq':=Ds hzq;have wi':IntKind.i64.wrap ((j:Int)-1)=(j:Int)-1:=wI (by omega) (by omega);have wjn:IntKind.i64.wrap ((j:Int)+((m+2:Nat):Int))=((j+(m+2):Nat):Int):=by rw[wI (by omega) (by omega)];omega
  have hVW:=GL wv;rw[show v.length=m+2 from hvl]at hVW;rw[hU];clear hU cg hP hz SI eP h20 wj I h1 h2 v10;generalize(u.drop j).take (m+3)=P at*;generalize u.take j=A at*;generalize u.drop (j+(m+3))=Z at*;refine sR 1700 ?_;refine AC.seq ?_;refine sR 1800 ?_;refine AC.block ?_;refine AC.loop (α:=Nat×Nat×List Nat×Nat) (λp=>⟨[(8,.sl true 1 [Ab f]),(9,.sl false 1 (v.map Ab)),(10,i64 ((m+2:Nat):Int)),(11,.osl 1102 n3 1 0 (la.length+1)),(12,.osl 1204 g 1 0 (lq+1)),(13,i64 (j:Int)),(14,Ab t),(15,Ab p.2.1),(16,i64 p.1)],[⟨1204,g,3,1,q.map Ab⟩,⟨1102,n3,3,1,blk A p.2.2.1 (p2:Int) Z⟩],p.2.2.2⟩) (λp=>m+2-p.1)
   (λp=>p.1<=m+2/\p.2.1<=RB/\p.2.2.1.length=m+2/\Rd p.2.2.1/\AO p.2.2.1+t*AO (v.take p.1)=AO Pn+RB^p.1*p.2.1) (0,0,Pn,_) ⟨BX _,BX _,lPn,wPn,by simp[AO]⟩ AL ?_
  rintro⟨i,c,N,n6⟩ F ⟨hi,hc,hNl,hNw,hI⟩;dsimp only at hi hc hNl hNw hI⊢;refine AC.seq ?_;refine sR 1900 ?_;refine AM ?_
  (refine By (λhlt=>?_) (λhlt=>?_))<;>(try simp only[Bi,Bv]at hlt)<;>(try simp only[hlt])
  ·have hi2:i<m+2:=by
    have:=C6 hlt
    omega
   obtain⟨x,hx⟩:=CU (l:=v) (i:=i) (by omega);have hx':=Ds hx;have hxl:x<RB:=wv x (Aw hx);obtain⟨z,hz⟩:=CU (l:=N) (i:=i) (by omega);have hzl:=hNw z (Aw hz);have hz':=af (A:=A) (Z:=Z) (top:=(p2:Int)) hz;rw[hA]at hz';obtain⟨p,x',lo,hi',d,c',e,k1,k2,k3,k4,k5,dl,cl,hI',hb⟩:=pI hz hx ht1 hxl hc hzl hI;have hset:(blk A N (p2:Int) Z).set (j+i) (Ab d)=blk A (N.set i d) (p2:Int) Z:=by
    have:=ZK (A:=A) (Z:=Z) (top:=(p2:Int)) (i:=i) (d:=d) (N:=N) (by omega)
    rwa [hA]at this
   have wij:IntKind.i64.wrap ((i:Int)+(j:Int))=((j+i:Nat):Int):=by rw[wI (by omega) (by omega)];omega
   have wi:IntKind.i64.wrap ((i:Int)+1)=((i+1:Nat):Int):=wI (by omega) (by omega);clear hI J hVW vPn ht2 ht3 hdl;refine Ao ?_;refine AC.seq ?_;refine AC.block ?_;refine sZ 2100 ?_;refine AE kN ?_;refine Bs kT hx' ?_;refine AE (At kN k1 k2) ?_;refine sZ 2200 ?_;refine AE (EQ wij kN BV hz' k3 k5) ?_;refine sZ 2300 ?_;refine AV k4 ?_;rcases hb with⟨b1,b2,b3⟩|⟨b1,b2,b3⟩
   ·refine AC.seq ?_
    refine sZ 2400 ?_;refine AV b1 ?_;refine AM ?_;refine Ao ?_;subst b2 b3;refine Ap w1 2700 (by kernel_rfl) ?_;refine AE (BZ wij kN BV hz') ?_;rw[hset];refine Ap w1 2000 (by kernel_rfl) ?_;refine AV wi ?_;exact⟨(i+1,hi',N.set i d,_),⟨hi2,cl,by dsimp only;rw[DF];exact hNl,hNw.set dl,hI'⟩,by dsimp only;omega,AL⟩
   ·refine AC.seq ?_
    refine sZ 2400 ?_;refine AV b1 ?_;refine AM ?_;refine sZ 2500 ?_;refine AV b2 ?_;refine Ap w1 2600 (by kernel_rfl) ?_;refine AV b3 ?_;refine Ap w1 2700 (by kernel_rfl) ?_;refine AE (BZ wij kN BV hz') ?_;rw[hset];refine Ap w1 2000 (by kernel_rfl) ?_;refine AV wi ?_;exact⟨(i+1,c',N.set i d,_),⟨hi2,cl,by dsimp only;rw[DF];exact hNl,hNw.set dl,hI'⟩,by dsimp only;omega,AL⟩
  ·have hi2:i=m+2:=by
    have:=DP hlt
    omega
   subst hi2;rw[CE (by omega)]at hI;have hNlt:=GL hNw;rw[hNl]at hNlt;have htop:=T3 (A:=A) (Z:=Z) (top:=(p2:Int)) hNl;have hstop:=YR (A:=A) (Z:=Z) (top:=(p2:Int)) (t:=(p2:Int)-(c:Int)) hNl;have htop2:=T3 (A:=A) (Z:=Z) (top:=(p2:Int)-(c:Int)) hNl;rw[hA]at htop hstop htop2;have p2l9:p2<1000000000:=p2l;have hc9:c<=1000000000:=hc;have wzc:IntKind.i64.wrap ((p2:Int)-(c:Int))=(p2:Int)-(c:Int):=wI (by omega) (by omega);refine CC ?_;refine sZ 2800 ?_;refine AE (CO wjn kN BV htop wzc) ?_;rw[hstop];rcases BI p2 c with h|h
   ·have e29:decide ((p2:Int)-(c:Int)<0)=true:=AZ (by omega)
    have ht9:t<1000000000:=ht1;have wt:IntKind.i64.wrap ((t:Int)-1)=(t:Int)-1:=wI (by omega) (by omega);refine AC.seq ?_;refine sZ 2900 ?_;refine AE (CO wjn kN BV htop2 e29) ?_;refine AM ?_;refine sZ 3000 ?_;refine AV wt ?_;refine sR 3100 ?_;refine AC.seq ?_;refine sR 3200 ?_;refine AC.block ?_;refine AC.loop (α:=Nat×Nat×List Nat×Nat) (λp=>⟨[(8,.sl true 1 [Ab f]),(9,.sl false 1 (v.map Ab)),(10,i64 ((m+2:Nat):Int)),(11,.osl 1102 n3 1 0 (la.length+1)),(12,.osl 1204 g 1 0 (lq+1)),(13,i64 (j:Int)),(14,i64 ((t:Int)-1)),(19,Ab p.2.1),(20,i64 p.1)],[⟨1204,g,3,1,q.map Ab⟩,⟨1102,n3,3,1,blk A p.2.2.1 ((p2:Int)-(c:Int)) Z⟩],p.2.2.2⟩) (λp=>m+2-p.1)
     (λp=>p.1<=m+2/\p.2.1<=1/\p.2.2.1.length=m+2/\Rd p.2.2.1/\AO p.2.2.1+RB^p.1*p.2.1=AO N+AO (v.take p.1)) (0,0,N,_) ⟨BX _,BX _,hNl,hNw,by simp[AO]⟩ AL ?_
    rintro⟨i,c2,N2,n7⟩ F ⟨hi,hc2,hNl2,hNw2,hI2⟩;dsimp only at hi hc2 hNl2 hNw2 hI2⊢;clear htop hstop;refine AC.seq ?_;refine sR 3300 ?_;refine AM ?_
    (refine By (λhlt2=>?_) (λhlt2=>?_))<;>(try simp only[Bi,Bv]at hlt2)<;>(try simp only[hlt2])
    ·have hi2:i<m+2:=by
      have:=C6 hlt2
      omega
     obtain⟨x,hx⟩:=CU (l:=v) (i:=i) (by omega);have hx':=Ds hx;have hxl:x<RB:=wv x (Aw hx);obtain⟨z,hz⟩:=CU (l:=N2) (i:=i) (by omega);have hzl:=hNw2 z (Aw hz);have hz':=af (A:=A) (Z:=Z) (top:=(p2:Int)-(c:Int)) hz;rw[hA]at hz';obtain⟨p,s,d,c',k1,k2,k3,k4,dl,cl,hI'⟩:=qO hz hx hxl hc2 hzl hI2;have hset:(blk A N2 ((p2:Int)-(c:Int)) Z).set (j+i) (Ab d)=blk A (N2.set i d) ((p2:Int)-(c:Int)) Z:=by
      have:=ZK (A:=A) (Z:=Z) (top:=(p2:Int)-(c:Int)) (i:=i) (d:=d) (N:=N2) (by omega)
      rwa [hA]at this
     have wij:IntKind.i64.wrap ((i:Int)+(j:Int))=((j+i:Nat):Int):=by rw[wI (by omega) (by omega)];omega
     have wi:IntKind.i64.wrap ((i:Int)+1)=((i+1:Nat):Int):=wI (by omega) (by omega);clear hI2 hI J hVW vPn ht2 ht3 hdl;refine Ao ?_;refine AC.seq ?_;refine AC.block ?_;refine AC.seq ?_;refine B9 w1 3500 [0,1,2,3,4,5,6,7,8,9,10,11] [12,13] (by kernel_rfl) ?_;refine AE (BZ wij kN BV hz') ?_;refine Bs kT hx' ?_;refine AE (At kN k1 k2) ?_;refine sZ 3600 ?_;refine AE (CO wij kN BV hz' k3) ?_;rw[hset];refine Ap w1 3700 (by kernel_rfl) ?_;refine AV k4 ?_;refine Ap w1 3400 (by kernel_rfl) ?_;refine AV wi ?_;exact⟨(i+1,c',N2.set i d,_),⟨hi2,cl,by dsimp only;rw[DF];exact hNl2,hNw2.set dl,hI'⟩,by dsimp only;omega,AL⟩
    ·have hi2:i=m+2:=by
      have:=DP hlt2
      omega
     subst hi2;rw[CE (by omega)]at hI2;have hNlt2:=GL hNw2;rw[hNl2]at hNlt2;obtain⟨t0,g1,g2,g3⟩:=pH hI vPn h hNlt ht3 hI2 hc2 hNlt2 hVW;have htop3:=T3 (A:=A) (Z:=Z) (top:=(p2:Int)-(c:Int)) hNl2;have hstop3:=YR (A:=A) (Z:=Z) (top:=(p2:Int)-(c:Int)) (t:=((0:Nat):Int)) hNl2;rw[hA]at htop3 hstop3;have wfin:IntKind.i64.wrap ((p2:Int)-(c:Int)+(c2:Int))=((0:Nat):Int):=by rw[g3];rfl
     have et:(t:Int)-1=((t-1:Nat):Int):=by omega
     obtain⟨f1,f2,f3⟩:=dZ (P:=P) (V:=AO v) hNl2 hNw2 (z:=0) (by decide) (by rw[Eb,De];exact g2.symm);have J1:=J _ f1 f2 f3;rw[g1]at J1;refine CC ?_;refine Ap w1 3800 (by kernel_rfl) ?_;refine AE (CO wjn kN BV htop3 wfin) ?_;rw[hstop3,T1,et];refine Ap w1 3900 (by kernel_rfl) ?_;refine AE (At kN BV hzq') ?_;rw[M5];refine Ap w1 1500 (by kernel_rfl) ?_;refine AV wi' ?_;exact⟨(j,A++((N2++[0])++Z),q.set j (t-1),_),⟨by dsimp only;omega,J1⟩,by dsimp only;omega,AL⟩
   ·have e29:decide ((p2:Int)-(c:Int)<0)=false:=Ah (by omega)
    obtain⟨g1,g2⟩:=pG hI vPn h ht2;have ezc:(p2:Int)-(c:Int)=((p2-c:Nat):Int):=by omega
    obtain⟨f1,f2,f3⟩:=dZ hNl hNw (z:=p2-c) (by omega) g2.symm;have J1:=J _ f1 f2 f3;rw[g1]at J1;refine AC.seq ?_;refine sZ 2900 ?_;refine AE (CO wjn kN BV htop2 e29) ?_;refine AM ?_;refine Ao ?_;rw[ezc,T1];refine Ap w1 3900 (by kernel_rfl) ?_;refine AE (At kN BV hzq') ?_;rw[M5];refine Ap w1 1500 (by kernel_rfl) ?_;refine AV wi' ?_;exact⟨(j,A++((N++[p2-c])++Z),q.set j t,_),⟨by dsimp only;omega,J1⟩,by dsimp only;omega,AL⟩
 ·have hk:k=0:=by
   have:¬((k:Int)-1>=0):=by simpa using h20
   omega
  subst hk;obtain⟨q1,q2⟩:=kz f0 I vv;have wu:=I.wU;have wqq:=I.wq;have lu:=I.lU;have lqq:=I.lQ;have hlt:AO u<RB^(m+2):=by
   have:=I.less
   rw[Fk]at this;have h:=GL wv;rw[show v.length=m+2 from hvl]at h;omega
  have hta:=jT hlt (by omega);have hll:=LY hlt;rw[q2]at hll hta;have ed:a%b*f/f=a%b:=Nat.mul_div_cancel _ f0;have cd:=XE (a%b*f) f f0 fl (by omega);rw[ed]at cd;clear I;refine CC ?_;refine AC.weak ⟨[(8,.sl true 1 [Ab f]),(10,i64 ((m+2:Nat):Int)),(11,.sl false 1 (u.map Ab)),(12,.sl false 1 (q.map Ab))],[],_⟩ ⟨.drop (.drop .nil),⟨.refl _,.refl _,UW lu,UW lqq,trivial⟩,Ai _⟩ ?_;have e5:List.take (m+2) (u.map Ab)=(u.take (m+2)).map Ab:=by
   rw[List.map_take]
  have eu2:(u.map Ab).length=la.length+1:=by rw[Am];omega
  have ct:=L4 (u.take (m+2)) (wu.take _) (by rw[Bb];omega);rw[hta]at ct;refine AC.seq ?_;refine B9 w1 4000 [0,1,2,3,4,5,6,7,8,9,10,11] [12] (by kernel_rfl) ?_;refine AE (BZ kN Nat.sub_zero (@Fk D) e5) ?_;refine BU.same _ ct AI ?_;have hf0:([Ab f]:List D)[0]?=some (Ab f):=rfl;refine AE kN ?_;refine Bs kT hf0 ?_;refine AE kN ?_;refine BU.same _ cd AI ?_;refine AE kN ?_;refine sR 4100 ?_;refine BE.same _ (L4 q wqq (by omega)) AI ?_;refine BP ?_;refine Ak ?_;exact AK (by rw[q1]) AA.out
theorem Vz (a b:Nat)(hb:b≠0)(ha:(Aa a).length<1000000)(hbl:(Aa b).length<1000000):AJ C0 157 [rD a,rD b] (.tup [rD (a/b),rD (a%b)]):=by
 rcases BI a b with h|h
 ·exact lC a b h ha hbl
 ·rcases hl:(Aa b).length with _|m
  ·have:=I3 b
   rw[hl]at this;simp at this;exact Ae this hb
  ·rcases m with _|m
   ·exact nB a b h ha hl hb
   ·exact lE a b m h ha hl
abbrev rZ (z:Int):D:=.agg [As (decide (z<0)),rD z.natAbs]
def sg (neg:Bool)(n:Nat):Int:=if neg then -(n:Int)else n
theorem nU {n:Nat}:0<(Aa n).length↔n≠0:=by
 constructor
 ·rintro h rfl
  rw[Gp]at h;cases h
 ·intro h
  rw[I5 h,Bp];exact Nat.succ_pos _
theorem Xs (n:Nat):decide (((((Aa n).map Ab).length:Nat):Int)>0)=decide (n≠0):=by
 have:=@nU n
 rw[Am];exact C5.2 ⟨λh=>this.1 (by omega),λh=>by have:=this.2 h;omega⟩
theorem yC (neg:Bool)(n:Nat):rZ (sg neg n)=.agg [As (neg&&decide (n≠0)),rD n]:=by
 unfold rZ sg;cases neg
 ·simp only[ID,if_false,HX,ET]
  rw[Ah (by omega)]
 ·simp only[if_true,Gi,MU,ET]
  congr 3
  exact C5.2 (by omega)
theorem Rn (z:Int):sg (decide (z<0)) z.natAbs=z:=by
 unfold sg
 by_cases h:z<0
 ·rw[AZ h,AH rfl];omega
 ·rw[Ah h,AF (by decide)];omega
theorem Uw (b:Bool)(n:Nat):B8 (.agg [As b,.sl false 1 ((Aa n).map Ab)]):=.agg λd hd=>by
 simp only[BA,Dc,or_false]at hd;rcases hd with rfl|rfl
 ·exact .prim _
 ·exact Oo _
def G3 (z:Int):Prop:=(Aa z.natAbs).length<1000000
instance  (b:Bool)(n:Nat):AA (.agg [As b,rD n]):=⟨Uw b n⟩
theorem YV (a b:Nat)(fa:(Aa a).length<1000000)(fb:(Aa b).length<1000000):AJ C0 117 [rD a,rD b] (rD (Nat.gcd a b)):=by
 refine Aj.walk w1 rS rfl λF=>?_
 change AC C0 F none F _ ⟨DM 0 [.sl false 1 ((Aa a).map Ab),.sl false 1 ((Aa b).map Ab)],[],0⟩ _;refine sR 0 ?_;refine AC.seq ?_;refine AC.block ?_;refine AC.loop (α:=Nat×Nat×Nat) (λp=>⟨[(0,.sl false 1 ((Aa p.1).map Ab)),(1,.sl false 1 ((Aa p.2.1).map Ab))],[],p.2.2⟩) (λp=>p.2.1)
  (λp=>Nat.gcd p.1 p.2.1=Nat.gcd a b/\(Aa p.1).length<1000000/\(Aa p.2.1).length<1000000) (a,b,_) ⟨rfl,fa,fb⟩ AL ?_
 rintro⟨x,y,n⟩ F ⟨h1,h2,h3⟩;dsimp only at h1 h2 h3⊢;have et:=Xs y;refine AC.seq ?_;refine sZ 100 ?_;refine AV et ?_
 by_cases hy:y=0
 ·rw[Ah (by simpa using hy)]
  subst hy;refine AM ?_;refine CC ?_;refine sR 400 ?_;refine Ak ?_;refine AK (d0:=rD x) ?_ AA.out;rw[<-h1,Nat.gcd_zero_right]
 ·rw[AZ hy]
  have cd:=Vz x y hy h2 h3;refine AM ?_;refine Ao ?_;refine AC.block ?_;refine sR 200 ?_;refine cI cd ?_;refine rI 300 ?_;refine⟨(y,x%y,_),⟨?_,h3,?_⟩,B4 x (by omega),AL⟩
  ·dsimp only
   rw[<-h1,Ns x y,Nat.gcd_rec y x,Ns]
  ·exact Db (I1 _ _ (Nat.mod_le x y)) h2
theorem Yf (neg:Bool)(l:List Nat)(h:Rd l)(hl:l.length<1000000000):AJ C0 211 [As neg,rL l] (rZ (sg neg (AO l))):=by
 refine Aj.walk w1 cU rfl λF=>?_
 rw[yC];have ct:=L4 l h (by omega);generalize AO l=n at*;have et:=Xs n;unfold rD at ct⊢;unfold rL at ct⊢;refine sR 0 ?_;refine sR 100 ?_;refine cI ct ?_;refine AC.seq ?_;cases neg
 ·refine Ap w1 200 (by kernel_rfl) ?_
  refine AE et ?_;refine Ak ?_;exact AK (by simp) (Uw _ n)
 ·refine Ap w1 200 (by kernel_rfl) ?_
  refine AE et ?_;refine Ak ?_;exact AK (by simp) (Uw _ n)
theorem Lq (neg:Bool)(n:Nat)(h:(Aa n).length<1000000000):AJ C0 211 [As neg,rD n] (rZ (sg neg n)):=by
 have:=Yf neg (Aa n) (Eg n) h
 rwa [EA]at this
theorem Zn (z:Int)(h:G3 z):AJ C0 219 [rZ z] (rZ (-z)):=by
 have cs:=Lq (!decide (z<0)) z.natAbs (GB h (by decide));have e:rZ (sg (!decide (z<0)) z.natAbs)=rZ (-z):=by
  congr 1
  unfold sg
  by_cases hz:z<0
  ·rw[AZ hz];simp;omega
  ·rw[Ah hz];simp;omega
 rw[e]at cs;refine Aj.walk w1 sO rfl λF=>?_
 refine sR 0 ?_;refine sR 100 ?_;refine cI cs ?_;refine Ak ?_;exact AK rfl AA.out
theorem UI (x y:Int)(hx:G3 x)(hy:G3 y):AJ C0 162 [rZ x,rZ y] (rZ (x*y)):=by
 have cm:=Vd x.natAbs y.natAbs hx hy;have hl:(Aa (x.natAbs*y.natAbs)).length<1000000000:=Db (Sr _ _) (by unfold G3 at hx hy;omega);have cs:=λb=>Lq b (x.natAbs*y.natAbs) hl
 have e:sg (decide (x<0) != decide (y<0)) (x.natAbs*y.natAbs)=x*y:=by
  conv=>rhs;rw[<-Rn x,<-Rn y]
  generalize decide (x<0)=a;generalize decide (y<0)=b;unfold sg;cases a<;>cases b<;>simp[Int.neg_mul,Int.mul_neg]
 rw[<-e];refine Aj.walk w1 sr rfl λF=>?_
 refine sR 0 ?_;refine AC.seq ?_;refine B9 w1 100 [0,1,2,3,4,5,6,7,8,9] [10,11] (by kernel_rfl) ?_;refine AE kN ?_;refine BU.same _ cm AI ?_;refine AE kN ?_;refine BE.same _ (cs _) AI ?_;refine BP ?_;refine Ak ?_;exact AK rfl AA.out
theorem mh {a b:Nat}(h:b<=a):decide (D4 (a:Int) (b:Int)>=0)=true:=AZ (by unfold D4;split<;>(try split)<;>omega)
theorem mi {a b:Nat}(h:a<b):decide (D4 (a:Int) (b:Int)>=0)=false:=Ah (by unfold D4;split<;>(try split)<;>omega)
theorem uu (x y:Int)(hx:G3 x)(hy:G3 y):AJ C0 161 [rZ x,rZ y] (rZ (x+y)):=by
 refine Aj.walk w1 sq rfl λF=>?_
 unfold G3 at hx hy;cases hs:(decide (x<0)==decide (y<0))
 ·have hs':decide (x<0)≠decide (y<0):=by simpa using hs
  have hs2:(x<0/\¬y<0)\/(¬x<0/\y<0):=by
   by_cases h1:x<0<;>by_cases h2:y<0<;>simp_all
  have cc:=Ru x.natAbs y.natAbs (by omega) (by omega);refine sR 0 ?_;refine AC.seq ?_;refine sZ 100 ?_;refine AV hs ?_;refine AM ?_;refine Ao ?_;refine AC.seq ?_;refine sR 300 ?_;refine cI cc ?_;rcases BI x.natAbs y.natAbs with h|h
  ·have cb:=gD y.natAbs x.natAbs (KL h) hy
   have cs:=Lq (decide (y<0)) (y.natAbs-x.natAbs) (Db (Ws _ _) (by omega));have e:sg (decide (y<0)) (y.natAbs-x.natAbs)=x+y:=by
    unfold sg
    by_cases hy0:y<0
    ·rw[AZ hy0,AH rfl];omega
    ·rw[Ah hy0,AF (by decide)];omega
   rw[e]at cs;rw[mi h];refine AM ?_;refine Ao ?_;refine AC.seq ?_;refine B9 w1 500 [0,1,2,3,4,5,6] [7,8] (by kernel_rfl) ?_;refine AE kN ?_;refine BU.same _ cb AI ?_;refine AE kN ?_;refine BE.same _ cs AI ?_;refine BP ?_;refine Ak ?_;exact AK rfl AA.out
  ·have cb:=gD x.natAbs y.natAbs h hx
   have cs:=Lq (decide (x<0)) (x.natAbs-y.natAbs) (Db (Ws _ _) (by omega));have e:sg (decide (x<0)) (x.natAbs-y.natAbs)=x+y:=by
    unfold sg
    by_cases hx0:x<0
    ·rw[AZ hx0,AH rfl];omega
    ·rw[Ah hx0,AF (by decide)];omega
   rw[e]at cs;rw[mh h];refine AM ?_;refine AC.seq ?_;refine B9 w1 400 [0,1,2,3,4,5,6] [7,8] (by kernel_rfl) ?_;refine AE kN ?_;refine BU.same _ cb AI ?_;refine AE kN ?_;refine BE.same _ cs AI ?_;refine BP ?_;refine Ak ?_;exact AK rfl AA.out
 ·have hs':decide (x<0)=decide (y<0):=by simpa using hs
  have ca:=vf x.natAbs y.natAbs hx hy;have cs:=Lq (decide (x<0)) (x.natAbs+y.natAbs) (Db (Wq _ _) (by omega));have e:sg (decide (x<0)) (x.natAbs+y.natAbs)=x+y:=by
   unfold sg
   by_cases hx0:x<0
   ·have hy0:y<0:=C6 (hs'.symm.trans (AZ hx0))
    rw[AZ hx0,AH rfl];omega
   ·have hy0:¬y<0:=DP (hs'.symm.trans (Ah hx0))
    rw[Ah hx0,AF (by decide)];omega
  rw[e]at cs;refine sR 0 ?_;refine AC.seq ?_;refine sZ 100 ?_;refine AV hs ?_;refine AM ?_;refine AC.seq ?_;refine B9 w1 200 [0,1,2,3,4,5,6] [7,8] (by kernel_rfl) ?_;refine AE kN ?_;refine BU.same _ ca AI ?_;refine AE kN ?_;refine BE.same _ cs AI ?_;refine BP ?_;refine Ak ?_;exact AK rfl AA.out
theorem iq (k m:Nat):Ev (k+1) m []=Ev k (m/10) []++[UInt8.ofNat (48+m%10)]:=by
 rw[<-Wc (k+1) m [] (.inr (Nat.succ_pos k))];unfold Ev MP
 by_cases h:m/10=0
 ·rw[AH h,AH h];simp
 ·rw[AF h,AF h]
  rw[DE,Bk,Gj,Nat.add_sub_add_right,Di]
theorem UK:∀(k hi d:Nat),hi≠0->d<10^k->Lib.decDigits (hi*10^k+d)=Lib.decDigits hi++Ev k d []
 | 0,hi,d,_,hd=>by
  have h0:d=0:=by simpa using hd
  subst h0;rw[MX,EG,De];simp[Ev,MP]
 |k+1,hi,d,hh,hd=>by
  have e1:hi*10^(k+1)=10*(hi*10^k):=by rw[CN,<-Bz,BS]
  have h1:1<=10^k:=Nat.pow_pos (by decide);have h2:1<=hi*10^k:=Hd (D8 hh) h1;have h3:¬hi*10^(k+1)+d<10:=by omega
  have h4:d/10<10^k:=by rw[CN]at hd;omega
  rw[iq,<-Di,<-UK k hi (d/10) hh h4];rw[Lib.decDigits,dif_neg h3,e1]
  congr 2
  ·omega
  ·congr 1;omega
theorem ru (hi d:Nat)(h:hi≠0)(hd:d<RB):Lib.decDigits (d+RB*hi)=Lib.decDigits hi++Ev 9 d []:=by
 have:=UK 9 hi d h (CZ hd (by decide))
 rw[<-this]
 congr 1
 rw[BS,LO]
theorem Ob {l:List Nat}(h:Rd l):(Lib.decDigits (AO l)).length<=9*l.length+1:=by
 have h1:=GL h;have e:RB^l.length=10^(9*l.length):=by rw[Nat.pow_mul]
 rw[e]at h1;refine Md _ _ (GB h1 ?_);exact Nat.pow_lt_pow_right (by decide) (Ha _)
theorem ZR (neg:Bool)(n:Nat)(h:neg=true->n≠0):Lib.itoa (sg neg n)=if neg then 45::Lib.decDigits n else Lib.decDigits n:=by
 unfold Lib.itoa sg;cases neg
 ·simp only[ID,if_false]
  rw[AF (by omega)];rfl
 ·have:=h rfl
  simp only[if_true];rw[AH (by omega),MU];rfl
theorem vo (neg:Bool)(n:Nat)(h:neg=true->n≠0)(hl:(Aa n).length<1000000):AJ C0 220 [.agg [As neg,rD n]] (str (sb (Lib.itoa (sg neg n)))):=by
 refine Aj.walk w1 sP rfl λF=>?_
 rw[ZR neg n h];change AC C0 F none F _ ⟨DM 0 [.agg [As neg,.sl false 1 ((Aa n).map Ab)]],[],0⟩ _;have vn:=EA n;have wn:=Eg n;have tp:=λk a=>P9 n (k:=k) (a:=a)
 generalize Aa n=l at*;subst vn;rcases hc:l.length with _|m
 ·have e0:l=[]:=En hc
  subst e0;have hn:neg=false:=by cases neg;rfl;exact Ae rfl (h rfl)
  subst hn;have e1:Lib.decDigits (AO [])=[48]:=by unfold Lib.decDigits AO;rw[dif_pos (by decide)];rfl
  rw[AF (by decide),e1];refine sR 0 ?_;refine AC.seq ?_;refine sR 100 ?_;refine AM ?_;refine sR 200 ?_;refine Ak ?_;exact AK rfl AA.out
 ·obtain⟨y,hy⟩:=CU (l:=l) (i:=m) (by omega)
  have yl:=wn y (Aw hy);have y0:=tp m y hc hy;have hy':=Ds hy;have el:(((l.map Ab).length:Nat):Int)=((m+1:Nat):Int):=by rw[Am,hc]
  have et:(((m+1:Nat):Int)==0)=false:=Bu.2 (by omega);have w0:IntKind.i64.wrap (((m+1:Nat):Int)-1)=(m:Int):=by rw[wI (by omega) (by omega)];omega
  have w2:IntKind.i64.wrap (((m+1:Nat):Int)-2)=(m:Int)-1:=by rw[wI (by omega) (by omega)];omega
  have cd:=QC y 1 (by unfold RB at yl;omega);rw[Y7]at cd;have wr0:IntKind.i64.wrap ((((l.map Ab).length:Nat):Int)-1)=(m:Int):=by rw[el,w0]
  have ed:l.drop m=[y]:=by
   rw[EU (by omega),Hb (by omega)];rw[BG (by omega)]at hy;rw[F7 hy]
  refine sR 0 ?_;refine AC.seq ?_;refine sZ 100 ?_;refine AV (Ad el et) ?_;refine AM ?_;refine Ao ?_;refine sZ 300 ?_;refine AE (BZ el w0 wr0 kN) ?_;refine Bs kT hy' ?_;refine AE kN ?_;refine BE.same _ cd AI ?_;refine BP ?_;have ev:AO (l.drop m)=y:=by rw[ed];simp[AO]
  refine AC.seq ?_;refine sZ 400 ?_;refine AV (Ad el w2) ?_;refine AC.block ?_;refine AC.loop (α:=Nat×Nat) (λp=>⟨[(1,.optr 0 0 2 0 0),(3,str (sb (Lib.decDigits (AO (l.drop p.1))))),(4,i64 ((p.1:Int)-1))],[⟨0,0,160,2,[.agg [As neg,.sl false 1 (l.map Ab)]]⟩],p.2⟩) (λp=>p.1)
   (λp=>p.1<=m/\AO (l.drop p.1)≠0) (m,_) ⟨Ai _,by dsimp only;rw[ev];exact y0⟩ (by dsimp only;rw[ev];exact AL) ?_
  rintro⟨k,n1⟩ F ⟨h1,h2⟩;dsimp only at h1 h2⊢;clear cd;refine AC.seq ?_;refine sR 500 ?_;refine AM ?_
  (refine By (λh20=>?_) (λh20=>?_))<;>(try simp only[Bi,Bv]at h20)<;>(try simp only[h20])
  ·obtain⟨j,rfl⟩:∃j,k=j+1:=⟨k-1,by
    have:(k:Int)-1>=0:=by simpa using h20
    omega⟩
   have wj:((j+1:Nat):Int)-1=(j:Int):=by omega
   obtain⟨d,hd⟩:=CU (l:=l) (i:=j) (by omega);have hd':=Ds hd;have dl:=wn d (Aw hd);have c9:=QC d 9 (by unfold RB at dl;omega);have eD:Lib.decDigits (AO (l.drop (j+1)))++Ev 9 d []=Lib.decDigits (AO (l.drop j)):=by rw[QF hd,ru _ _ h2 dl]
   have hlen:=Ob (l:=l.drop j) λa ha=>wn a (KK ha)
   rw[<-eD,Bk,Dv]at hlen;have h3:AO (l.drop j)≠0:=by
    rw[QF hd]
    have:0<RB*AO (l.drop (j+1)):=Hd (by decide) (D8 h2)
    omega
   have z1:=Ci (Lib.decDigits (AO (l.drop (j+1))));have z2:=Oj (Ev 9 d []);have wi:IntKind.i64.wrap ((j:Int)-1)=(j:Int)-1:=wI (by omega) (by omega);rw[wj];refine Ao ?_;refine AC.seq ?_;refine AC.block ?_;refine Ap w1 700 (by kernel_rfl) ?_;refine AE kN ?_;refine Bs kT hd' ?_;refine AE kN ?_;refine BE.same _ c9 AI ?_;refine BP ?_;rw[JH,eD];refine Ap w1 600 (by kernel_rfl) ?_;refine AV wi ?_;exact⟨(j,_),⟨by dsimp only;omega,h3⟩,by dsimp only;omega,AL⟩
  ·have hk:k=0:=by
    have:¬((k:Int)-1>=0):=by simpa using h20
    omega
   subst hk;rw[Fk]at h2⊢;have hlen:=Ob wn;have z1:=Ci (Lib.decDigits (AO l));have z2:(⟨#[45]⟩:ByteArray).size=1:=rfl;refine CC ?_;refine AC.seq ?_;refine AC.seq ?_;cases neg
   ·refine rI 800 ?_
    refine AM ?_;refine Ao ?_;rw[AF (by decide)];refine sR 1000 ?_;refine Ak ?_;exact AK rfl AA.out
   ·refine rI 800 ?_
    refine AM ?_;rw[AH rfl];refine sR 900 ?_;refine Ak ?_;refine AK ?_ AA.out;show str ((⟨([45]:List UInt8).toArray⟩:ByteArray)++⟨(Lib.decDigits (AO l)).toArray⟩)=_;rw[JH];rfl
theorem ck (z:Int)(h:G3 z):AJ C0 220 [rZ z] (str (sb (Lib.itoa z))):=by
 have:=vo (decide (z<0)) z.natAbs (λh=>by have:=C6 h;omega) h
 rwa [Rn]at this
theorem Pf {C:BD}{f:Nat}{ds ds':List D}{Φ:D->Prop}{H:Hp}{n:Nat}(Hf:Hp)(hc:Aj C f ds' Φ)(hH:Ck H Hf H Hf)(hv:Ee H Hf ds ds')
  (hp:Al ds'):Cg C f ds H n (λd' H' n'=>Φ d'/\H'=Hf/\n'=n+1):=by
 refine⟨hc.1,λF ρ w vs m hfr hg hvs hr=>?_⟩;obtain⟨m',hO,hN⟩:=hH.mem m;obtain⟨l1,l2⟩:=hv.spec;refine(hc.2 (AN F.X ρ Hf) w vs m.g (BR m.gn m.size) (λb hb=>m'.own_lt hb) (by omega) λi x hx=>?_).mono ?_
 ·have hi:i<ds'.length:=(List.getElem?_eq_some_iff.1 hx).1
  have hd0:ds[i]?=some ds[i]:=BG (by omega);exact hp.out x (Aw hx) _ _ _ _ _ ((l2 i _ x hd0 hx).rep m hO hN (hr i _ hd0))
 ·rintro e w' ⟨v,d',rfl,hb,hd',rep⟩
  have hb2:∀(b:Nat) (cs:Array Value) (T:Nat) (fz:Nat×Nat),w.heap[b]?=some (.cells cs T fz)->∃(cs':Array Value) (fz':Nat×Nat),w'.heap[b]?=some (.cells cs' T fz')/\cs'.size=cs.size:=λb cs T fz hh=>⟨cs,_,by
   rw[hb.block b (Array.getElem?_eq_some_iff.1 hh).1];exact hh,rfl⟩
  have x:BT ρ (AN F.X ρ H) w ρ (AN F.X ρ Hf) w':=⟨hb.size,λ_ _ _ h=>h,λb hb' hO2=>⟨λh=>hO2 (hO b h),hb.block b hb'⟩,hb2⟩
  have x':BT ρ (AN F.X ρ Hf) w ρ (AN F.X ρ Hf) w':=⟨hb.size,λ_ _ _ h=>h,λb hb' hO2=>⟨hO2,hb.block b hb'⟩,hb2⟩
  refine⟨v,_,Hf,n+1,ρ,rfl,⟨hd',rfl,rfl⟩,m'.same x' hb.os hb.tape hb.output hb.block,x,λk g hg'=>hfr k g (by omega),λe he=>?_,rep.mono ⟨Ai _,λ_ _ _ h=>(by cases h),λb _ hO2=>⟨hO2,rfl⟩,λb cs T fz h=>⟨cs,_,h,rfl⟩⟩⟩;obtain⟨e',h1,h2,h3,_⟩:=hH.names e he
  have:=hg e' h1
  omega
theorem jX {l:List UInt8}{i:Nat}{c:UInt8}(hc:l[i]?=some c)(hi:i<=BK l):(((c.toNat:Nat):Int)==47)=decide (i=BK l):=by
 have e1:(((c.toNat:Nat):Int)==47)=(c==47):=by
  rw[Fm,EH,EH,<-UInt8.toNat_inj];exact⟨λh=>(show c.toNat=47 by omega),λh=>by rw[h];rfl⟩
 rw[e1];unfold BK at hi⊢;clear e1
 induction l generalizing i with
 |nil=>cases hc
 |cons a l ih=>
  rw[Po]at hi⊢;cases i with
  |zero=>
   cases hc
   by_cases h:c=47
   ·subst h;rfl
   ·have h1:(c != 47)=true:=by simpa using h
    have h2:(c==47)=false:=by simpa using h
    rw[AH h1,h2,Bp,Ah (by omega)]
  |succ i=>
   by_cases h:a=47
   ·subst h
    exact Ae hi (by simp)
   ·have h1:(a != 47)=true:=by simpa using h
    rw[AH h1,Bp]at hi⊢;rw[ih hc (by omega)];exact C5.2 (by omega)
theorem RC (l:List UInt8)(h:l.all Bf=true)(hl:l.length<=18):AJ C0 210 [str (sb l)] (i64 (dv l:Int)):=by
 refine Aj.walk w1 sH rfl λF=>?_
 have hsz:=Ci l;refine sR 0 ?_;refine sR 100 ?_;refine AC.seq ?_;refine sR 200 ?_;refine AC.block ?_;refine AC.loop (α:=Nat×Nat) (λp=>⟨[(0,str (sb l)),(3,i64 (dv (l.take p.1):Int)),(4,i64 (p.1:Int))],[],p.2⟩) (λp=>l.length-p.1) (λp=>p.1<=l.length) (0,_) (BX _) AL ?_;rintro⟨i,n⟩ F hi;dsimp only at hi⊢;refine AC.seq ?_;refine sZ 300 ?_;refine AV hsz ?_;refine AM ?_
 (refine By (λhlt=>?_) (λhlt=>?_))<;>(try simp only[Bi,Bv]at hlt)<;>(try simp only[hlt])
 ·have hi2:i<l.length:=by
   have:=C6 hlt
   omega
  obtain⟨c,hc⟩:∃c,l[i]?=some c:=⟨l[i],BG hi2⟩
  have hcd:Bf c=true:=CS.1 h c (Aw hc);obtain⟨c1,c2⟩:=Lg hcd;have hg:(sb l).data.toList.getD i 0=c:=by
   show(l.toArray.toList).getD i 0=c;simp[hc]
  have hdl:dv (l.take i)<10^17:=by
   have:=GS (l.take i) (CS.2 λa ha=>CS.1 h a (FX ha))
   rw[Bb,FC hi]at this;exact CZ this (FY (by decide) (by omega))
  have hnx:dv (l.take (i+1))=dv (l.take i)*10+(c.toNat-48):=by
   rw[Dp,hc];show dv (l.take i++[c])=_;rw[OG];simp[dv,G4]
  have k1:IntKind.i64.wrap (10*(dv (l.take i):Int))=((10*dv (l.take i):Nat):Int):=by rw[wI (by omega) (by omega)];omega
  have k2:IntKind.i64.wrap ((c.toNat:Nat):Int)=((c.toNat:Nat):Int):=wI (by omega) (by omega);have k3:IntKind.i64.wrap (((10*dv (l.take i):Nat):Int)+((c.toNat:Nat):Int))=((10*dv (l.take i)+c.toNat:Nat):Int):=by rw[wI (by omega) (by omega)];omega
  have k4:IntKind.i64.wrap (((10*dv (l.take i)+c.toNat:Nat):Int)-48)=((dv (l.take (i+1)):Nat):Int):=by rw[hnx,wI (by omega) (by omega)];omega
  have wi:IntKind.i64.wrap ((i:Int)+1)=((i+1:Nat):Int):=wI (by omega) (by omega);refine Ao ?_;refine AC.seq ?_;refine AC.block ?_;refine Ap w1 500 (by kernel_rfl) ?_;refine AV (EQ kN hg k1 k2 k3 k4) ?_;refine Ap w1 400 (by kernel_rfl) ?_;refine AV wi ?_;exact⟨(i+1,_),hi2,by dsimp only;omega,AL⟩
 ·have hi2:i=l.length:=by
   have:=DP hlt
   omega
  subst hi2;rw[CE (Ai _)];refine CC ?_;refine sR 600 ?_;refine Ak ?_;exact AK rfl AA.out
theorem UD (l:List UInt8)(hl:l.length<=1000000000):AJ C0 114 [str (sb l)] (i64 (BK l:Int)):=by
 refine Aj.walk w1 rO rfl λF=>?_
 have hsz:=Ci l;refine sR 0 ?_;refine AC.seq ?_;refine sR 100 ?_;refine AC.block ?_;refine AC.loop (α:=Nat×Nat) (λp=>⟨[(0,str (sb l)),(3,i64 (p.1:Int))],[],p.2⟩) (λp=>l.length-p.1) (λp=>p.1<=BK l) (0,_) (BX _) AL ?_;rintro⟨i,n⟩ F hi;dsimp only at hi⊢;have hsl:=Lc l;refine AC.seq ?_;refine sZ 200 ?_;refine AV hsz ?_;refine AM ?_
 (refine By (λhlt=>?_) (λhlt=>?_))<;>(try simp only[Bi,Bv]at hlt)<;>(try simp only[hlt])
 ·have hi2:i<l.length:=by
   have:=C6 hlt
   omega
  obtain⟨c,hc⟩:∃c,l[i]?=some c:=⟨l[i],BG hi2⟩
  have hg:(sb l).data.toList.getD i 0=c:=by
   show(l.toArray.toList).getD i 0=c;simp[hc]
  have wi:IntKind.i64.wrap ((i:Int)+1)=((i+1:Nat):Int):=wI (by omega) (by omega);have ht:(((c.toNat:Nat):Int)==47)=decide (i=BK l):=jX hc hi;refine Ao ?_;refine AC.seq ?_;refine AC.block ?_;refine sZ 400 ?_;refine AV (At kN hg ht) ?_
  by_cases he:i=BK l
  ·rw[AZ he]
   refine AM ?_;refine sR 500 ?_;refine Ak ?_;exact AK (by rw[he]) AA.out
  ·rw[Ah he]
   refine AM ?_;refine Ao ?_;refine Ap w1 300 (by kernel_rfl) ?_;refine AV wi ?_;exact⟨(i+1,_),by dsimp only;omega,by dsimp only;omega,AL⟩
 ·have hi2:i=l.length:=by
   have:=DP hlt
   omega
  refine CC ?_;refine sZ 600 ?_;refine AV hsz ?_;refine Ak ?_;exact AK (by congr 3;omega) AA.out
theorem YH {H Hf:Hp}{K g T:Nat}{l:List Nat}{N:Nat}(hl:l.length=N)(he:Hp.get H K=some ⟨K,g,T,1,l.map Ab⟩:=by exact rfl)(hn:Hp.get Hf K=none:=by exact rfl):Fz H Hf (.osl K g 1 0 N) (.sl false 1 (l.map Ab)):=by
 subst hl;have key:∀(j:Nat) (d d':D),(l.map Ab)[0+j]?=some d->(l.map Ab)[j]?=some d'->d=d':=λj d d' h1 h2=>by
  rw[BV]at h1;rw[h1]at h2;exact F7 h2
 refine .osl (e:=⟨K,g,T,1,l.map Ab⟩) he hn rfl rfl (by simp) (by simp) (λj d d' h1 h2=>by rw[key j d d' h1 h2]) λj d d' q c c' h1 h2 h3 h4=>?_
 rw[key j d d' h1 h2]at h3;rw[h3]at h4;cases h4;exact Fz.refl _
theorem Qk (c:UInt8)(l:List UInt8):(((c.toNat:Nat):Int)==45)=DN (c::l):=by
 show _=(c==45);rw[Fm,EH,EH,<-UInt8.toNat_inj];exact⟨λh=>(show c.toNat=45 by omega),λh=>by rw[h];rfl⟩
abbrev NK:Ay:=⟨0,0,160,2,[.agg [As false,CR]]⟩
theorem sC {x:List UInt8}(h:9<x.length):dv x=dv (x.take (x.length-9))*RB+dv (x.drop (x.length-9)):=by
 conv=>lhs;rw[<-E8 (x.length-9) x,OG,Dv,show x.length-(x.length-9)=9 by omega]
theorem uw (A B t n v:Nat):(A*B+t)*B^n+v=A*B^(n+1)+(v+B^n*t):=by
 rw[Bw,Bz,CN,BS B,BS t];omega
theorem W1 {x x0:List UInt8}{w:List Nat}(h9:9<x.length)(g1:x.all Bf=true)(g2:x.length+w.length*9=x0.length)(g3:Rd w)(g4:dv x0=dv x*RB^w.length+AO w):
  (x.take (x.length-9)).all Bf=true/\(x.take (x.length-9)).length+(w++[dv (x.drop (x.length-9))]).length*9=x0.length/\Rd (w++[dv (x.drop (x.length-9))]) /\
  dv x0=dv (x.take (x.length-9))*RB^(w++[dv (x.drop (x.length-9))]).length+AO (w++[dv (x.drop (x.length-9))]):=by
 refine⟨CS.2 λa ha=>CS.1 g1 a (FX ha),?_,Rd.append g3 λa ha=>?_,?_⟩
 ·rw[Bb,Bk,Gj];omega
 ·simp only[BA,Dc,or_false]at ha
  subst ha
  have:=GS (x.drop (x.length-9)) (CS.2 λa ha=>CS.1 g1 a (KK ha))
  rwa [Dv,show x.length-(x.length-9)=9 by omega]at this
 ·rw[g4,sC h9,HH rfl,Bk,Gj]
  exact uw _ _ _ _ _
theorem kq {x x0:List UInt8}{w:List Nat}(h9:x.length<=9)(g1:x.all Bf=true)(g3:Rd w)(g4:dv x0=dv x*RB^w.length+AO w):Rd (w++[dv x])/\AO (w++[dv x])=dv x0:=by
 refine⟨Rd.append g3 λa ha=>?_,?_⟩
 ·simp only[BA,Dc,or_false]at ha
  subst ha;exact CZ (GS x g1) (FY (by decide) h9)
 ·rw[g4,HH rfl,BS,LO]
theorem ZH {w:List Nat}{a:Nat}:List.take w.length (w.map Ab)++[i64 (a:Int)]=(w++[a]).map Ab:=by
 rw[CE (by rw[Am];exact Ai _),DG];rfl
theorem Zh (l:List UInt8)(hd:(Bo l).all Bf=true)(hl:l.length<=1000000):AJ C0 155 [str (sb l)] (rZ (rv l)):=by
 have er:rv l=sg (DN l) (dv (Bo l)):=rfl;rw[er];refine Aj.walk w1 sf rfl λF=>?_
 have hsz:=Ci l;have hdl:(Bo l).length<=l.length:=by
  unfold Bo;split
  ·rw[Dv];omega
  ·exact Ai _
 refine sR 0 ?_;refine Cz (α:=Nat) (λn=>⟨[(0,str (sb l)),(2,.optr 0 0 2 0 0),(3,As (DN l))],[NK],n⟩) (λ_=>True) ?_ ?_
 ·cases l with
  |nil=>
   have e0:(sb []).size=0:=rfl;have e1:decide (((0:Nat):Int)>0)=false:=rfl;refine Ap w1 100 (by kernel_rfl) ?_;refine AE (Ad e0 e1) ?_;refine AE (Ad kF e1) ?_;exact⟨trivial,_,trivial,AL⟩
  |cons c l=>
   have hpos:(sb (c::l)).size=l.length+1:=hsz;have e0:decide (((sb (c::l)).size:Int)>0)=true:=AZ (by omega);have e1:((((c::l).getD (Int.toNat 0) 0).toNat:Int)==45)=DN (c::l):=Qk c l;refine Ap w1 100 (by kernel_rfl) ?_;refine AE e0 ?_;refine AE (At kT e0 e1) ?_;exact⟨trivial,_,trivial,AL⟩
 rintro n0 -;refine Cz (α:=Nat) (λn=>⟨[(0,str (sb (Bo l))),(2,.optr 0 0 2 0 0),(3,As (DN l))],[NK],n⟩) (λ_=>True) ?_ ?_
 ·refine sR 200 ?_
  cases hb:DN l
  ·have ed:Bo l=l:=by unfold Bo;rw[hb];rfl
   rw[ed];refine AM ?_;refine Ao ?_;exact⟨rfl,_,trivial,AL⟩
  ·have ed:Bo l=l.drop 1:=by unfold Bo;rw[hb];rfl
   have hl0:1<=l.length:=by
    cases l with
    |nil=>cases hb
    |cons c l=>rw[Bp];omega
   have ee:(sb l).extract (Int.toNat 1) l.length=sb (Bo l):=by
    rw[Ew,CE (Ai _),ed];rfl
   refine AM ?_;refine Ap w1 300 (by kernel_rfl) ?_;refine AE (Ad hsz kN) ?_;rw[ee];exact⟨trivial,_,trivial,AL⟩
 rintro n1 -;generalize DN l=neg at*;generalize Bo l=x0 at*;clear er hsz;have hx0:x0.length<=1000000:=BR hdl hl;clear hdl hl l;refine sR 400 ?_;refine AC.seq ?_;refine AC.block ?_;refine AC.loop (α:=Bool×List UInt8×List Nat×Nat×Nat) (λp=>match p with
  |(false,x,_,_,n)=>⟨[(0,str (sb x)),(2,.optr 0 0 2 0 0),(3,As neg),(4,CR)],[NK],n⟩
  |(true,x,w,g,n)=>⟨[(0,str (sb x)),(2,.optr 0 0 2 0 0),(3,As neg),(4,.osl 608 g 1 0 w.length)],[⟨608,g,3,1,w.map Ab⟩,NK],n⟩) (λp=>p.2.1.length)
  (λp=>p.2.1.all Bf=true/\p.2.1.length+p.2.2.1.length*9=x0.length/\Rd p.2.2.1/\dv x0=dv p.2.1*RB^p.2.2.1.length+AO p.2.2.1/\(p.1=false->p.2.2.1=[]))
  (false,x0,[],0,_) ⟨hd,rfl,(λa ha=>by cases ha),by simp[AO],λ_=>rfl⟩ AL ?_
 rintro⟨t,x,w,g,n2⟩ F ⟨g1,g2,g3,g4,g5⟩;dsimp only at g1 g2 g3 g4 g5;have hsz:=Ci x
 by_cases h9:9<x.length
 ·have ht:decide ((x.length:Int)>9)=true:=AZ (by omega)
  have cv:=RC (x.drop (x.length-9)) (CS.2 λa ha=>CS.1 g1 a (KK ha)) (by rw[Dv];omega);have wk:IntKind.i64.wrap ((x.length:Int)-9)=((x.length-9:Nat):Int):=by rw[wI (by omega) (by omega)];omega
  have wr:IntKind.i64.wrap (((sb x).size:Int)-9)=((x.length-9:Nat):Int):=by rw[hsz,wk]
  have e1:(sb x).extract (x.length-9) x.length=sb (x.drop (x.length-9)):=by rw[Ew,CE (Ai _)]
  have e2:(sb x).extract 0 (x.length-9)=sb (x.take (x.length-9)):=by rw[Ew,Fk]
  cases t
  ·dsimp only
   obtain rfl:=g5 rfl;refine AC.seq ?_;refine sZ 500 ?_;refine AV (Ad hsz ht) ?_;refine AM ?_;refine Ao ?_;refine AC.block ?_;refine sZ 600 ?_;refine AE (CO hsz wk wr kN e1) ?_;refine BE.same _ cv AI ?_;refine BP ?_;have J:=W1 h9 g1 g2 g3 g4;rw[F6]at J;refine Ap w1 700 (by kernel_rfl) ?_;refine AE (BZ hsz wk wr kN) ?_;refine AE e2 ?_;exact⟨(true,x.take (x.length-9),[dv (x.drop (x.length-9))],n2+11,_),⟨J.1,J.2.1,J.2.2.1,J.2.2.2,λh=>by cases h⟩,by dsimp only;rw[Bb];omega,AL⟩
  ·dsimp only
   clear g5;have J:=W1 h9 g1 g2 g3 g4;have ew:(w.map Ab).length=w.length:=Am _;have el:w.length+1=(w++[dv (x.drop (x.length-9))]).length:=by rw[Bk];rfl
   refine AC.seq ?_;refine sZ 500 ?_;refine AV (Ad hsz ht) ?_;refine AM ?_;refine Ao ?_;refine AC.block ?_;refine sZ 600 ?_;refine AE (CO hsz wk wr kN e1) ?_;refine BE.same _ cv AI ?_;refine BP ?_;rw[ZH,el];refine Ap w1 700 (by kernel_rfl) ?_;refine AE (BZ hsz wk wr kN) ?_;refine AE e2 ?_;exact⟨(true,x.take (x.length-9),w++[dv (x.drop (x.length-9))],n2+11,_),⟨J.1,J.2.1,J.2.2.1,J.2.2.2,λh=>by cases h⟩,by dsimp only;rw[Bb];omega,AL⟩
 ·have ht:decide ((x.length:Int)>9)=false:=Ah (by omega)
  have cv:=RC x g1 (by omega);obtain⟨r1,r2⟩:=kq (by omega) g1 g3 g4;have cs:=Yf neg (w++[dv x]) r1 (by rw[Bk,Gj];omega);rw[r2]at cs;cases t
  ·dsimp only
   obtain rfl:=g5 rfl;refine AC.seq ?_;refine sZ 500 ?_;refine AV (Ad hsz ht) ?_;refine AM ?_;refine CC ?_;refine sR 800 ?_;refine BE.same _ cv AI ?_;refine BP ?_;refine BE.own _ (Pf [NK] cs (.drop (.keep .nil)) ⟨.refl _,YH rfl,trivial⟩ AI) ?_;rintro d H' n' ⟨rfl,rfl,rfl⟩;refine BP ?_;refine Ak ?_;exact AK rfl AA.out
  ·dsimp only
   clear g5;have ew:(w.map Ab).length=w.length:=Am _;have el:w.length+1=(w++[dv x]).length:=by rw[Bk];rfl
   refine AC.seq ?_;refine sZ 500 ?_;refine AV (Ad hsz ht) ?_;refine AM ?_;refine CC ?_;refine sR 800 ?_;refine BE.same _ cv AI ?_;refine BP ?_;rw[ZH,el];refine BE.own _ (Pf [NK] cs (.drop (.keep .nil)) ⟨.refl _,YH rfl,trivial⟩ AI) ?_;rintro d H' n' ⟨rfl,rfl,rfl⟩;refine BP ?_;refine Ak ?_;exact AK rfl AA.out
def WC (o:Option D):Bool:=match o with
 |some (.agg [.prim (.bool false),.sl false 1 [.prim (.int .i64 1)]])=>true
 |_=>false
theorem nP {o:Option D}(h:WC o=true):o=some (rZ 1):=by
 have h1:Aa 1=[1]:=P8 (by decide) (by decide);unfold WC at h;split at h
 ·show _=some (D.agg [As (decide ((1:Int)<0)),rL (Aa 1)])
  rw[h1];rfl
 ·cases h
theorem j8:WC ((Gl X1 1000 60).1 156 [i64 1])=true:=by kernel_rfl
theorem lX:AJ C0 156 [i64 1] (rZ 1):=CH Da 1000 60 (nP j8)
def PY (l:List UInt8):Int:=rv (B1 l)
def PT (l:List UInt8):Int:=if Cu l then rv (BY l)else 1
instance  (x y:Int):AA (.tup [rZ x,rZ y]):=⟨.tup λd hd=>by
 simp only[BA,Dc,or_false]at hd;rcases hd with rfl|rfl
 ·exact AA.out
 ·exact AA.out⟩
theorem T8 (l:List UInt8)(hn:(Bo (B1 l)).all Bf=true)(hd:(Bo (BY l)).all Bf=true)(hl:l.length<=1000000):AJ C0 116 [str (sb l)] (.tup [rZ (PY l),rZ (PT l)]):=by
 refine Aj.walk w1 rQ rfl λF=>?_
 have hsz:=Ci l;have cs:=UD l (by omega);have hsl:=Lc l;have c1:=Zh (B1 l) hn (by unfold B1;rw[Bb];omega);have c2:=Zh (BY l) hd (by unfold BY;rw[Dv];omega);have cw:=lX;unfold PY PT;refine sR 0 ?_;refine sR 100 ?_;refine sR 200 ?_;refine cI cs ?_;cases hh:Cu l
 ·have he:BK l=l.length:=by
   unfold Cu at hh
   have:=DP hh
   omega
  have e0:(((BK l:Nat):Int)==(l.length:Int))=true:=EH.2 (by omega);have en:B1 l=l:=by unfold B1;rw[he,CE (Ai _)]
  rw[en]at c1⊢;refine AC.seq ?_;refine sZ 300 ?_;refine AV (Ad hsz e0) ?_;refine AM ?_;refine sR 400 ?_;refine cI c1 ?_;refine BE.same _ cw AI ?_;refine BP ?_;refine Ak ?_;exact AK rfl AA.out
 ·have he:BK l<l.length:=C6 hh
  have e0:(((BK l:Nat):Int)==(l.length:Int))=false:=Bu.2 (by omega);have x1:(sb l).extract 0 (BK l)=sb (B1 l):=by rw[Ew,Fk];rfl
  have x2:(sb l).extract (BK l+1) l.length=sb (BY l):=by rw[Ew,CE (Ai _)];rfl
  have wk:IntKind.i64.wrap (((BK l:Nat):Int)+1)=((BK l+1:Nat):Int):=wI (by omega) (by omega);refine AC.seq ?_;refine sZ 300 ?_;refine AV (Ad hsz e0) ?_;refine AM ?_;refine Ao ?_;refine AC.seq ?_;refine B9 w1 500 [0,1,2,3,4,5,6,7] [8,9,10] (by kernel_rfl) ?_;refine AE (CO hsz wk kN x1 x2) ?_;refine BU.same _ c1 AI ?_;refine AE (CO hsz wk kN x1 x2) ?_;refine BE.same _ c2 AI ?_;refine BP ?_;refine Ak ?_;exact AK rfl AA.out
def BO (r:Rat):List UInt8:=if r.den=1 then Lib.itoa r.num else Lib.itoa r.num++47::Lib.decDigits r.den
def qZ (x y:Int):Rat:=mkRat (if y<0 then -x else x) y.natAbs
theorem Ti {x:Int}{d:Nat}(hd:d≠0):(mkRat x d).num=sg (decide (x<0)) (x.natAbs/Nat.gcd x.natAbs d)/\(mkRat x d).den=d/Nat.gcd x.natAbs d:=by
 rw[mkRat,dif_neg hd,Rat.normalize_eq];refine⟨?_,rfl⟩;dsimp only;have hg:0<Nat.gcd x.natAbs d:=Ps _ (D8 hd);obtain⟨p,hp⟩:=Nat.gcd_dvd_left x.natAbs d;have e1:x.natAbs/Nat.gcd x.natAbs d=p:=by
  refine Nat.div_eq_of_eq_mul_right hg hp
 have e2:x=(Nat.gcd x.natAbs d:Int)*sg (decide (x<0)) p:=by
  have h0:(x.natAbs:Int)=(Nat.gcd x.natAbs d:Int)*(p:Int):=by rw[<-F9,<-hp]
  unfold sg
  by_cases hx:x<0
  ·rw[AZ hx,AH rfl,Int.mul_neg,<-h0];omega
  ·rw[Ah hx,AF (by decide),<-h0];omega
 rw[e1]
 conv=>lhs;arg 1;rw[e2]
 rw[Int.mul_ediv_cancel_left _ (by omega)]
theorem Ys (q:Nat):((((((Aa q).map Ab).length:Nat):Int)==1)=true/\∃a,(Aa q)[0]?=some a/\(((a:Nat):Int)==1)=decide (q=1))\/((((((Aa q).map Ab).length:Nat):Int)==1)=false/\q≠1):=by
 rw[Am]
 by_cases h:(Aa q).length=1
 ·refine .inl ⟨EH.2 (by omega),?_⟩
  obtain⟨a,ha⟩:=CU (l:=Aa q) (i:=0) (by omega);refine⟨a,ha,?_⟩;have e:Aa q=[a]:=by
   obtain⟨b,hb⟩:=List.length_eq_one_iff.1 h;rw[hb]at ha⊢;cases ha;rfl
  have e2:q=a:=by rw[<-EA q,e];simp[AO]
  rw[e2];rw[Fm,EH,decide_eq_true_iff];omega
 ·refine .inr ⟨Bu.2 (by omega),λhq=>h ?_⟩
  rw[hq,P8 (by decide) (by decide)];rfl
theorem ji (x y:Int)(hy0:y≠0)(hx:G3 x)(hy:G3 y):AJ C0 160 [rZ x,rZ y] (str (sb (BO (qZ x y)))):=by
 refine Aj.walk w1 so rfl λF=>?_
 unfold qZ;refine sR 0 ?_;refine Cz (α:=Nat) (λn=>⟨[(2,.optr 0 0 2 0 0),(3,.optr 1 1 2 0 0)],[⟨1,1,160,2,[.agg [As false,rD y.natAbs]]⟩,⟨0,0,160,2,[rZ (if y<0 then -x else x)]⟩],n⟩) (λ_=>True) ?_ ?_
 ·by_cases h:y<0
  ·have cx:=Zn x hx
   have cy:=Zn y hy;have e1:rZ (-y)=.agg [As false,rD y.natAbs]:=by
    show D.agg [As (decide (-y<0)),rD (-y).natAbs]=_;rw[Ah (by omega),MU]
   rw[e1]at cy;rw[AH h];refine sZ 100 ?_;refine AV (AZ h) ?_;refine AM ?_;refine B9 w1 200 [0,1,2] [3,4,5] (by kernel_rfl) ?_;refine AE kN ?_;refine BU.same _ cx AI ?_;refine AE kN ?_;refine BE.same _ cy AI ?_;refine BP ?_;exact⟨trivial,_,trivial,AL⟩
  ·have e1:rZ y=.agg [As false,rD y.natAbs]:=by
    show D.agg [As (decide (y<0)),rD y.natAbs]=_;rw[Ah h]
   rw[AF h];refine sZ 100 ?_;refine AV (Ah h) ?_;refine AM ?_;refine Ao ?_;refine⟨rfl,5,trivial,?_⟩;rw[<-e1];exact AL
 rintro n0 -;obtain⟨z,hz⟩:∃z,z=(if y<0 then -x else x):=⟨_,rfl⟩
 have hza:z.natAbs=x.natAbs:=by rw[hz];split<;>omega
 obtain⟨d,hd⟩:∃d,d=y.natAbs:=⟨_,rfl⟩
 have hd0:d≠0:=by omega
 unfold G3 at hx hy;rw[<-hza]at hx;rw[<-hd]at hy;rw[<-hz,<-hd];clear hz hza hd hy0;clear x y;have cg:=YV z.natAbs d hx hy;obtain⟨qn,qd⟩:=Ti (x:=z) hd0;have hg:0<Nat.gcd z.natAbs d:=Ps _ (D8 hd0);have hgl:(Aa (Nat.gcd z.natAbs d)).length<1000000:=Db (I1 _ _ (Nat.gcd_le_right _ (D8 hd0))) hy;have c4:=Vz z.natAbs (Nat.gcd z.natAbs d) (by omega) hx hgl;have c5:AJ C0 157 [rD d,rD (Nat.gcd z.natAbs d)] (.tup [.sl false 1 ((Aa (d/Nat.gcd z.natAbs d)).map Ab),rD (d%Nat.gcd z.natAbs d)]):=Vz d (Nat.gcd z.natAbs d) (by omega) hy hgl;have hpl:(Aa (z.natAbs/Nat.gcd z.natAbs d)).length<1000000:=Db (I1 _ _ (GA _ _)) hx;have hql:(Aa (d/Nat.gcd z.natAbs d)).length<1000000:=Db (I1 _ _ (GA _ _)) hy;have etx:BO (mkRat z d)=if d/Nat.gcd z.natAbs d=1 then Lib.itoa (sg (decide (z<0)) (z.natAbs/Nat.gcd z.natAbs d))else Lib.itoa (sg (decide (z<0)) (z.natAbs/Nat.gcd z.natAbs d))++47::Lib.decDigits (d/Nat.gcd z.natAbs d):=by
  unfold BO;rw[qn,qd]
 rw[etx];clear etx qn qd hg hgl;generalize z.natAbs/Nat.gcd z.natAbs d=p at*;generalize d/Nat.gcd z.natAbs d=q at*;generalize z.natAbs%Nat.gcd z.natAbs d=r1 at*;generalize d%Nat.gcd z.natAbs d=r2 at*;generalize Nat.gcd z.natAbs d=gg at*;have c6:=Lq (decide (z<0)) p (by omega);have hab:(sg (decide (z<0)) p).natAbs=p:=by unfold sg;split<;>omega
 have c7:=ck (sg (decide (z<0)) p) (by unfold G3;rw[hab];exact hpl);have c8:=Lq false q (by omega);have c9:=ck (sg false q) (by unfold G3;show(Aa q).length<1000000;exact hql);have e9:Lib.itoa (sg false q)=Lib.decDigits q:=by rw[ZR false q (by simp)];rfl
 rw[e9]at c9;have l1:=Ob (Eg p);rw[EA]at l1;have l2:=Ob (Eg q);rw[EA]at l2;have l3:(Lib.itoa (sg (decide (z<0)) p)).length<=(Lib.decDigits p).length+1:=by
  unfold Lib.itoa;split
  ·rw[hab,Bp];exact Ai _
  ·rw[show(sg (decide (z<0)) p).toNat=p by omega];omega
 generalize sg (decide (z<0)) p=pz at*;have s1:=Ci (Lib.itoa pz);have s2:=Ci (Lib.decDigits q);have s3:(⟨#[47]⟩:ByteArray).size=1:=rfl;have s4:(sb (Lib.itoa pz)++(⟨#[47]⟩:ByteArray)).size=(sb (Lib.itoa pz)).size+(⟨#[47]⟩:ByteArray).size:=ByteArray.size_append;generalize Lib.itoa pz=t1 at*;generalize Lib.decDigits q=t2 at*;refine sR 300 ?_;refine cI cg ?_;refine sR 400 ?_;refine cI c4 ?_;refine sR 500 ?_;refine cI c5 ?_;refine sR 600 ?_;refine cI c6 ?_;refine cI c7 ?_;have ht:=Ys q;rcases ht with⟨h1,a,ha,h2⟩|⟨h1,h2⟩
 ·have ha':=Ds ha
  refine AC.seq ?_;refine sZ 700 ?_;refine AE h1 ?_;refine Bs kT ha' ?_;refine AE (Ad h1 h2) ?_
  by_cases hq:q=1
  ·rw[AZ hq,AH hq]
   refine AM ?_;refine sR 800 ?_;refine Ak ?_;exact AK rfl AA.out
  ·rw[Ah hq,AF hq]
   refine AM ?_;refine Ao ?_;refine sR 900 ?_;refine BE.same _ c8 AI ?_;refine BP ?_;refine BE.same _ c9 AI ?_;refine BP ?_;refine Ak ?_;refine AK ?_ AA.out;show str ((⟨t1.toArray⟩++⟨([47]:List UInt8).toArray⟩:ByteArray)++⟨t2.toArray⟩)=_;rw[JH,JH,Di];rfl
 ·rw[AF h2]
  refine AC.seq ?_;refine sZ 700 ?_;refine AV h1 ?_;refine AE kF ?_;refine AM ?_;refine Ao ?_;refine sR 900 ?_;refine BE.same _ c8 AI ?_;refine BP ?_;refine BE.same _ c9 AI ?_;refine BP ?_;refine Ak ?_;refine AK ?_ AA.out;show str ((⟨t1.toArray⟩++⟨([47]:List UInt8).toArray⟩:ByteArray)++⟨t2.toArray⟩)=_;rw[JH,JH,Di];rfl
set_option maxHeartbeats 2000000
theorem Qc (k:Nat)(h:k<10):(UInt8.ofNat (48+k)).toNat=48+k:=by
 rw[UInt8.toNat_ofNat'];omega
theorem EY:∀n:Nat,(Lib.decDigits n).all Bf=true/\dv (Lib.decDigits n)=n/\(Lib.decDigits n)≠[]:=λn=>by
 induction n using Nat.strongRecOn with
 |_ n ih=>
  have one:∀k,k<10->Bf (UInt8.ofNat (48+k))=true:=λk hk=>by
   unfold Bf;rw[Qc k hk,BQ];exact⟨Nat.ble_eq_true_of_le (by omega),Nat.ble_eq_true_of_le (by omega)⟩
  have vone:∀k,k<10->dv [UInt8.ofNat (48+k)]=k:=λk hk=>by
   show 0*10+((UInt8.ofNat (48+k)).toNat-48)=k;rw[Qc k hk];omega
  rw[Lib.decDigits];split
  ·rename_i h
   exact⟨by rw[Fl,one n h];rfl,vone n h,by simp⟩
  ·rename_i h
   obtain⟨h1,h2,h3⟩:=ih (n/10) (by omega);refine⟨by rw[KO,h1,Fl,one _ (B4 _ (by decide))];rfl,?_,by simp⟩;rw[OG,h2,vone _ (B4 _ (by decide)),Gj];omega
theorem mn {n:Nat}(h:n≠0):∃c l,Lib.decDigits n=c::l/\c≠48:=by
 induction n using Nat.strongRecOn with
 |_ n ih=>
  rw[Lib.decDigits];split
  ·rename_i h1
   refine⟨_,_,rfl,λhh=>?_⟩
   have:=congrArg UInt8.toNat hh
   rw[Qc n h1]at this
   have:48+n=48:=this
   omega
  ·rename_i h1
   obtain⟨c,l,e,hc⟩:=ih (n/10) (by omega) (by omega);rw[e];exact⟨c,l++_,rfl,hc⟩
theorem sA {c:UInt8}(h:Bf c=true):c≠47/\c≠45:=by
 obtain⟨h1,h2⟩:=Lg h;exact⟨λhh=>by subst hh;simp at h1,λhh=>by subst hh;simp at h1⟩
theorem Mm (z:Int):DN (Lib.itoa z)=decide (z<0)/\Bo (Lib.itoa z)=Lib.decDigits z.natAbs:=by
 unfold Lib.itoa
 by_cases h:z<0
 ·rw[AH h,AZ h]
  exact⟨rfl,rfl⟩
 ·rw[AF h,Ah h,show z.toNat=z.natAbs by omega]
  have h1:=Sy (EY z.natAbs).1;exact⟨h1,KW (EY z.natAbs).1⟩
theorem Z4 (z:Int):rv (Lib.itoa z)=z:=by
 unfold rv;rw[(Mm z).1,(Mm z).2,(EY z.natAbs).2.1]
 by_cases h:z<0
 ·rw[AZ h,AH rfl];omega
 ·rw[Ah h,AF (by decide)];omega
theorem WZ (z:Int):∀c∈Lib.itoa z,(c != 47)=true:=λc hc=>by
 have hd:∀n,∀c∈Lib.decDigits n,(c != 47)=true:=λn c h=>by
  have:=(sA (CS.1 (EY n).1 c h)).1
  simpa using this
 unfold Lib.itoa at hc;split at hc
 ·rcases BA.1 hc with rfl|h
  ·rfl
  ·exact hd _ c h
 ·exact hd _ c hc
theorem Sl {p:UInt8->Bool}:∀ {l:List UInt8} (m:List UInt8),(∀c∈l,p c=true)->(l++m).takeWhile p=l++m.takeWhile p
 | [],_,_=>rfl
 |a::l,m,h=>by
  rw[Em,Po,AH (h a CA),Sl m λc hc=>h c (CF _ hc)];rfl
theorem OO (r:Rat):BK (BO r)=(Lib.itoa r.num).length:=by
 unfold BK BO;split
 ·have:=Sl (p:=(· != 47)) [] (WZ r.num)
  rw[DE]at this;rw[this];simp
 ·rw[Sl (p:=(· != 47)) _ (WZ r.num)]
  simp
theorem Ol (r:Rat):B1 (BO r)=Lib.itoa r.num:=by
 unfold B1;rw[OO];unfold BO;split
 ·exact CE (Ai _)
 ·exact List.take_left' rfl
theorem Mx (r:Rat):BY (BO r)=if r.den=1 then[]else Lib.decDigits r.den:=by
 unfold BY;rw[OO];unfold BO;split
 ·exact Hb (Nat.le_succ _)
 ·rw[List.drop_append]
  rw[Hb (Nat.le_succ _),LM];rfl
theorem RA (r:Rat):Cu (BO r) = !decide (r.den=1):=by
 unfold Cu;rw[OO];unfold BO
 by_cases h:r.den=1
 ·rw[AH h,AZ h,Ah (by omega)];rfl
 ·rw[AF h,Ah h,Bk,Bp,AZ (by omega)];rfl
theorem Ym (r:Rat):PY (BO r)=r.num:=by unfold PY;rw[Ol,Z4]
theorem nL (r:Rat):PT (BO r)=r.den:=by
 unfold PT;rw[RA,Mx]
 by_cases h:r.den=1
 ·rw[AZ h,h];rfl
 ·rw[Ah h,AF h,AH (show(!false)=true from rfl),M7 (EY _).1,(EY _).2.1]
theorem Yk (r:Rat):(Bo (B1 (BO r))).all Bf=true:=by rw[Ol,(Mm _).2];exact(EY _).1
theorem Yj (r:Rat):(Bo (BY (BO r))).all Bf=true:=by
 rw[Mx];split
 ·rfl
 ·rw[KW (EY _).1];exact(EY _).1
theorem ZQ (z:Int):Lib.itoa z≠[]:=by
 unfold Lib.itoa;split
 ·simp
 ·exact(EY _).2.2
theorem cz (r:Rat):BO r≠[]:=by
 unfold BO;split
 ·exact ZQ _
 ·simp
theorem Ua (r:Rat):DN (BO r)=decide (r.num<0):=by
 rw[<-(Mm r.num).1];unfold BO;split
 ·rfl
 ·have:=ZQ r.num
  cases h:Lib.itoa r.num with
  |nil=>exact Ae h this
  |cons c l=>rfl
theorem Yn (r:Rat):decide (BO r=[48])=decide (r.num=0):=by
 refine C5.2 ⟨λh=>?_,λh=>?_⟩
 ·have h1:=Ym r
  rw[h]at h1;rw[<-h1];decide
 ·have:r.den=1:=by
   have:=r.reduced
   rw[h]at this;simpa using this
  unfold BO;rw[AH this,h];show Lib.decDigits 0=[48];rw[Lib.decDigits,dif_pos (by decide)];rfl
abbrev rR (r:Rat):D:=str (sb (BO r))
def MR (r:Rat):Prop:=(BO r).length<=1000000
theorem d8 (r:Rat)(hl:MR r):AJ C0 144 [rR r] (i64 (Gy r)):=by
 refine Aj.walk w1 rX rfl λF=>?_
 have hsz:=Ci (BO r);unfold MR at hl;have ez:=E2 (BO r) [48];rw[Yn]at ez;have en:=Ua r;refine sR 0 ?_;refine AC.seq ?_;refine AC.seq ?_;have ez2:BF (sb (BO r)) ⟨#[48]⟩=decide (r.num=0):=ez;have hne:=cz r;refine Ap w1 100 (by kernel_rfl) ?_;refine AV ez2 ?_
 by_cases h0:r.num=0
 ·rw[AZ h0]
  refine AM ?_;refine sR 200 ?_;refine Ak ?_;exact AK (by unfold Gy;rw[h0];rfl) AA.out
 ·rw[Ah h0]
  have hpos:0<(BO r).length:=List.length_pos_iff.2 hne;have e0:decide (((sb (BO r)).size:Int)>0)=true:=AZ (by omega);have e1:((((BO r).getD (Int.toNat 0) 0).toNat:Int)==45)=decide (r.num<0):=by
   rw[<-en];cases ht:BO r with
   |nil=>exact Ae ht hne
   |cons c l=>exact Qk c l
  refine AM ?_;refine Ao ?_;refine AC.seq ?_;refine sZ 300 ?_;refine AE e0 ?_;refine AE (At kT e0 e1) ?_
  by_cases hn:r.num<0
  ·rw[AZ hn]
   refine AM ?_;refine sR 400 ?_;refine Ak ?_;exact AK (by unfold Gy;congr 3;omega) AA.out
  ·rw[Ah hn]
   refine AM ?_;refine Ao ?_;refine sR 500 ?_;refine Ak ?_;exact AK (by unfold Gy;congr 3;omega) AA.out
theorem Zw {r:Rat}(h:r.num<0):(BO r).drop 1=BO (-r)/\(BO (-r)).length+1=(BO r).length:=by
 have e:Lib.itoa r.num=45::Lib.itoa (-r.num):=by
  unfold Lib.itoa;rw[AH h,AF (by omega),show(-r.num).toNat=r.num.natAbs by omega]
 have e2:BO r=45::BO (-r):=by
  unfold BO;rw[Rat.neg_den,Rat.neg_num,e];split<;>rfl
 rw[e2];exact⟨rfl,rfl⟩
def DC (r:Rat):Rat:=if r.num<0 then -r else r
theorem QY (r:Rat):(DC r).num=r.num.natAbs/\(DC r).den=r.den:=by
 unfold DC;split
 ·rw[Rat.neg_num,Rat.neg_den];exact⟨by omega,rfl⟩
 ·exact⟨by omega,rfl⟩
def qk (r:Rat):Bool:=!decide (20<(BO r).length) && !(decide (9<BK (BO (DC r)))||decide (10<(BO (DC r)).length-BK (BO (DC r))))
theorem m6 (r:Rat):(BO (DC r)).length<=(BO r).length:=by
 unfold DC;split
 ·rename_i h
  have:=(Zw h).2
  omega
 ·exact Ai _
theorem TE (r:Rat):Lib.itoa (DC r).num=Lib.decDigits r.num.natAbs:=by
 rw[(QY r).1];unfold Lib.itoa;rw[AF (by omega)];rfl
theorem Tj {r:Rat}(h:qk r=true):r.num.natAbs<10^9/\r.den<10^9:=by
 unfold qk at h;simp only[BQ,Bi,JT,Is]at h;obtain⟨h1,h2,h3⟩:=h;have hs:=OO (DC r);rw[TE]at hs;have hd:=Mx (DC r);rw[(QY r).2]at hd;have hdl:(BY (BO (DC r))).length=(BO (DC r)).length-(BK (BO (DC r))+1):=by unfold BY;rw[Dv]
 have d1:=GS _ (EY r.num.natAbs).1;have d2:=GS _ (EY r.den).1;rw[(EY _).2.1]at d1 d2;refine⟨CZ d1 (FY (by decide) (by omega)),?_⟩
 by_cases h1:r.den=1
 ·rw[h1];decide
 ·rw[AF h1]at hd
  rw[hd]at hdl;exact CZ d2 (FY (by decide) (by omega))
theorem Zj (r:Rat)(hl:MR r):AJ C0 158 [rR r] (.tup [i64 (if qk r then r.num else 0),i64 (if qk r then(r.den:Int)else 0),As (qk r)]):=by
 refine Aj.walk w1 sk rfl λF=>?_
 have hsz:=Ci (BO r);unfold MR at hl;have hne:=cz r;have hpos:0<(BO r).length:=List.length_pos_iff.2 hne;refine sR 0 ?_;refine sR 100 ?_;refine AC.seq ?_;refine AC.seq ?_
 by_cases h20:20<(BO r).length
 ·have e2:decide (((BO r).length:Int)>20)=true:=AZ (by omega)
  have eq:qk r=false:=by unfold qk;rw[AZ h20];rfl
  rw[eq];refine Ap w1 200 (by kernel_rfl) ?_;refine AV (Ad hsz e2) ?_;refine AM ?_;refine sR 300 ?_;refine Ak ?_;exact AK rfl AA.out
 ·have e2:decide (((BO r).length:Int)>20)=false:=Ah (by omega)
  have eq:qk r = !(decide (9<BK (BO (DC r)))||decide (10<(BO (DC r)).length-BK (BO (DC r)))):=by unfold qk;rw[Ah h20];rfl
  have en:=Ua r;refine Ap w1 200 (by kernel_rfl) ?_;refine AV (Ad hsz e2) ?_;refine AM ?_;refine Ao ?_;refine Cz (α:=Nat) (λn=>⟨[(5,rR r),(6,As (decide (r.num<0)))],[],n⟩) (λ_=>True) ?_ ?_
  ·have e0:decide (((sb (BO r)).size:Int)>0)=true:=AZ (by omega)
   have e1:((((BO r).getD (Int.toNat 0) 0).toNat:Int)==45)=decide (r.num<0):=by
    rw[<-en];cases ht:BO r with
    |nil=>exact Ae ht hne
    |cons c l=>exact Qk c l
   refine Ap w1 400 (by kernel_rfl) ?_;refine AE e0 ?_;refine AE (At kT e0 e1) ?_;exact⟨trivial,_,trivial,AL⟩
  rintro n0 -;refine Cz (α:=Nat) (λn=>⟨[(5,rR (DC r)),(6,As (decide (r.num<0)))],[],n⟩) (λ_=>True) ?_ ?_
  ·refine sR 500 ?_
   by_cases h:r.num<0
   ·obtain⟨t1,t2⟩:=Zw h
    have ea:DC r = -r:=by unfold DC;rw[AH h]
    have ee:(sb (BO r)).extract (Int.toNat 1) (BO r).length=sb (BO (DC r)):=by
     rw[ea,Ew,CE (Ai _),<-t1];rfl
    rw[AZ h];refine AM ?_;refine Ap w1 600 (by kernel_rfl) ?_;refine AE (Ad hsz kN) ?_;rw[ee];exact⟨trivial,_,trivial,AL⟩
   ·have ea:DC r=r:=by unfold DC;rw[AF h]
    rw[Ah h,ea];refine AM ?_;refine Ao ?_;exact⟨rfl,_,trivial,AL⟩
  rintro n1 -;have hal:=m6 r;have hsa:=OO (DC r);rw[TE]at hsa;have hn:=Ol (DC r);rw[TE]at hn;have hd:=Mx (DC r);rw[(QY r).2]at hd;have hh:=RA (DC r);rw[(QY r).2]at hh;unfold Cu at hh;have hle:=Lc (BO (DC r));have cs:=UD (BO (DC r)) (by omega);have hszA:=Ci (BO (DC r));clear hsz hne hpos e2 en;generalize hT:BO (DC r)=T at*;have eR:rR (DC r)=str (sb T):=by rw[<-hT]
  rw[eR];clear hT eR;refine sR 700 ?_;refine cI cs ?_;have w8:IntKind.i64.wrap ((T.length:Int)-(BK T:Int))=((T.length-BK T:Nat):Int):=by rw[wI (by omega) (by omega)];omega
  have eb:decide (((T.length-BK T:Nat):Int)>10)=decide (10<T.length-BK T):=C5.2 (by omega)
  by_cases h9:9<BK T
  ·have e8:decide ((BK T:Int)>9)=true:=AZ (by omega)
   rw[AZ h9]at eq;have eq2:qk r=false:=eq;rw[eq2];refine AC.seq ?_;refine sZ 800 ?_;refine AV e8 ?_;refine AE kT ?_;refine AM ?_;refine sR 900 ?_;refine Ak ?_;exact AK rfl AA.out
  have e8:decide ((BK T:Int)>9)=false:=Ah (by omega);rw[Ah h9]at eq
  by_cases h10:10<T.length-BK T
  ·rw[AZ h10]at eq eb
   have eq2:qk r=false:=eq;rw[eq2];refine AC.seq ?_;refine sZ 800 ?_;refine AV e8 ?_;refine AE (BZ kF hszA w8 eb) ?_;refine AM ?_;refine sR 900 ?_;refine Ak ?_;exact AK rfl AA.out
  rw[Ah h10]at eq eb;have eq2:qk r=true:=eq;rw[eq2];refine AC.seq ?_;refine sZ 800 ?_;refine AV e8 ?_;refine AE (BZ kF hszA w8 eb) ?_;refine AM ?_;refine Ao ?_;have hd1:=EY r.num.natAbs;have hd2:=EY r.den;have c1:=RC (Lib.decDigits r.num.natAbs) hd1.1 (by omega);rw[hd1.2.1]at c1;have e10:(sb T).extract 0 (BK T)=sb (Lib.decDigits r.num.natAbs):=by
   rw[Ew,Fk,<-hn];rfl
  refine sZ 1000 ?_;refine AE (Ad hszA kN) ?_;refine AE e10 ?_;refine BE.same _ c1 AI ?_;refine BP ?_;refine Cz (α:=Nat) (λn=>⟨[(6,As (decide (r.num<0))),(8,i64 (r.num.natAbs:Int)),(9,i64 (r.den:Int))],[],n⟩) (λ_=>True) ?_ ?_
  ·by_cases hden:r.den=1
   ·rw[AZ hden]at hh
    have e11:decide ((BK T:Int)<(T.length:Int))=false:=Ah (by have:=DP (p:=BK T<T.length) hh;omega);rw[hden];refine sZ 1100 ?_;refine AV (Ad hszA e11) ?_;refine AM ?_;refine Ao ?_;exact⟨rfl,_,trivial,AL⟩
   ·rw[Ah hden]at hh
    rw[AF hden]at hd;have hlt:=C6 (p:=BK T<T.length) hh;have e11:decide ((BK T:Int)<(T.length:Int))=true:=AZ (by omega);have wk:IntKind.i64.wrap (((BK T:Nat):Int)+1)=((BK T+1:Nat):Int):=wI (by omega) (by omega);have e12:(sb T).extract (BK T+1) T.length=sb (Lib.decDigits r.den):=by
     rw[Ew,CE (Ai _),<-hd];rfl
    have hdl:(Lib.decDigits r.den).length<=18:=by
     rw[<-hd];unfold BY;rw[Dv];omega
    have c2:=RC (Lib.decDigits r.den) hd2.1 hdl;rw[hd2.2.1]at c2;refine sZ 1100 ?_;refine AV (Ad hszA e11) ?_;refine AM ?_;refine Ap w1 1200 (by kernel_rfl) ?_;refine AE (At hszA wk kN) ?_;refine AE e12 ?_;refine BE.same _ c2 AI ?_;refine BP ?_;exact⟨trivial,_,trivial,AL⟩
  rintro n2 -;obtain⟨b1,b2⟩:=Tj eq2;refine Cz (α:=Nat) (λn=>⟨[(8,i64 r.num),(9,i64 (r.den:Int))],[],n⟩) (λ_=>True) ?_ ?_
  ·refine sR 1300 ?_
   by_cases h:r.num<0
   ·have wn:IntKind.i64.wrap (0-(r.num.natAbs:Int))=r.num:=by rw[wI (by omega) (by omega)];omega
    rw[AZ h];refine AM ?_;refine Ap w1 1400 (by kernel_rfl) ?_;refine AV wn ?_;exact⟨trivial,_,trivial,AL⟩
   ·have en:(r.num.natAbs:Int)=r.num:=by omega
    rw[Ah h,en];refine AM ?_;refine Ao ?_;exact⟨rfl,_,trivial,AL⟩
  rintro n3 -;refine sR 1500 ?_;refine Ak ?_;exact AK rfl AA.out
theorem l9 (b:Bool)(n:Nat):(sg b n).natAbs=n:=by unfold sg;split<;>omega
theorem yG (z:Int)(d:Nat)(hz:z.natAbs<=4000000000000000000)(hd0:0<d)(hd:d<=4000000000000000000):AJ C0 159 [i64 z,i64 (d:Int)] (rR (mkRat z d)):=by
 refine Aj.walk w1 sn rfl λF=>?_
 have hg:0<Nat.gcd z.natAbs d:=Ps _ hd0;have hgl:Nat.gcd z.natAbs d<=d:=Nat.gcd_le_right _ hd0;obtain⟨qn,qd⟩:=Ti (x:=z) (d:=d) (by omega);have etx:BO (mkRat z d)=if d/Nat.gcd z.natAbs d=1 then Lib.itoa (mkRat z d).num else Lib.itoa (mkRat z d).num++47::Lib.decDigits (d/Nat.gcd z.natAbs d):=by
  unfold BO;rw[qd]
 have q1:z.tdiv (Nat.gcd z.natAbs d:Nat)=(mkRat z d).num:=by
  rw[qn];obtain⟨p,hp⟩:=Nat.gcd_dvd_left z.natAbs d;have e1:z.natAbs/Nat.gcd z.natAbs d=p:=Nat.div_eq_of_eq_mul_right hg hp;have e2:z=(Nat.gcd z.natAbs d:Int)*sg (decide (z<0)) p:=by
   have h0:(z.natAbs:Int)=(Nat.gcd z.natAbs d:Int)*(p:Int):=by rw[<-F9,<-hp]
   unfold sg
   by_cases hx:z<0
   ·rw[AZ hx,AH rfl,Int.mul_neg,<-h0];omega
   ·rw[Ah hx,AF (by decide),<-h0];omega
  rw[e1]
  conv=>lhs;arg 1;rw[e2]
  rw[Int.mul_tdiv_cancel_left _ (by omega)]
 have q2:(d:Int).tdiv (Nat.gcd z.natAbs d:Nat)=((d/Nat.gcd z.natAbs d:Nat):Int):=rfl;have q5:(mkRat z d).num.natAbs<=4000000000000000000:=by
  rw[qn];rw[l9];exact BR (GA _ _) hz
 have q4:d/Nat.gcd z.natAbs d<=4000000000000000000:=BR (GA _ _) hd;have hx:0<d/Nat.gcd z.natAbs d:=Nat.div_pos hgl hg;have ert:rR (mkRat z d)=str (sb (if d/Nat.gcd z.natAbs d=1 then Lib.itoa (mkRat z d).num else Lib.itoa (mkRat z d).num++47::Lib.decDigits (d/Nat.gcd z.natAbs d))):=by rw[<-etx]
 rw[ert];clear etx ert qn qd;generalize(mkRat z d).num=pz at*;refine fR 0 ?_;refine DU ⟨[(0,i64 z),(1,i64 d),(4,str ⟨#[]⟩)],[],50⟩ ?_ ?_
 ·refine AC.seq ?_
  have l1:(decide (z < -4000000000000000000))=false:=by apply Ah;omega
  have l2:(decide (z>4000000000000000000))=false:=by apply Ah;omega
  have l3:(decide ((d:Int) < -4000000000000000000))=false:=by apply Ah;omega
  have l4:(decide ((d:Int)>4000000000000000000))=false:=by apply Ah;omega
  refine Ap w1 100 (by kernel_rfl) ?_
  repeat'(first|(refine And.intro (by exact Bx) ?_;(refine An ?_);(try simp only[NJ,Rs,l1,l2,l3,l4]))|((refine By (λhb=>?_) (λhb=>?_))<;>(try simp only[Bi,Bv]at hb)<;>(try simp only[hb])<;>(refine An ?_)))
  refine AM ?_;refine Ao ?_;exact And.intro (by trivial) (AL)
 refine DU ⟨[(0,i64 z),(1,i64 d),(4,str ⟨#[]⟩)],[],100⟩ ?_ ?_
 ·refine fR 300 ?_
  refine AM ?_;have e27:(decide ((d:Int)<0))=false:=by simp
  rw[e27];refine Ao ?_;exact And.intro (by trivial) (AL)
 refine AC.seq ?_;have m1:max z (IntKind.i64.wrap (0-z))=(z.natAbs:Int):=by rw[wI (by omega) (by omega)];omega
 refine Ap w1 500 (by kernel_rfl) ?_;refine KS m1 ?_;refine dI (pE z.natAbs d (by omega) (by omega)) ?_;refine AC.seq ?_;refine B9 w1 600 [0,1,2,3,4,5,6] [7] (by kernel_rfl) ?_;refine CD ?_;have w1p:IntKind.i64.wrap pz=pz:=wI (by omega) (by omega);rw[q1,q2,w1p,wN (BR q4 (by decide))];clear q1 q2 hg hgl;generalize d/Nat.gcd z.natAbs d=y at*;refine fR 700 ?_;have c1:=QC pz.natAbs 1 (by omega);have c2:=QC y 1 (by omega);rw[Y7]at c1 c2;have s1:=Md 18 pz.natAbs (Db q5 (by decide));have s2:=Md 18 y (Db q4 (by decide));have z1:=Oj (Lib.decDigits pz.natAbs);have z2:=Oj (Lib.decDigits y);have m1:max pz (IntKind.i64.wrap (0-pz))=(pz.natAbs:Int):=by rw[wI (by omega) (by omega)];omega
 refine Cz (α:=Nat) (λn=>⟨[(0,i64 pz),(1,i64 (y:Int)),(4,str ⟨#[]⟩),(6,str (sb (if pz<0 then[45]else[])))],[],n⟩) (λ_=>True) ?_ ?_
 ·refine fR 800 ?_
  by_cases h:pz<0
  ·rw[AZ h,AH h]
   refine AM ?_;refine fI 900 ?_;exact⟨rfl,_,trivial,AL⟩
  ·rw[Ah h,AF h]
   refine AM ?_;refine Ao ?_;exact⟨rfl,_,trivial,AL⟩
 rintro n0 -;have ei:(if pz<0 then[45]else[])++Lib.decDigits pz.natAbs=Lib.itoa pz:=by
  unfold Lib.itoa;split
  ·rfl
  ·rw[show pz.toNat=pz.natAbs by omega];rfl
 have z3:=Ci (if pz<0 then[45]else[]);have z4:(if pz<0 then[45]else[]:List UInt8).length<=1:=by split<;>simp
 have z5:(Lib.itoa pz).length<=20:=by rw[<-ei,Bk];omega
 refine sZ 1000 ?_;refine KS m1 ?_;refine dI c1 ?_;rw[JH,ei];have z6:=Oj (Lib.itoa pz);generalize Lib.itoa pz=t1 at*;clear ei z3 z4;refine Cz (α:=Nat) (λn=>⟨[(6,str (sb (if y=1 then t1 else t1++47::Lib.decDigits y)))],[],n⟩) (λ_=>True) ?_ ?_
 ·refine fR 1100 ?_
  by_cases hy:y=1
  ·rw[AH hy]
   have e54:(decide ((y:Int)>1))=false:=by apply Ah;omega
   rw[e54];refine AM ?_;refine Ao ?_;exact⟨rfl,_,trivial,AL⟩
  ·rw[AF hy]
   have e54:(decide ((y:Int)>1))=true:=by apply AZ;omega
   have s3:(⟨#[47]⟩:ByteArray).size=1:=rfl;have sc:((⟨t1.toArray⟩:ByteArray)++(⟨#[47]⟩:ByteArray)).size=(⟨t1.toArray⟩:ByteArray).size+(⟨#[47]⟩:ByteArray).size:=ByteArray.size_append;rw[e54];refine AM ?_;refine fI 1200 ?_;refine dI c2 ?_;have e47:(⟨#[47]⟩:ByteArray)=⟨([47]:List UInt8).toArray⟩:=rfl;rw[e47,JH,JH,Di,Em,F6];exact⟨rfl,_,trivial,AL⟩
 rintro n1 -;refine fR 1300 ?_;refine Ak ?_;exact AK rfl AA.out
theorem UY {n k:Nat}(h:(Af n).length<=k):(Aa n).length<=3*k:=by
 refine LY (CZ (Jf n) ?_);rw[Nat.pow_mul];exact BR (FY (by decide) h) (Nr (by decide) k)
theorem NF {n k:Nat}(h:(Af n).length<=k):(Lib.decDigits n).length<=27*k+1:=by
 have h1:=Ob (Eg n);rw[EA]at h1
 have:=UY h
 omega
theorem oO {z:Int}{k:Nat}(h:(Af z.natAbs).length<=k):(Lib.itoa z).length<=27*k+2:=by
 have:=NF h
 unfold Lib.itoa;split
 ·rw[Bp];omega
 ·rw[show z.toNat=z.natAbs by omega];omega
theorem UH {r:Rat}{k:Nat}(h:rk r k)(hk:k<=10000):MR r:=by
 have h1:=oO h.1;have h2:=NF h.2;unfold MR BO;split
 ·omega
 ·rw[Bk,Bp];omega
def LZ (x:Int)(p:Nat):Prop:=(Aa x.natAbs).length<=p
theorem LZ.mul {x y:Int}{p q:Nat}(hx:LZ x p)(hy:LZ y q):LZ (x*y) (p+q):=by
 unfold LZ at*;rw[Ni]
 have:=Sr x.natAbs y.natAbs
 omega
theorem LZ.add {x y:Int}{p q:Nat}(hx:LZ x p)(hy:LZ y q):LZ (x+y) (p+q+1):=by
 unfold LZ at*;have h1:=I1 (x+y).natAbs (x.natAbs+y.natAbs) (Int.natAbs_add_le x y);have h2:=Wq x.natAbs y.natAbs;omega
theorem LZ.few {x:Int}{p:Nat}(h:LZ x p)(hp:p<1000000):G3 x:=Db h hp
theorem LZ.num {r:Rat}{k:Nat}(h:rk r k):LZ r.num (3*k):=UY h.1
theorem LZ.den {r:Rat}{k:Nat}(h:rk r k):LZ (r.den:Int) (3*k):=UY h.2
theorem uy (a b:Rat):qZ (a.num*b.den+b.num*a.den) ((a.den:Int)*b.den)=a+b:=by
 unfold qZ;have h:¬((a.den:Int)*b.den<0):=by
  rw[<-F9];omega
 rw[AF h,<-F9,ET,Rat.add_def',]
theorem TG {x y:Int}(hx:x.natAbs<10^9)(hy:y.natAbs<10^9):(x*y).natAbs<10^18:=by
 rw[Ni];exact CZ (Nat.mul_lt_mul'' hx hy) (by decide)
theorem gO (a b:Rat)(i j:Nat)(ha:rk a i)(hb:rk b j)(hij:i+j<=10000):AJ C0 118 [rR a,rR b] (rR (a+b)):=by
 refine Aj.walk w1 rT rfl λF=>?_
 have ta:=UH ha (by omega);have tb:=UH hb (by omega);have qa:=Zj a ta;have qb:=Zj b tb
 by_cases hq:qk a=true/\qk b=true
 ·obtain⟨h1,h2⟩:=hq
  obtain⟨n1,d1⟩:=Tj h1;obtain⟨n2,d2⟩:=Tj h2;rw[h1,AH rfl,AH rfl]at qa;rw[h2,AH rfl,AH rfl]at qb;have p1:=TG n1 (y:=(b.den:Int)) (by omega);have p2:=TG n2 (y:=(a.den:Int)) (by omega);have p3:=TG (x:=(a.den:Int)) (y:=(b.den:Int)) (by omega) (by omega);have m1:IntKind.i64.wrap (a.num*(b.den:Int))=a.num*b.den:=wI (by omega) (by omega);have m2:IntKind.i64.wrap (b.num*(a.den:Int))=b.num*a.den:=wI (by omega) (by omega);have m3:IntKind.i64.wrap (a.num*(b.den:Int)+b.num*(a.den:Int))=a.num*b.den+b.num*a.den:=wI (by omega) (by omega);have m4:IntKind.i64.wrap ((a.den:Int)*(b.den:Int))=((a.den*b.den:Nat):Int):=by rw[wI (by omega) (by omega),F9]
  have p4:a.den*b.den<10^18:=by rw[<-F9,ET]at p3;exact p3
  have cf:=yG (a.num*b.den+b.num*a.den) (a.den*b.den) (by omega) (Hd a.den_pos b.den_pos) (by omega);rw[<-Rat.add_def']at cf;refine sR 0 ?_;refine sR 100 ?_;refine cI qa ?_;refine sR 200 ?_;refine cI qb ?_;refine AC.seq ?_;refine sZ 300 ?_;refine AE kT ?_;refine AM ?_;refine sZ 400 ?_;refine AV (BZ m1 m2 m3 m4) ?_;refine cI cf ?_;refine Ak ?_;exact AK rfl AA.out
 ·refine sR 0 ?_
  refine sR 100 ?_;refine cI qa ?_;refine sR 200 ?_;refine cI qb ?_;refine Cz (α:=Nat) (λn=>⟨[(0,rR a),(1,rR b)],[],n⟩) (λ_=>True) ?_ ?_
  ·cases h1:qk a
   ·refine sZ 300 ?_
    refine AE h1 ?_;refine AE kF ?_;refine AM ?_;refine Ao ?_;exact⟨rfl,_,trivial,AL⟩
   ·have h2:qk b=false:=by
     cases h2:qk b
     ·rfl
     ·exact Ae ⟨h1,h2⟩ hq
    rw[h2];refine sZ 300 ?_;refine AE h1 ?_;refine AE kT ?_;refine AM ?_;refine Ao ?_;exact⟨rfl,_,trivial,AL⟩
  rintro n0 -;clear qa qb hq;have pa:=T8 (BO a) (Yk a) (Yj a) ta;have pb:=T8 (BO b) (Yk b) (Yj b) tb;rw[Ym,nL]at pa pb;have lan:=LZ.num ha;have lad:=LZ.den ha;have lbn:=LZ.num hb;have lbd:=LZ.den hb;have da:=a.den_pos;have db:=b.den_pos;have c1:=UI a.num b.den (lan.few (by omega)) (lbd.few (by omega));have c2:=UI b.num a.den (lbn.few (by omega)) (lad.few (by omega));have c3:=uu (a.num*b.den) (b.num*a.den) ((lan.mul lbd).few (by omega)) ((lbn.mul lad).few (by omega));have c4:=UI (a.den:Int) b.den (lad.few (by omega)) (lbd.few (by omega));have c5:=ji (a.num*b.den+b.num*a.den) ((a.den:Int)*b.den) (by rw[<-F9];have:=Hd da db;omega) (((lan.mul lbd).add (lbn.mul lad)).few (by omega)) ((lad.mul lbd).few (by omega));rw[uy]at c5;refine sR 500 ?_;refine cI pa ?_;refine sR 600 ?_;refine cI pb ?_;refine AC.seq ?_;refine B9 w1 700 [0,1,2,3,4,5,6,7,8] [9,10,11] (by kernel_rfl) ?_;refine AE kN ?_
  first|refine BU.same _ c1 AI ?_|refine BE.same _ c1 AI ?_
  refine AE kN ?_
  first|refine BU.same _ c2 AI ?_|refine BE.same _ c2 AI ?_
  refine AE kN ?_
  first|refine BU.same _ c3 AI ?_|refine BE.same _ c3 AI ?_
  refine AE kN ?_
  first|refine BU.same _ c4 AI ?_|refine BE.same _ c4 AI ?_
  refine AE kN ?_
  first|refine BU.same _ c5 AI ?_|refine BE.same _ c5 AI ?_
  refine AE kN ?_;refine Ak ?_;exact AK rfl AA.out
theorem nO (c:UInt8):Bf c=(!decide ((c.toNat:Int)<48) && !decide ((c.toNat:Int)>57)):=by
 unfold Bf;rw[Fm,BQ,BQ];simp only[Bi,Is,Nat.ble_eq];omega
theorem i8 {l:List UInt8}{i:Nat}{c:UInt8}(hc:l[i]?=some c)(h:(l.take i).all Bf=true):(l.take (i+1)).all Bf=Bf c:=by
 rw[Dp,hc,KO,h];simp
theorem qW {l:List UInt8}{i:Nat}{c:UInt8}(hc:l[i]?=some c)(h:Bf c=false):l.all Bf=false:=by
 cases ha:l.all Bf
 ·rfl
 ·have:=CS.1 ha c (Aw hc)
  rw[h]at this;cases this
theorem mE (l:List UInt8)(hl:l.length<=1000000000):AJ C0 154 [str (sb l)] (As (l.all Bf)):=by
 refine Aj.walk w1 se rfl λF=>?_
 have hsz:=Ci l;refine sR 0 ?_;refine AC.seq ?_;refine sR 100 ?_;refine AC.block ?_;refine AC.loop (α:=Nat×Nat) (λp=>⟨[(0,str (sb l)),(3,i64 (p.1:Int))],[],p.2⟩) (λp=>l.length-p.1) (λp=>p.1<=l.length/\(l.take p.1).all Bf=true) (0,_) ⟨BX _,rfl⟩ AL ?_;rintro⟨i,n⟩ F ⟨hi,ha⟩;dsimp only at hi ha⊢;refine AC.seq ?_;refine sZ 200 ?_;refine AV hsz ?_;refine AM ?_
 (refine By (λhlt=>?_) (λhlt=>?_))<;>(try simp only[Bi,Bv]at hlt)<;>(try simp only[hlt])
 ·have hi2:i<l.length:=by
   have:=C6 hlt
   omega
  obtain⟨c,hc⟩:∃c,l[i]?=some c:=⟨l[i],BG hi2⟩
  have hg:l.getD i 0=c:=by simp[hc]
  have wi:IntKind.i64.wrap ((i:Int)+1)=((i+1:Nat):Int):=wI (by omega) (by omega);have hid:=nO c;have hat:=i8 hc ha;have hno:=qW hc;refine Ao ?_;refine AC.seq ?_;refine AC.block ?_;refine sZ 400 ?_;refine AV (Ad kN hg) ?_
  by_cases c1:(c.toNat:Int)<48
  ·rw[AZ c1]at hid
   have e4:=AZ c1;simp only[e4];refine AE kT ?_;refine AM ?_;refine sR 500 ?_;refine Ak ?_;exact AK (by rw[hno hid]) AA.out
  ·rw[Ah c1]at hid
   have e4:=Ah c1;simp only[e4];refine AE (At kF kN hg) ?_
   by_cases c2:(c.toNat:Int)>57
   ·rw[AZ c2]at hid⊢
    refine AM ?_;refine sR 500 ?_;refine Ak ?_;exact AK (by rw[hno hid]) AA.out
   ·rw[Ah c2]at hid⊢
    refine AM ?_;refine Ao ?_;refine Ap w1 300 (by kernel_rfl) ?_;refine AV wi ?_;exact⟨(i+1,_),⟨hi2,hat.trans hid⟩,by dsimp only;omega,AL⟩
 ·have hi2:i=l.length:=by
   have:=DP hlt
   omega
  subst hi2;rw[CE (Ai _)]at ha;refine CC ?_;refine sR 600 ?_;refine Ak ?_;exact AK (by rw[ha]) AA.out
theorem kj (c:UInt8):(((c.toNat:Nat):Int)==48)=decide (c=48):=by
 rw[Fm,EH,decide_eq_true_iff,<-UInt8.toNat_inj];exact⟨λh=>(show c.toNat=48 by omega),λh=>by rw[h];rfl⟩
theorem bV (l:List UInt8)(hl:l.length<=1000000000):AJ C0 115 [str (sb l)] (As (C8 l)):=by
 refine Aj.walk w1 rP rfl λF=>?_
 have hsz:=Ci l;have cd:=mE l hl;refine sR 0 ?_;refine AC.seq ?_;refine AC.seq ?_
 match l,hl,hsz,cd with
 | [],_,hsz,_=>
  have e1:((((sb []).size:Nat):Int)==0)=true:=rfl;refine Ap w1 100 (by kernel_rfl) ?_;refine AV e1 ?_;refine AE kT ?_;refine AM ?_;refine sR 200 ?_;refine Ak ?_;exact AK rfl AA.out
 | [c],hl,hsz,cd=>
  have e1:((((sb [c]).size:Nat):Int)==0)=false:=rfl;have e2:decide ((((sb [c]).size:Nat):Int)>1)=false:=rfl;have ep:C8 [c]=[c].all Bf:=by
   unfold C8 LA
   by_cases h:c=48
   ·subst h;rfl
   ·simp[h]
  rw[ep];refine Ap w1 100 (by kernel_rfl) ?_;refine AV e1 ?_;refine AE kF ?_;simp only[e2];refine AE kF ?_;refine AM ?_;refine Ao ?_;refine sR 300 ?_;refine cI cd ?_;refine Ak ?_;exact AK rfl AA.out
 |c::d::l,hl,hsz,cd=>
  have hs2:(sb (c::d::l)).size=l.length+2:=hsz;have e1:((((sb (c::d::l)).size:Nat):Int)==0)=false:=Bu.2 (by omega);have e2:decide ((((sb (c::d::l)).size:Nat):Int)>1)=true:=AZ (by omega);have e3:((((c::d::l).getD (Int.toNat 0) 0).toNat:Int)==48)=decide (c=48):=kj c;have ep:C8 (c::d::l)=if c=48 then false else(c::d::l).all Bf:=by
   unfold C8 LA
   by_cases h:c=48
   ·subst h;simp
   ·simp[h]
  rw[ep];refine Ap w1 100 (by kernel_rfl) ?_;refine AV e1 ?_;refine AE (Ad kF e2) ?_;refine AE (BZ kT e2 e3 kF) ?_
  by_cases h:c=48
  ·rw[AZ h,AH h]
   refine AM ?_;refine sR 200 ?_;refine Ak ?_;exact AK rfl AA.out
  ·rw[Ah h,AF h]
   refine AM ?_;refine Ao ?_;refine sR 300 ?_;refine cI cd ?_;refine Ak ?_;exact AK rfl AA.out
def Du (r:Rat):Bool:=decide (600<(Lib.decDigits r.num.natAbs).length)||decide (600<(Lib.decDigits r.den).length)
theorem lh (l:List UInt8):BK l=(B1 l).length:=by
 have:=Lc l
 unfold B1;rw[Bb];omega
theorem S1 (l:List UInt8):B1 (Bo l)=B3 l/\BY (Bo l)=BY l/\Cu (Bo l)=Cu l/\decide (B1 l=[45,48])=(DN l&&decide (B3 l=[48])):=by
 cases hb:DN l
 ·have ed:Bo l=l:=by unfold Bo;rw[hb];rfl
  have en:DN (B1 l)=false:=by
   unfold B1;cases l with
   |nil=>rfl
   |cons c l=>
    cases hk:BK (c::l)with
    |zero=>rfl
    |succ k=>exact hb
  have es:B3 l=B1 l:=by unfold B3 Bo;rw[en];rfl
  rw[ed,es];refine⟨rfl,rfl,rfl,?_⟩;rw[HX];refine Ah λh=>?_
  rw[h]at en;cases en
 ·cases l with
  |nil=>cases hb
  |cons c m=>
   have hc:c=45:=by simpa[DN]using hb
   subst hc;have ed:Bo (45::m)=m:=rfl;have e1:BK (45::m)=BK m+1:=by
    unfold BK;rw[Po,AH (by decide),Bp]
   have e2:B1 (45::m)=45::B1 m:=by unfold B1;rw[e1,List.take_succ_cons]
   have e3:BY (45::m)=BY m:=by unfold BY;rw[e1,SW]
   have e4:Cu (45::m)=Cu m:=by unfold Cu;rw[e1,Bp];exact C5.2 (by omega)
   have e5:B3 (45::m)=B1 m:=by unfold B3;rw[e2];rfl
   rw[ed,e2,e3,e4,e5];refine⟨rfl,rfl,rfl,?_⟩;rw[Gi];exact C5.2 (by simp)
theorem QB (l:List UInt8):Jl l=((!C8 (B3 l)||(DN l&&decide (B3 l=[48])))||(Cu l&&(!C8 (BY l)||decide (BY l=[48])||decide (BY l=[49])))):=by
 unfold Jl;rw[(S1 l).2.2.2]
theorem nq {l:List UInt8}(h:C8 l=true):l≠[]:=(KZ h).1
theorem dK {l:List UInt8}(h:0<l.length):(((l.getD (Int.toNat 0) 0).toNat:Int)==45)=DN l:=by
 cases l with
 |nil=>cases h
 |cons c l=>exact Qk c l
theorem vD (l:List UInt8)(hl:l.length<=100000):AJ C0 72 [str (sb l)] (i64 (Cb l)):=by
 refine Aj.walk w1 wZ rfl λF=>?_
 have hsz:=Ci l;obtain⟨p1,p2,p3,-⟩:=S1 l;have hdl:(Bo l).length<=l.length:=by
  unfold Bo;split
  ·rw[Dv];omega
  ·exact Ai _
 have hbf:=QB l;have hchk1:(!C8 (B3 l)||(DN l&&decide (B3 l=[48])))=true->Cb l=1:=λh=>by
  unfold Cb;rw[hbf,h,Bool.true_or,AH rfl]
 have hchk2:(Cu l&&(!C8 (BY l)||decide (BY l=[48])||decide (BY l=[49])))=true->Cb l=1:=λh=>by
  unfold Cb;rw[hbf,h,Bool.or_true,AH rfl]
 have hne:C8 (B3 l)=true->0<l.length:=λh=>by
  cases l with
  |nil=>exact Ae rfl (nq h)
  |cons c l=>rw[Bp];omega
 refine sR 0 ?_;refine sR 100 ?_;refine Cz (α:=Nat) (λn=>⟨[(0,str (sb l)),(3,str (sb (Bo l)))],[],n⟩) (λ_=>True) ?_ ?_
 ·rcases Dh l.length with h0|h0
  ·have e0:l=[]:=En h0
   have e1:decide (((sb []).size:Int)>0)=false:=rfl;have ed:Bo l=l:=by rw[e0];rfl
   rw[ed,e0];refine sZ 200 ?_;refine AV e1 ?_;refine AE kF ?_;refine AM ?_;refine Ao ?_;exact⟨rfl,_,trivial,AL⟩
  ·have e0:decide (((sb l).size:Int)>0)=true:=AZ (by omega)
   have e1:=dK h0;refine sZ 200 ?_;refine AE e0 ?_;refine AE (At kT e0 e1) ?_;cases hb:DN l
   ·have ed:Bo l=l:=by unfold Bo;rw[hb];rfl
    rw[ed];refine AM ?_;refine Ao ?_;exact⟨rfl,_,trivial,AL⟩
   ·have ed:Bo l=l.drop 1:=by unfold Bo;rw[hb];rfl
    have ee:(sb l).extract (Int.toNat 1) l.length=sb (Bo l):=by
     rw[Ew,CE (Ai _),ed];rfl
    refine AM ?_;refine Ap w1 300 (by kernel_rfl) ?_;refine AE (Ad hsz kN) ?_;rw[ee];exact⟨trivial,_,trivial,AL⟩
 rintro n0 -;have cs:=UD (Bo l) (by omega);have hle:=Lc (Bo l);have hszS:=Ci (Bo l);have hhs:Cu l=decide (BK (Bo l)<(Bo l).length):=p3.symm;have e10:(sb (Bo l)).extract 0 (BK (Bo l))=sb (B3 l):=by rw[<-p1,Ew,Fk];rfl
 have e11:(sb (Bo l)).extract (BK (Bo l)+1) (Bo l).length=sb (BY l):=by rw[<-p2,Ew,CE (Ai _)];rfl
 have hNl:BK (Bo l)=(B3 l).length:=by rw[<-p1];exact lh _
 have hDl:(BY l).length=(Bo l).length-(BK (Bo l)+1):=by rw[<-p2];unfold BY;rw[Dv]
 have pp:=λh1 h2=>T8 (Bo l) h1 h2 (by omega)
 unfold PY PT at pp;rw[p1,p2,p3]at pp;have edef:Cb l=if Jl l then 1 else if 600<(B3 l).length\/600<(BY l).length then 4 else if Cu l=true/\Nat.gcd (dv (B3 l)) (dv (BY l))≠1 then 1 else 0:=rfl
 rw[hbf]at edef;generalize hN:B3 l=Nn at*;generalize hD:BY l=Dn at*;generalize hH:Cu l=hv at*;generalize hK:Cb l=KnV at*;generalize Bo l=Sn at*;generalize BK Sn=k at*;clear p1 p2 p3 hbf hN hD hH hK;have cf:=bV Nn (by omega);have cf2:=bV Dn (by omega);have q0:=E2 Nn [48];have q1:=E2 Dn [48];have q2:=E2 Dn [49];refine sR 400 ?_;refine cI cs ?_;refine Cz (α:=Nat) (λn=>⟨[(0,str (sb l)),(3,str (sb Sn)),(4,i64 (k:Int))],[],n⟩) (λ_=>(!C8 Nn||(DN l&&decide (Nn=[48])))=false) ?_ ?_
 ·refine sZ 500 ?_
  refine AE (Ad hszS kN) ?_;refine AE e10 ?_;cases hp:C8 Nn
  ·rw[hp]at cf
   refine BE.same _ cf AI ?_;refine BP ?_;simp only[SN];refine AE kT ?_;refine AM ?_;refine sR 600 ?_;refine Ak ?_;exact AK (by rw[hchk1 (by rw[hp];rfl)];rfl) AA.out
  ·rw[hp]at cf
   have hl0:=hne hp;have e1:=dK hl0;refine BE.same _ cf AI ?_;refine BP ?_;simp only[Ph];refine AE (At kF hsz e1) ?_;have q0':BF (sb Nn) ⟨#[48]⟩=decide (Nn=[48]):=q0;cases hb:DN l
   ·refine AE kF ?_
    refine AM ?_;refine Ao ?_;exact⟨rfl,_,rfl,AL⟩
   ·refine AE (BZ kT kF hszS kN) ?_
    refine AE (BZ kT kF e10 q0') ?_
    by_cases h0:Nn=[48]
    ·rw[AZ h0]
     refine AM ?_;refine sR 600 ?_;refine Ak ?_;exact AK (by rw[hchk1 (by simp[hp,hb,h0])];rfl) AA.out
    ·rw[Ah h0]
     refine AM ?_;refine Ao ?_;exact⟨rfl,_,by simp,AL⟩
 rintro n1 hb1;clear hchk1 hne cf q0;refine Cz (α:=Nat) (λn=>⟨[(0,str (sb l)),(3,str (sb Sn)),(4,i64 (k:Int))],[],n⟩) (λ_=>(hv&&(!C8 Dn||decide (Dn=[48])||decide (Dn=[49])))=false) ?_ ?_
 ·cases hv
  ·have e40:decide ((k:Int)<(Sn.length:Int))=false:=Ah (by have:=DP hhs.symm;omega)
   refine sZ 700 ?_;refine AV (Ad hszS e40) ?_;refine AE kF ?_;refine AM ?_;refine Ao ?_;exact⟨rfl,_,rfl,AL⟩
  ·have hkl:=C6 hhs.symm
   have e40:decide ((k:Int)<(Sn.length:Int))=true:=AZ (by omega);have wk:IntKind.i64.wrap ((k:Int)+1)=((k+1:Nat):Int):=wI (by omega) (by omega);have q1':BF (sb Dn) ⟨#[48]⟩=decide (Dn=[48]):=q1;have q2':BF (sb Dn) ⟨#[49]⟩=decide (Dn=[49]):=q2;refine sZ 700 ?_;refine AV (Ad hszS e40) ?_;refine AE (BZ kT wk hszS kN) ?_;simp only[e11];refine Ny kT ?_;cases hp:C8 Dn
   ·rw[hp]at cf2
    refine BE.same _ cf2 AI ?_;refine AE kB ?_;refine AE kT ?_;refine AM ?_;refine sR 800 ?_;refine Ak ?_;exact AK (by rw[hchk2 (by simp[hp])];rfl) AA.out
   ·rw[hp]at cf2
    have e12:(sb Sn).extract (IntKind.i64.wrap ((k:Int)+1)).toNat (sb Sn).size=sb Dn:=by rw[wk,hszS,Gk];exact e11
    refine BE.same _ cf2 AI ?_;refine AE kB ?_;simp only[e12,q1']
    by_cases h48:Dn=[48]
    ·rw[AZ h48]
     refine AE kT ?_;refine AM ?_;refine sR 800 ?_;refine Ak ?_;exact AK (by rw[hchk2 (by simp[h48])];rfl) AA.out
    ·rw[Ah h48]
     refine AE kB ?_;simp only[e12,q2']
     by_cases h49:Dn=[49]
     ·rw[AZ h49]
      refine AM ?_;refine sR 800 ?_;refine Ak ?_;exact AK (by rw[hchk2 (by simp[h49])];rfl) AA.out
     ·rw[Ah h49]
      refine AM ?_;refine Ao ?_;exact⟨rfl,_,by simp,AL⟩
 rintro n2 hb2;clear hchk2 cf2 q1 q2 e10 e11 hsz;have hpN:C8 Nn=true:=by
  cases h:C8 Nn
  ·rw[h]at hb1;simp at hb1
  ·rfl
 have hpD:hv=true->C8 Dn=true:=λh0=>by
  cases h:C8 Dn
  ·rw[h,h0]at hb2;simp at hb2
  ·rfl
 rw[hb1,hb2]at edef;rw[AF (by decide)]at edef;have wl1:IntKind.i64.wrap ((Sn.length:Int)-(k:Int))=(Sn.length:Int)-(k:Int):=wI (by omega) (by omega);have wl2:IntKind.i64.wrap ((Sn.length:Int)-(k:Int)-1)=(Sn.length:Int)-(k:Int)-1:=wI (by omega) (by omega);have e91:decide ((Sn.length:Int)-(k:Int)-1>600)=decide (600<Dn.length):=C5.2 (by omega);refine Cz (α:=Nat) (λn=>⟨[(3,str (sb Sn)),(4,i64 (k:Int))],[],n⟩) (λ_=>Nn.length<=600/\Dn.length<=600) ?_ ?_
 ·by_cases g1:600<k
  ·have e9:decide ((k:Int)>600)=true:=AZ (by omega)
   rw[AH (.inl (by omega))]at edef;refine sZ 900 ?_;refine AV e9 ?_;refine AE kT ?_;refine AM ?_;refine sR 1000 ?_;refine Ak ?_;exact AK (by rw[edef];rfl) AA.out
  ·have e9:decide ((k:Int)>600)=false:=Ah (by omega)
   refine sZ 900 ?_;refine AV e9 ?_;refine AE (CO kF hszS wl1 wl2 e91) ?_
   by_cases g2:600<Dn.length
   ·rw[AH (.inr g2)]at edef
    rw[AZ g2];refine AM ?_;refine sR 1000 ?_;refine Ak ?_;exact AK (by rw[edef];rfl) AA.out
   ·rw[Ah g2]
    refine AM ?_;refine Ao ?_;exact⟨rfl,_,⟨by omega,by omega⟩,AL⟩
 rintro n3 ⟨g1,g2⟩;rw[AF (by omega)]at edef;clear e91 wl1 wl2 hb1 hb2;obtain⟨-,dN⟩:=KZ hpN;refine Cz (α:=Nat) (λn=>⟨[],[],n⟩) (λ_=>KnV=0) ?_ ?_
 ·cases hv
  ·have e40:decide ((k:Int)<(Sn.length:Int))=false:=Ah (by have:=DP hhs.symm;omega)
   rw[AF (by simp)]at edef;refine sZ 1100 ?_;refine AV (Ad hszS e40) ?_;refine AM ?_;refine Ao ?_;exact⟨rfl,_,edef,AL⟩
  ·have hkl:=C6 hhs.symm
   have e40:decide ((k:Int)<(Sn.length:Int))=true:=AZ (by omega);obtain⟨-,dD⟩:=KZ (hpD rfl);have pa:=pp (by rw[KW dN];exact dN) (by rw[KW dD];exact dD);rw[AH rfl,M7 dN,M7 dD]at pa;have lN:(Aa (dv Nn)).length<1000000:=Db (LY (CZ (GS Nn dN) (Nr (by decide) Nn.length))) (by omega);have lD:(Aa (dv Dn)).length<1000000:=Db (LY (CZ (GS Dn dD) (Nr (by decide) Dn.length))) (by omega);have cg:AJ C0 117 [rD ((dv Nn:Int)).natAbs,rD ((dv Dn:Int)).natAbs] (.sl false 1 ((Aa (Nat.gcd (dv Nn) (dv Dn))).map Ab)):=YV (dv Nn) (dv Dn) lN lD;have ht:=Ys (Nat.gcd (dv Nn) (dv Dn));have ed1:Nat.gcd (dv Nn) (dv Dn)≠1->KnV=1:=λh=>by rw[AH ⟨rfl,h⟩]at edef;exact edef
   have ed0:Nat.gcd (dv Nn) (dv Dn)=1->KnV=0:=λh=>by rw[AF (λhh=>hh.2 h)]at edef;exact edef
   clear edef;generalize Nat.gcd (dv Nn) (dv Dn)=gg at*;refine sZ 1100 ?_;refine AV (Ad hszS e40) ?_;refine AM ?_;refine sR 1200 ?_;refine cI pa ?_;refine sR 1300 ?_;refine cI cg ?_;rcases ht with⟨t1,a,ha,t2⟩|⟨t1,t2⟩
   ·have ha':=Ds ha
    have t1n:((((Aa gg).map Ab).length:Int) != 1)=false:=by unfold bne;rw[t1];rfl
    have t2n:((a:Int) != 1) = !decide (gg=1):=by unfold bne;rw[t2]
    refine sZ 1400 ?_;refine AV t1n ?_;refine AE kF ?_;refine Bs kF ha' ?_;refine AE (Ad kF t2n) ?_
    by_cases hg1:gg=1
    ·rw[AZ hg1]
     refine AM ?_;refine Ao ?_;exact⟨rfl,_,ed0 hg1,AL⟩
    ·rw[Ah hg1]
     refine AM ?_;refine sR 1500 ?_;refine Ak ?_;exact AK (by rw[ed1 hg1];rfl) AA.out
   ·have edf:=ed1 t2
    have t1n:((((Aa gg).map Ab).length:Int) != 1)=true:=by unfold bne;rw[t1];rfl
    refine sZ 1400 ?_;refine AV t1n ?_;refine AE kT ?_;refine AM ?_;refine sR 1500 ?_;refine Ak ?_;exact AK (by rw[edf];rfl) AA.out
 rintro n4 h0;refine sR 1600 ?_;refine Ak ?_;exact AK (by rw[h0];rfl) AA.out
theorem mC {n k:Nat}(hn:n≠0)(hk:k<10):Lib.decDigits (n*10+k)=Lib.decDigits n++[UInt8.ofNat (48+k)]:=by
 rw[Lib.decDigits,dif_neg (by omega)]
 congr 2
 ·omega
 ·congr 2;omega
theorem YZ {c:UInt8}(h:Bf c=true):UInt8.ofNat (48+(c.toNat-48))=c:=by
 obtain⟨h1,h2⟩:=Lg h;rw[<-UInt8.toNat_inj,Qc _ (by omega)];omega
theorem oe (l:List UInt8)(c:UInt8):dv (l++[c])=dv l*10+(c.toNat-48):=by
 rw[OG];simp[dv,G4]
theorem rz:∀(n:Nat) (l:List UInt8),l.length=n->l≠[]->l.all Bf=true->l.head? ≠ some 48->dv l≠0/\Lib.decDigits (dv l)=l:=λn=>by
 induction n with
 |zero=>intro l h0 h1;exact Ae (En h0) h1
 |succ n ih=>
  intro l h0 h1 h2 h3;rcases SR l with rfl|⟨m,c,rfl⟩
  ·exact Ae rfl h1
  ·rw[SQ]at h0 h1 h2 h3⊢
   rw[KO,BQ]at h2;have hc:Bf c=true:=by simpa using h2.2
   obtain⟨c1,c2⟩:=Lg hc;rw[oe]
   by_cases hm:m=[]
   ·subst hm
    have hc48:c≠48:=λh=>h3 (by rw[h];rfl)
    have hcn:c.toNat≠48:=λh=>hc48 (UInt8.toNat_inj.1 h)
    have e0:dv []*10+(c.toNat-48)=c.toNat-48:=by simp[dv,G4]
    rw[e0];refine⟨by omega,?_⟩;rw[Lib.decDigits,dif_pos (by omega),YZ hc];rfl
   ·have hh:m.head? ≠ some 48:=by
     cases m with
     |nil=>exact Ae rfl hm
     |cons a m=>exact h3
    obtain⟨i1,i2⟩:=ih m (by rw[Bk,Gj]at h0;omega) hm h2.1 hh;refine⟨by omega,?_⟩;rw[mC i1 (by omega),i2,YZ hc]
theorem TX {l:List UInt8}(h:C8 l=true):Lib.decDigits (dv l)=l/\(l≠[48]->dv l≠0):=by
 obtain⟨h1,h2⟩:=KZ h
 by_cases h0:l=[48]
 ·subst h0
  refine⟨?_,λhh=>Ae rfl hh⟩;show Lib.decDigits 0=[48];rw[Lib.decDigits,dif_pos (by decide)];rfl
 ·have h3:l.head? ≠ some 48:=by
   unfold C8 at h;rw[BQ,Ah h0,Bool.false_or]at h
   have:=h.2
   simpa using this
  obtain⟨a,b⟩:=rz _ l rfl h1 h2 h3;exact⟨b,λ_=>a⟩
theorem Yg:∀ {l:List UInt8},BK l<l.length->l.drop (BK l)=47::l.drop (BK l+1)
 | [],h=>by cases h
 |c::l,h=>by
  by_cases hc:c=47
  ·subst hc;rfl
  ·have e1:BK (c::l)=BK l+1:=by
    unfold BK;rw[Po,AH (by simpa using hc),Bp]
   rw[e1,Bp]at h;rw[e1,SW,SW];exact Yg (by omega)
def G1 (l:List UInt8):Nat:=if Cu l then dv (BY l)else 1
def CT (l:List UInt8):Rat:=mkRat (rv (B1 l)) (G1 l)
theorem lK {n:Int}{d:Nat}(hd:d≠0)(h:Nat.gcd n.natAbs d=1):(mkRat n d).num=n/\(mkRat n d).den=d:=by
 obtain⟨q1,q2⟩:=Ti (x:=n) hd;rw[h,Nat.div_one]at q1 q2;rw[Rn]at q1;exact⟨q1,q2⟩
theorem Qb {l:List UInt8}(h:Cb l=0):Jl l=false/\(B3 l).length<=600/\(BY l).length<=600/\(Cu l=true->Nat.gcd (dv (B3 l)) (dv (BY l))=1):=by
 unfold Cb at h;cases hb:Jl l
 ·rw[hb,AF (by decide)]at h
  split at h
  ·cases h
  ·rename_i h1
   split at h
   ·cases h
   ·rename_i h2
    refine⟨rfl,by omega,by omega,λh3=>?_⟩;rcases Nat.decEq (Nat.gcd (dv (B3 l)) (dv (BY l))) 1 with h4|h4
    ·exact Ae ⟨h3,h4⟩ h2
    ·exact h4
 ·rw[hb,AH rfl]at h;cases h
theorem OF {l:List UInt8}(h:Cb l=0):(CT l).num=rv (B1 l)/\(CT l).den=G1 l/\BO (CT l)=l/\(rv (B1 l)).natAbs=dv (B3 l):=by
 obtain⟨h1,h2,h3,h4⟩:=Qb h;rw[QB]at h1;simp only[JT]at h1;obtain⟨⟨b1,b2⟩,b3⟩:=h1;have p1:C8 (B3 l)=true:=by simpa using b1
 obtain⟨d1,d2⟩:=TX p1;have hab:(rv (B1 l)).natAbs=dv (B3 l):=by
  show(rv (B1 l)).natAbs=dv (Bo (B1 l));unfold rv;split<;>omega
 have hdd:Cu l=true->C8 (BY l)=true/\BY l≠[48]/\BY l≠[49]:=λhs=>by
  rw[hs,Gi]at b3;simp only[JT]at b3;exact⟨by simpa using b3.1.1,DP b3.1.2,DP b3.2⟩
 have hd0:G1 l≠0:=by
  unfold G1;cases hs:Cu l
  ·simp
  ·obtain⟨e1,e2,e3⟩:=hdd hs
   simpa using(TX e1).2 e2
 have hg:Nat.gcd (rv (B1 l)).natAbs (G1 l)=1:=by
  rw[hab];unfold G1;cases hs:Cu l
  ·simp
  ·simpa using h4 hs
 obtain⟨m1,m2⟩:=lK hd0 hg;refine⟨m1,m2,?_,hab⟩;have hi:Lib.itoa (rv (B1 l))=B1 l:=by
  cases hb:DN (B1 l)
  ·have e1:B3 l=B1 l:=by unfold B3 Bo;rw[hb];rfl
   rw[e1]at d1;have e2:rv (B1 l)=(dv (B1 l):Int):=by unfold rv Bo;rw[hb];rfl
   rw[e2];unfold Lib.itoa;rw[AF (by omega)];exact d1
  ·obtain⟨m,hm⟩:∃m,B1 l=45::m:=by
    cases hn:B1 l with
    |nil=>rw[hn]at hb;cases hb
    |cons c m=>
     rw[hn]at hb;exact⟨m,by rw[show c=45 by simpa[DN]using hb]⟩
   have e1:B3 l=m:=by unfold B3;rw[hm];rfl
   have hne:B3 l≠[48]:=λh=>by
    have:=(S1 l).2.2.2
    rw[b2,hm]at this;have h2:=DP this;rw[e1]at h;exact h2 (by rw[h])
   have hpos:=d2 hne;rw[e1]at d1 hpos;have e2:rv (B1 l) = -(dv m:Int):=by rw[hm];rfl
   rw[e2];unfold Lib.itoa;rw[AH (by omega),MU,ET,d1,hm]
 unfold BO;rw[show(CT l).num=rv (B1 l)from m1,show(CT l).den=G1 l from m2,hi];have hle:=Lc l;cases hs:Cu l
 ·have e1:G1 l=1:=by unfold G1;rw[hs];rfl
  have e2:=DP (p:=BK l<l.length) hs;rw[AH e1];unfold B1;exact CE (by omega)
 ·obtain⟨e1,e2,e3⟩:=hdd hs
  have e4:G1 l=dv (BY l):=by unfold G1;rw[hs];rfl
  have e5:=(TX e1).1;have e6:dv (BY l)≠1:=λh=>by
   rw[h,Lib.decDigits,dif_pos (by decide)]at e5;exact e3 e5.symm
  rw[e4,AF e6,e5];unfold B1 BY;rw[<-Yg (C6 hs),E8]
theorem P7 {l:List UInt8}(h:Cb l=0):(B3 l).all Bf=true/\(Cu l=true->(BY l).all Bf=true):=by
 obtain⟨h1,-,-,-⟩:=Qb h;rw[QB]at h1;simp only[JT]at h1;obtain⟨⟨b1,-⟩,b3⟩:=h1;refine⟨(KZ (by simpa using b1)).2,λhs=>?_⟩;rw[hs,Gi]at b3;simp only[JT]at b3;exact(KZ (by simpa using b3.1.1)).2
theorem NE {l:List UInt8}(h:Cb l=0):rk (CT l) 600:=by
 obtain⟨m1,m2,-,m4⟩:=OF h;obtain⟨-,h2,h3,-⟩:=Qb h;obtain⟨p1,p2⟩:=P7 h;have hb:∀k,(10:Nat)^k<=BB^k:=λk=>Nr (by decide) k
 refine⟨?_,?_⟩
 ·rw[m1,m4]
  exact BR (HB (CZ (GS _ p1) (hb _))) h2
 ·rw[m2]
  unfold G1;cases hs:Cu l
  ·exact BR (HB (n:=1) (k:=1) (by decide)) (by decide)
  ·exact BR (HB (CZ (GS _ (p2 hs)) (hb _))) h3
theorem RY {l:List UInt8}(h:Cb l=0):FR (CT l) (GT l) 600:=by
 obtain⟨m1,m2,-,-⟩:=OF h;refine⟨⟨Cj _,?_,?_⟩,NE h⟩
 ·show(AX (rv (B1 l))).z=_
  rw[Dq,m1]
 ·show(if Cu l then dv (BY l)else 1)=_
  rw[m2];rfl
theorem RM {l:List UInt8}(hl:l.length<=100000)(h:Cb l=0):AJ C0 111 [str (sb l)] (GT l).D:=oE l hl (P7 h).1 (P7 h).2
end Go.Ide
