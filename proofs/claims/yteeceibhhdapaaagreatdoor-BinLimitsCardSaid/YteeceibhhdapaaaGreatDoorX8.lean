/- The layer of own lemmas and contracts, part 8. -/
import Derived.Test.YteeceibhhdapaaaGreatDoorX7
import Derived.Test.YteeceibhhdapaaaGreatDoorX3
set_option linter.unusedVariables false
set_option linter.unusedSimpArgs false
namespace Go.Ide
open Go.Proofs Go.RowKit
set_option maxRecDepth 20000
def Cq (b:Nat):Bool:=((decide (97<=b)&&decide (b<=122))||(decide (65<=b)&&decide (b<=90)))||(decide (48<=b)&&decide (b<=57))||b==45||b==95||b==46
def DZ (l:List UInt8):Bool:=l.all (λb=>Cq b.toNat)&&(decide (1<=l.length)&&decide (l.length<=24))
theorem eF (s:ByteArray)(p:Nat)(hp:p<s.size):s.data.toList[p]?=some (s.get! p):=by
 have hp':p<s.data.size:=hp;rw[Iy,Bn hp']
 congr 1
 show _=s.data[p]!;rw[getElem!_pos s.data p hp']
theorem YF (s:ByteArray)(p:Nat)(h:(s.get! p).toNat<128):Utf8.decode s p=((s.get! p).toNat,1):=by
 unfold Utf8.decode;exact AG h
theorem l7 (s:ByteArray)(p:Nat)(h:¬(s.get! p).toNat<128):128<=(Utf8.decode s p).1:=by
 unfold Utf8.decode;dsimp only;simp only[DR];rw[AF h];have hv:128<=Utf8.runeError:=by decide
 repeat' split
 all_goals first|exact hv|(rename_i h1;simp only[ge_iff_le,BP,GP]at h1;dsimp only;omega)
theorem jU (s:ByteArray):AJ C0 56 [str s] (Ap (DZ s.data.toList)):=by
 refine Ag.walk w1 ck rfl λB=>?_
 have hsz:s.data.toList.length=s.size:=IR;refine fR 0 ?_;refine AC.seq ?_;refine AC.seq ?_;refine yq w1 100 [0] 1 rfl (by kernel_rfl) rfl ?_;refine B9 ?_;intro F hF;refine At ?_;refine AC.block ?_;refine GN (α:=Nat×Nat) (λp=>⟨[(0,str s),(7,.optr 101 2 0 0 0)],[],p.2⟩) (λp=>s.size-p.1) (λp F=>Mb C0 B F 101 2 s p.1/\p.1<=s.size/\(s.data.toList.take p.1).all (λb=>Cq b.toNat)=true) (0,3) ⟨hF,BS _,rfl⟩ AK ?_;rintro⟨p,n⟩ F ⟨hIt,hp,hall⟩;dsimp only at hIt hp hall⊢;refine AC.seq ?_;refine yp w1 200 0 [1] rfl (by kernel_rfl) s p ?_;refine And.intro hIt (And.intro (λhlt F hIt=>?_) (λhge=>?_))
 ·refine B9 ?_
  generalize hc:(Utf8.decode s p).1=c;refine AC.seq ?_;refine AM ?_;refine Am ?_;refine AC.block ?_;refine fR 300 ?_;refine EN ⟨[(0,str s),(7,.optr 101 2 0 0 0),(4,.prim (.int .i32 c)),(5,Ap ((decide ((c:Int)>=97)&&decide ((c:Int)<=122))||(decide ((c:Int)>=65)&&decide ((c:Int)<=90))))],[],n+30⟩ (An w1 400 (by kernel_rfl) ?_) ?_
  ·repeat'(first|(refine And.intro (by exact CA) ?_;refine At ?_)|((refine Bw (λhb=>?_) (λhb=>?_))<;>(try simp only[Bi,Bv]at hb)<;>(try simp only[hb])<;>(refine At ?_)))
   all_goals exact AK
  generalize hL:((decide ((c:Int)>=97)&&decide ((c:Int)<=122))||(decide ((c:Int)>=65)&&decide ((c:Int)<=90)))=L;refine EN ⟨[(0,str s),(7,.optr 101 2 0 0 0),(47,Ap ((((!L && !(decide ((c:Int)>=48)&&decide ((c:Int)<=57)))&&((c:Int) != 45))&&((c:Int) != 95))&&((c:Int) != 46)))],[],n+60⟩ (An w1 500 (by kernel_rfl) ?_) ?_
  ·repeat'(first|(refine And.intro (by exact CA) ?_;refine At ?_)|((refine Bw (λhb=>?_) (λhb=>?_))<;>(try simp only[Bi,Bv]at hb)<;>(try simp only[hb])<;>(refine At ?_)))
   all_goals exact AK
  have hbad:((((!L && !(decide ((c:Int)>=48)&&decide ((c:Int)<=57)))&&((c:Int) != 45))&&((c:Int) != 95))&&((c:Int) != 46)) = !(Cq c):=by
   subst hL;rw[FW];simp only[Cq,BP,Bi,Iz,Bool.and_eq_false_iff,IN,bne_iff_ne,ne_eq,Bu];omega
  rw[hbad];refine AM ?_
  (refine Bw (λhb=>?_) (λhb=>?_))<;>(try simp only[Bi,Bv]at hb)<;>(try simp only[hb])
  ·have hbf:Cq c=false:=by simpa using hb
   refine fR 600 ?_;refine Aj ?_;refine AL ?_ AA.out;have hb8:Cq (s.get! p).toNat=false:=by
    by_cases hlow:(s.get! p).toNat<128
    ·rw[YF s p hlow]at hc
     rw[show(s.get! p).toNat=c from hc];exact hbf
    ·unfold Cq;simp;omega
   have:DZ s.data.toList=false:=by
    unfold DZ
    have:s.data.toList.all (λb=>Cq b.toNat)=false:=by
     rw[List.all_eq_false];exact⟨_,Ax (eF s p hlt),by rw[hb8];simp⟩
    rw[this];rfl
   rw[this]
  ·have hbt:Cq c=true:=by simpa using hb
   have hclt:c<128:=by
    unfold Cq at hbt;simp only[Jl,BP,GP,D7]at hbt;omega
   have hlow:(s.get! p).toNat<128:=by
    apply DU;intro h
    have:=l7 s p h
    omega
   rw[YF s p hlow]at hc hIt;refine Am ?_;refine⟨(p+1,n+60),⟨hIt,hlt,?_⟩,by dsimp only;omega,AK⟩;rw[DW,eF s p hlt,Jm,hall];simp;rw[show(s.get! p).toNat=c from hc];exact hbt
 ·have hpe:p=s.size:=by omega
  refine B9 ?_;refine AC.seq ?_;refine AM ?_;refine B8 ?_;refine EN ⟨[(2,Ap (decide (1<=(s.size:Int))&&decide ((s.size:Int)<=24)))],[],n+60⟩ (An w1 700 (by kernel_rfl) ?_) ?_
  ·repeat'(first|(refine And.intro (by exact CA) ?_;refine At ?_)|((refine Bw (λhb=>?_) (λhb=>?_))<;>(try simp only[Bi,Bv]at hb)<;>(try simp only[hb])<;>(refine At ?_)))
   all_goals exact AK
  refine Aj ?_;refine AL ?_ AA.out;have hall':s.data.toList.all (λb=>Cq b.toNat)=true:=by rw[<-hall,hpe,<-hsz,Cf]
  unfold DZ;rw[hall',Fq,hsz];have e:(decide (1<=(s.size:Int))&&decide ((s.size:Int)<=24))=(decide (1<=s.size)&&decide (s.size<=24)):=by
   rw[FW];simp only[BP,GP];omega
  rw[<-e]
def Uj:Value->Value->Bool
 | .int .i64 a,.int .i64 b=>a==b
 | .string a,.string b=>a.data.toList==b.data.toList
 | .bool a,.bool b=>a==b
 | .slice none 0 0,.slice none 0 0=>true
 |_,_=>false
theorem ku {a b:Value}(h:Uj a b=true):a=b:=by
 unfold Uj at h;split at h
 ·rw[eq_of_beq h]
 ·rename_i a b
  have:=eq_of_beq h
  congr 1
  exact ByteArray.ext (Array.toList_inj.1 this)
 ·rw[eq_of_beq h]
 ·rfl
 ·cases h
def Kr (f:D->D->Bool):List D->List D->Bool
 | [],[]=>true
 |a::l,b::m=>f a b&&Kr f l m
 |_,_=>false
theorem Qj {f:D->D->Bool}(hf:∀a b,f a b=true->a=b):∀ {l m:List D},Kr f l m=true->l=m
 | [],[],_=>rfl
 |a::l,b::m,h=>by
  simp only[Kr,BP]at h;rw[hf a b h.1,Qj hf h.2]
 | [],_::_,h=>by simp[Kr]at h
 |_::_,[],h=>by simp[Kr]at h
def NQ:Nat->D->D->Bool
 | 0,_,_=>false
 |n+1,a,b=>match a,b with
  | .prim a,.prim b=>Uj a b
  | .agg l,.agg m=>Kr (NQ n) l m
  | .sl x y l,.sl x' y' m=>(x==x')&&Nat.beq y y'&&Kr (NQ n) l m
  |_,_=>false
theorem T1:∀(n:Nat) (a b:D),NQ n a b=true->a=b
 | 0,_,_,h=>by simp[NQ]at h
 |n+1,a,b,h=>by
  unfold NQ at h;split at h
  ·rw[ku h]
  ·rw[Qj (T1 n) h]
  ·simp only[BP]at h
   rw[eq_of_beq h.1.1,B4 h.1.2,Qj (T1 n) h.2]
  ·cases h
def yy:Nat->Nat->List UInt8
 | 0,_=>[]
 |k+1,u=>match Nat.blt u 10 with
  |true=>[UInt8.ofNat (48+u)]
  |false=>yy k (u/10)++[UInt8.ofNat (48+u%10)]
def R1 (t:Nat)(name:String):Option Nat:=match Nat.beq t 141 with
 |true=>match decide (name = "Cmp")with
  |true=>some 232
  |false=>none
 |false=>none
theorem bV (t:Nat)(name:String)(f:Nat)(h:R1 t name=some f)(v:Value)(w:World):(method (C0.P.types.size+Made.depth) t v name).run C0.P w=.ok (f,v) w:=by
 unfold R1 at h;split at h<;>try(cases h;done)
 rename_i ht;split at h<;>try(cases h;done)
 rename_i hn;obtain rfl:=B4 ht;obtain rfl:=DA hn;cases h
 kernel_rfl
def y6:Ay:=⟨.arr 256 1 false,256,256,true,.agg (Array.replicate 256 (.bool false))⟩
noncomputable def PX (t:Nat):Option Ay:=match Nat.beq t 323 with
 |true=>some y6
 |false=>PU.get t
theorem VB:Co C0.P PX:=λt i h=>by
 unfold PX at h;split at h
 ·rename_i ht
  obtain rfl:=B4 ht;cases h
  kernel_rfl
 ·exact ff t i h
set_option maxHeartbeats 2000000
def Be (c:UInt8):Bool:=Nat.ble 48 c.toNat&&Nat.ble c.toNat 57
def HA:D:=.agg ((List.range 256).map λi=>Ap (Nat.ble 48 i&&Nat.ble i 57))
abbrev R9:List UInt8:=[48,49,50,51,52,53,54,55,56,57]
noncomputable def X4:EV:=⟨PX,L6.get,NR.get,λ_=>false,λ_ _=>none,λ_ _=>none,Kj⟩
theorem U6:FA C0 X4:=⟨VB,Rj,Jo,λ_ _ _ h=>by simp[X4]at h,by kernel_rfl,λ_ _ _ h=>by simp[X4]at h,QX⟩
theorem w4:DO C0 X4:=U6.w
theorem iz:AJ C0 310 [str (sb R9)] (.tup [HA,Ap true]):=CD U6 1000 40 (by kernel_rfl)
def U9 (o:Option D)(b:Bool):Bool:=match o with
 |some (.prim (.bool c))=>c==b
 |_=>false
theorem jn {o:Option D}{b:Bool}(h:U9 o b=true):o=some (Ap b):=by
 unfold U9 at h;split at h
 ·rw[D7]at h;subst h;rfl
 ·cases h
theorem gE:((List.range 256).all λc=>U9 ((GT X4 1000 40).1 319 [.pptr HA,.prim (.int .u8 (c:Nat))]) (Nat.ble 48 c&&Nat.ble c 57))=true:=by kernel_rfl
theorem V5 (c:UInt8):AJ C0 319 [.pptr HA,.prim (.int .u8 (c.toNat:Nat))] (Ap (Be c)):=by
 refine CD U6 1000 40 ?_;have h:=CS.1 gE c.toNat (List.mem_range.2 c.toNat_lt);exact jn h
instance:AT HA:=⟨λc hc=>by
 change c∈(List.range 256).map (λi=>Ap (Nat.ble 48 i&&Nat.ble i 57))at hc;obtain⟨i,_,rfl⟩:=List.mem_map.1 hc;exact .prim _⟩
def F9 (l:List UInt8):List UInt8:=(l.reverse.dropWhile Be).reverse
theorem iN (m:List UInt8)(c:UInt8):F9 (m++[c])=if Be c then F9 m else m++[c]:=by
 unfold F9;rw[List.reverse_append,List.reverse_singleton,List.singleton_append,NF];split
 ·rfl
 ·rw[List.reverse_cons,List.reverse_reverse]
theorem mD (l:List UInt8):((F9 l).dropWhile Be=[])↔l.all Be=true:=by
 constructor
 ·intro h
  have h1:∀m:List UInt8,m.dropWhile Be=[]->m.all Be=true:=λm=>by
   induction m with
   |nil=>intro _;rfl
   |cons c m ih=>
    intro hm;rw[NF]at hm;split at hm
    ·rename_i hc
     rw[FX,hc,ih hm];rfl
    ·cases hm
  have h2:(l.reverse.dropWhile Be).all Be=true:=by
   have:=h1 _ h
   unfold F9 at this
   rwa [List.all_reverse]at this
  have h3:∀m:List UInt8,(m.dropWhile Be).all Be=true->m.all Be=true:=λm=>by
   induction m with
   |nil=>intro _;rfl
   |cons c m ih=>
    intro hm;rw[NF]at hm;split at hm
    ·rename_i hc
     rw[FX,hc,ih hm];rfl
    ·exact hm
  have:=h3 _ h2
  rwa [List.all_reverse]at this
 ·intro h
  have h1:∀m:List UInt8,m.all Be=true->m.dropWhile Be=[]:=λm=>by
   induction m with
   |nil=>intro _;rfl
   |cons c m ih=>
    intro hm;rw[FX,BP]at hm;rw[NF,AG hm.1];exact ih hm.2
  have hx:=h1 l.reverse (by rw[List.all_reverse];exact h);unfold F9;rw[hx];rfl
theorem gt (l:List UInt8)(hl:l.length<=1000000000):AJ C0 311 [str (sb l),.pptr HA] (str (sb (l.dropWhile Be))):=by
 refine Ag.walk w1 aL rfl λF=>?_
 have hps:AT HA:=AI;have hcc:=V5;generalize HA=sd at*;refine sR 0 ?_;refine AC.seq ?_;refine AC.block ?_;refine AC.loop (α:=List UInt8×Nat) (λp=>⟨[(0,str (sb p.1)),(1,.pptr sd)],[],p.2⟩) (λp=>p.1.length) (λp=>p.1.dropWhile Be=l.dropWhile Be/\p.1.length<=l.length) (l,_) ⟨rfl,Ai _⟩ AK ?_;rintro⟨m,n⟩ F ⟨h1,h2⟩;dsimp only at h1 h2⊢;refine AC.seq ?_;refine AC.seq ?_;cases m with
 |nil=>
  have e1:decide (((sb []).size:Int)>0)=false:=rfl;refine An w1 100 (by kernel_rfl) ?_;refine AU e1 ?_;refine AM ?_;refine B8 ?_;refine sR 400 ?_;refine Aj ?_;exact AL (by rw[<-h1];rfl) AA.out
 |cons c m=>
  have hsz:=Cd (c::m);have e1:decide (((sb (c::m)).size:Int)>0)=true:=AX (by rw[hsz,Bp];omega);have hx:(((sb (c::m)).data.toList.getD ((0:Int)).toNat 0).toNat:Int)=(c.toNat:Int):=rfl;have b1:(0:Int)<((sb (c::m)).size:Int):=by rw[hsz,Bp];omega
  have b2:(1:Int)<=((sb (c::m)).size:Int):=by omega
  have e3:(sb (c::m)).extract ((1:Int)).toNat (sb (c::m)).size=sb m:=by
   rw[Ek,hsz,B7 (Ai _)];rfl
  have cc:=hcc c;refine An w1 100 (by kernel_rfl) ?_;refine AU e1 ?_;refine AM ?_;refine Am ?_;refine AC.block ?_;refine AC.seq ?_;refine sZ 200 ?_;refine AU hx ?_;refine cI cc ?_;rcases hb:Be c with _|_
  ·refine AM ?_
   refine B8 ?_;refine sR 400 ?_;refine Aj ?_;refine AL ?_ AA.out;rw[<-h1,NF,AF (by rw[hb];simp)]
  ·refine AM ?_
   refine Am ?_;refine An w1 300 (by kernel_rfl) ?_;refine AU e3 ?_;refine⟨(m,_),⟨?_,?_⟩,?_,AK⟩
   ·rw[<-h1,NF,AG hb]
   ·rw[Bp]at h2;dsimp only;omega
   ·show m.length<m.length+1;omega
theorem gN (l:List UInt8)(hl:l.length<=1000000000):AJ C0 312 [str (sb l),.pptr HA] (str (sb (F9 l))):=by
 refine Ag.walk w1 aM rfl λF=>?_
 have hps:AT HA:=AI;have hcc:=V5;generalize HA=sd at*;refine sR 0 ?_;refine AC.seq ?_;refine AC.block ?_;refine AC.loop (α:=List UInt8×Nat) (λp=>⟨[(0,str (sb p.1)),(1,.pptr sd)],[],p.2⟩) (λp=>p.1.length) (λp=>F9 p.1=F9 l/\p.1.length<=l.length) (l,_) ⟨rfl,Ai _⟩ AK ?_;rintro⟨m,n⟩ F ⟨h1,h2⟩;dsimp only at h1 h2⊢;refine AC.seq ?_;refine AC.seq ?_;rcases Ru m with rfl|⟨m,c,rfl⟩
 ·have e1:decide (((sb []).size:Int)>0)=false:=rfl
  refine An w1 100 (by kernel_rfl) ?_;refine AU e1 ?_;refine AM ?_;refine B8 ?_;refine sR 400 ?_;refine Aj ?_;exact AL (by rw[<-h1];rfl) AA.out
 ·rw[Rt]at h1 h2⊢
  have hsz:=Cd (m++[c]);rw[Bh,GS]at hsz h2;have e1:decide (((sb (m++[c])).size:Int)>0)=true:=AX (by rw[hsz];omega);have wk1:IntKind.i64.wrap (((sb (m++[c])).size:Int)-1)=(m.length:Int):=by rw[hsz,wI (by omega) (by omega)];omega
  have hx:(((sb (m++[c])).data.toList.getD (((m.length:Nat):Int)).toNat 0).toNat:Int)=(c.toNat:Int):=by
   show(((m++[c]).getD m.length 0).toNat:Int)=_;simp
  have b1:((m.length:Nat):Int)<((sb (m++[c])).size:Int):=by rw[hsz];omega
  have e3:(sb (m++[c])).extract 0 (((m.length:Nat):Int)).toNat=sb m:=by
   rw[Ek];simp
  have cc:=hcc c;have ht:=iN m c;refine An w1 100 (by kernel_rfl) ?_;refine AU e1 ?_;refine AM ?_;refine Am ?_;refine AC.block ?_;refine AC.seq ?_;refine sZ 200 ?_;refine AU (Ae wk1 hx) ?_;refine cI cc ?_;rcases hb:Be c with _|_
  ·rw[AF (by rw[hb];simp)]at ht
   refine AM ?_;refine B8 ?_;refine sR 400 ?_;refine Aj ?_;exact AL (by rw[<-h1,ht]) AA.out
  ·rw[AG hb]at ht
   refine AM ?_;refine Am ?_;refine An w1 300 (by kernel_rfl) ?_;refine AU (Ae wk1 e3) ?_;refine⟨(m,_),⟨by rw[<-h1,ht],by dsimp only;omega⟩,?_,AK⟩;dsimp only;rw[Bh,GS];omega
namespace TrimW
theorem w1:DO C0 X4:=w4
theorem trim_ok (l:List UInt8)(hl:l.length<=1000000000):AJ C0 296 [str (sb l),str (sb R9)] (str (sb ((F9 l).dropWhile Be))):=by
 refine Ag.walk w1 aK rfl λF=>?_
 have cm:=iz;have c1:=gN l hl;have hlr:(F9 l).length<=1000000000:=by
  unfold F9;rw[List.length_reverse];exact BU (List.dropWhile_sublist _).length_le (by rw[List.length_reverse];exact hl)
 have c2:=gt (F9 l) hlr;have hps:AT HA:=AI;have eS:=Em l [];have e2:(((sb R9).size:Int)==1)=false:=rfl;have e4:BI (sb R9) (sb [])=false:=by rw[Em];exact Ad (by simp)
 have hfit:Bq true 256 HA:=by
  have h:((List.range 256).map λi=>Ap (Nat.ble 48 i&&Nat.ble i 57)).length=256:=by rw[Ac,List.length_range]
  have:=Bq.agg (ds:=(List.range 256).map λi=>Ap (Nat.ble 48 i&&Nat.ble i 57))
  rw[h]at this;exact this
 refine sR 0 ?_
 by_cases h0:l=[]
 ·subst h0
  have eS':BI (sb []) (sb [])=true:=by rw[Em];exact AX rfl
  refine AC.seq ?_;refine sZ 100 ?_;refine AU eS' ?_;refine AD (Ae eS' kT) ?_;refine AM ?_;refine sR 200 ?_;refine Aj ?_;exact AL rfl AA.out
 ·rw[Ad h0]at eS
  refine AC.seq ?_;refine sZ 100 ?_;refine AU eS ?_;refine AD (As eS e4 kF) ?_;refine AD (As eS e4 kF) ?_;refine AM ?_;refine Am ?_;refine AC.seq ?_;refine sZ 300 ?_;refine AU e2 ?_;refine AD e2 ?_;refine AD e2 ?_;refine AM ?_;refine Am ?_;refine AC.seq ?_;refine sR 500 ?_;refine A9.same _ cm AI ?_;refine At ?_;generalize HA=sd at*
  repeat(refine Dz rfl rfl ?_;refine H6 (λ_ _=>rfl) ?_)
  refine Np (And.intro (by repeat'(first|exact hfit|refine And.intro ?_ ?_|exact CA)) ?_);refine At ?_;refine sR 600 ?_;refine AM ?_;refine sR 700 ?_;refine A9.own _ (Lw c1 rfl ?_ AI (Ja.prim _)) ?_
  ·intro i x y hx hy
   match i with
   | 0=>simp at hx hy;subst hx;subst hy;exact DM.refl _ _
   | 1=>simp at hx hy;subst hx;subst hy;exact DM.ptr rfl rfl rfl rfl
   |i+2=>simp at hx
  rintro d H' n' ⟨rfl,rfl,rfl⟩;refine BO ?_;refine A9.own _ (Lw c2 rfl ?_ AI (Ja.prim _)) ?_
  ·intro i x y hx hy
   match i with
   | 0=>simp at hx hy;subst hx;subst hy;exact DM.refl _ _
   | 1=>simp at hx hy;subst hx;subst hy;exact DM.ptr rfl rfl rfl rfl
   |i+2=>simp at hx
  rintro d H' n' ⟨rfl,rfl,rfl⟩;refine BO ?_;refine Aj ?_;exact AL rfl AA.out
end TrimW
def Gk (a:Nat)(l:List UInt8):Nat:=l.foldl (λa c=>a*10+(c.toNat-48)) a
def dv (l:List UInt8):Nat:=Gk 0 l
theorem Zt (l:List UInt8):∀a,Gk a l=a*10^l.length+dv l:=by
 induction l with
 |nil=>intro a;simp[Gk,dv]
 |cons c l ih=>
  intro a;have h1:∀b,Gk b (c::l)=Gk (b*10+(c.toNat-48)) l:=λb=>rfl
  have h2:dv (c::l)=Gk (0*10+(c.toNat-48)) l:=rfl;rw[h1,h2,ih,ih (0*10+(c.toNat-48)),Bp,CH];rw[Bs,Gr,BR,Bx,BQ 10];omega
theorem Nu (l m:List UInt8):dv (l++m)=dv l*10^m.length+dv m:=by
 have:dv (l++m)=Gk (dv l) m:=by unfold dv Gk;rw[List.foldl_append]
 rw[this,Zt]
theorem gj (l:List UInt8):∀a,l.all Be=true->Lib.decFrom a l=some (Gk a l):=by
 induction l with
 |nil=>intro a _;rfl
 |cons c l ih=>
  intro a h;rw[FX,BP]at h;have hd:Lib.digitVal c=some (c.toNat-48):=by
   have h1:=h.1;unfold Be at h1;rw[BP]at h1;unfold Lib.digitVal;rw[AG ⟨Bg h1.1,Bg h1.2⟩]
  rw[Lib.decFrom,hd];exact ih _ h.2
theorem K5 {c:UInt8}(h:Be c=true):48<=c.toNat/\c.toNat<=57:=by
 unfold Be at h;rw[BP]at h;exact⟨Bg h.1,Bg h.2⟩
theorem lO {l:List UInt8}(h0:l≠[])(h:l.all Be=true):Lib.atoi l=some (dv l:Int):=by
 cases l with
 |nil=>exact Ah rfl h0
 |cons c l=>
  have hc:Be c=true:=by rw[FX,BP]at h;exact h.1
  obtain⟨c1,c2⟩:=K5 hc;have e1:(c==45)=false:=by
   rw[Bu];intro hh;subst hh;simp at c1
  have e2:(c==43)=false:=by
   rw[Bu];intro hh;subst hh;simp at c1
  unfold Lib.atoi;dsimp only;rw[e1,e2];simp only[Ex,if_false];unfold Lib.decNat;simp only[List.isEmpty_cons,Ex,if_false];rw[gj _ _ h];rfl
theorem GA (l:List UInt8)(h:l.all Be=true):dv l<10^l.length:=by
 induction l with
 |nil=>decide
 |cons c l ih=>
  rw[FX,BP]at h;have h1:dv (c::l)=Gk (0*10+(c.toNat-48)) l:=rfl;have h2:=ih h.2;obtain⟨c1,c2⟩:=K5 h.1;rw[h1,Zt,Gr,BR,Bp,CH,BQ _ 10];have h3:(c.toNat-48)*10^l.length<=9*10^l.length:=CG _ (by omega);omega
def VA (o:Option D)(z:Int):Bool:=match o with
 |some (.agg [.prim (.int .i64 a),.prim (.slice none 0 0)])=>a==z
 |_=>false
theorem jo {o:Option D}{z:Int}(h:VA o z=true):o=some (C3 z):=by
 unfold VA at h;split at h
 ·rw[D7]at h;subst h;rfl
 ·cases h
theorem nl:((List.range 19).all λk=>VA ((GT X1 1000 60).1 192 [C3 10,i64 (k:Nat)]) ((10^k:Nat):Int))=true:=by kernel_rfl
theorem tu (k:Nat)(h:k<19):AJ C0 192 [C3 10,i64 k] (C3 ((10^k:Nat):Int)):=by
 refine CD DT 1000 60 ?_;exact jo (CS.1 nl k (List.mem_range.2 h))
theorem Uw {n:Nat}(h:n<9223372036854775808):C3 (n:Int)=(AY (n:Int)).D:=by
 rw[JL ⟨by omega,by omega⟩];rfl
theorem xv (a b:Nat)(ha:(Af a).length<1000000)(hb:(Af b).length<1000000):AJ C0 154 [(AY (a:Int)).D,(AY (b:Int)).D] (AY ((a+b:Nat):Int)).D:=by
 have:=Oc (AY (a:Int)) (AY (b:Int)) (Cc _) (Cc _) (Hx ha) (Hx hb)
 have e:D4 (AY (a:Int)) (AY (b:Int))=AY ((a+b:Nat):Int):=by
  have h1:=Me (AY (a:Int)) (AY (b:Int));rw[Dk,Dk]at h1;rw[Od (MW _ _) (by rw[h1];omega),h1]
  congr 1
 rw[e]at this;exact this
theorem ME {n k:Nat}(h:n<10^k):(Af n).length<=k:=Gu (CV h (NI (by decide) k))
def rv (l:List UInt8):Int:=if DJ l then -(dv (Bo l):Int)else dv (Bo l)
theorem nm (k:Nat)(h:k<19):AJ C0 192 [C3 10,i64 k] (AY ((10^k:Nat):Int)).D:=by
 have:=tu k h
 have h2:10^k<9223372036854775808:=DV (FH (by decide) (show k<=18 by omega)) (by decide)
 rwa [Uw h2]at this
theorem u5 (n:Nat)(h:n<9223372036854775808):AJ C0 152 [i64 n] (AY (n:Int)).D:=by
 have:=Oj (n:Int)
 rwa [Uw h]at this
theorem Qc (l:List UInt8)(hd:(Bo l).all Be=true)(hl:l.length<=100000):AJ C0 149 [str (sb l)] (AY (rv l)).D:=by
 refine Ag.walk w1 Zb rfl λF=>?_
 have c1:=gQ l (by omega);have c2:=SC l (by omega);have hml:(Bo l).length<=100000:=by
  unfold Bo;split
  ·rw[Dc];omega
  ·exact hl
 unfold rv;generalize hm0:Bo l=m0 at*;generalize DJ l=ng at*;generalize sb l=sl at*;have ez:C3 0=(AY ((0:Nat):Int)).D:=Uw (by decide);have hpm:∀n:Nat,AA (AY (n:Int)).w:=λn=>AI
 refine sR 0 ?_;refine sR 100 ?_;refine cI c1 ?_;refine sR 200 ?_;refine cI c2 ?_;refine sR 300 ?_;refine Cz (α:=Nat) (λn=>⟨[(2,.optr 0 0 2 0 0),(3,Ap ng),(4,.optr 301 8 2 0 0)],[⟨301,8,139,2,[(AY (dv m0:Int)).D]⟩,⟨0,0,139,2,[C3 0]⟩],n⟩) (λ_=>True) ?_ ?_
 ·refine AC.block ?_
  refine GN (α:=List UInt8×Nat×Nat) (λp=>⟨[(0,str (sb p.1)),(2,.optr 0 0 2 0 0),(3,Ap ng),(4,.optr 301 8 2 0 0)],[⟨301,8,139,2,[(AY (p.2.1:Int)).D]⟩,⟨0,0,139,2,[C3 0]⟩],p.2.2⟩) (λp=>p.1.length)
   (λp F'=>F'=F/\p.1.all Be=true/\p.1.length<=m0.length/\p.2.1<10^(m0.length-p.1.length)/\dv m0=p.2.1*10^p.1.length+dv p.1) (m0,0,20) ⟨rfl,hd,Ai _,by simp,by simp⟩ (by rw[<-ez];exact AK) ?_
  rintro⟨m,A,n⟩ F' ⟨rfl,h1,h2,h3,h4⟩;dsimp only at h1 h2 h3 h4⊢;refine AC.seq ?_;refine AC.seq ?_
  by_cases hm:m=[]
  ·subst hm
   have e1:decide (((sb []).size:Int)>0)=false:=rfl;have hA:dv m0=A:=by simpa[dv,Gk]using h4
   rw[hA];refine An w1 400 (by kernel_rfl) ?_;refine AU e1 ?_;refine AM ?_;refine B8 ?_;exact⟨rfl,_,trivial,AK⟩
  ·have hm1:0<m.length:=List.length_pos_iff.2 hm
   have hsz:=Cd m;obtain⟨k,hk⟩:∃k,k=min 18 m.length:=⟨_,rfl⟩
   have e1:decide (((sb m).size:Int)>0)=true:=AX (by rw[hsz];omega);have ek:min (18:Int) ((sb m).size:Int)=(k:Int):=by rw[hsz];omega
   have b1:(k:Int)<=((sb m).size:Int):=by rw[hsz];omega
   have e22:(sb m).extract 0 ((k:Int)).toNat=sb (m.take k):=by rw[Ek];rfl
   have e36:(sb m).extract ((k:Int)).toNat (sb m).size=sb (m.drop k):=by
    rw[Ek,hsz,B7 (Ai _)];rfl
   have htk:(m.take k).all Be=true:=CS.2 λc hc=>CS.1 h1 c (Gm hc)
   have hdk:(m.drop k).all Be=true:=CS.2 λc hc=>CS.1 h1 c (Jj hc)
   have hlk:(m.take k).length=k:=by rw[Bb];omega
   have hv:=GA _ htk;rw[hlk]at hv;have h18:10^k<=10^18:=FH (by decide) (by omega);have ca:=nN (sb (m.take k)) (dv (m.take k):Int) (by rw[Cd,hlk];omega) (lO (by intro h;change m.take k=[]at h;rw[h]at hlk;simp at hlk;omega) htk);have hval:dv m=dv (m.take k)*10^(m.drop k).length+dv (m.drop k):=by
    conv=>lhs;rw[<-Ev k m]
    exact Nu _ _
   generalize dv (m.take k)=v at*;have hAl:(Af A).length<=100000:=BU (ME h3) (by omega);have h10:(Af (10^k)).length<=19:=ME (k:=19) (Nat.pow_lt_pow_right (by decide) (by omega));have hmul:=K3 A (10^k);have cp:=nm k (by omega);have c3:=VH A (10^k) (by omega) (by omega);have cv:=u5 v (by omega);have hvl:(Af v).length<=19:=ME (k:=19) (CV hv (FH (by decide) (by omega)));have c4:=xv (A*10^k) v (by omega) (by omega);refine An w1 400 (by kernel_rfl) ?_;refine AU e1 ?_;refine AM ?_;refine Am ?_;refine AC.block ?_;refine sZ 500 ?_;refine AU ek ?_;refine sZ 600 ?_;refine AU e22 ?_;refine cI ca ?_;refine AC.seq ?_;refine B6 w1 700 [0,1,2,3,4,5] [6,7,8] (by kernel_rfl) ?_;refine BO ?_;refine BY.same _ (Oj 10) AI ?_;refine BO ?_;refine BY.same _ (cp) AI ?_;refine BO ?_;refine BY.same _ (c3) AI ?_;refine BO ?_;refine cI cv ?_;refine cI c4 ?_;refine An w1 800 (by kernel_rfl) ?_;refine AU e36 ?_;refine⟨(m.drop k,A*10^k+v,_),⟨trivial,hdk,?_,?_,?_⟩,?_,AK⟩
   ·dsimp only;rw[Dc];omega
   ·dsimp only
    rw[Dc,show m0.length-(m.length-k)=(m0.length-m.length)+k by omega,Fu];have h5:(A+1)*10^k<=10^(m0.length-m.length)*10^k:=CG _ h3;rw[Bs]at h5;omega
   ·dsimp only
    rw[h4,hval,Dc];have h6:10^m.length=10^k*10^(m.length-k):=by rw[<-Fu];congr 1;omega
    rw[h6,Bs,Bx];omega
   ·dsimp only;rw[Dc];omega
 rintro n -;have hAl:(Af (dv m0)).length<=100000:=BU (ME (GA _ hd)) hml;have cn:=Oi (AY (dv m0:Int)) (Cc _) (Hx (by omega));rw[Dk]at cn;have hpn:AA (AY (-(dv m0:Int))).w:=AI;refine AC.seq ?_;refine sR 900 ?_;cases ng with
 |true=>
  rw[AG rfl];refine AM ?_;refine sR 1000 ?_;refine cI cn ?_;refine Aj ?_;exact AL rfl AA.out
 |false=>
  rw[AF (by simp)];refine AM ?_;refine Am ?_;refine sR 1100 ?_;refine Aj ?_;exact AL rfl AA.out
def Ka (l:List UInt8):Bool:=!decide (l=[])&&l.all Be
def C6 (l:List UInt8):Bool:=Ka l&&(decide (l=[48]) || !decide (l.head? = some 48))
def Bz (l:List UInt8):List UInt8:=l.take (BJ l)
def BZ (l:List UInt8):List UInt8:=l.drop (BJ l+1)
def Cv (l:List UInt8):Bool:=decide (BJ l<l.length)
def B1 (l:List UInt8):List UInt8:=Bo (Bz l)
def JG (l:List UInt8):Bool:=!C6 (B1 l)||decide (Bz l=[45,48])||(Cv l&&(!C6 (BZ l)||decide (BZ l=[48])||decide (BZ l=[49])))
def CW (l:List UInt8):Nat:=if JG l then 1 else if 600<(B1 l).length\/600<(BZ l).length then 4
 else if Cv l=true/\Nat.gcd (dv (B1 l)) (dv (BZ l))≠1 then 1 else 0
theorem J5 {l:List UInt8}(h:C6 l=true):l≠[]/\l.all Be=true:=by
 unfold C6 Ka at h;rw[BP,BP]at h;exact⟨by have:=h.1.1;simpa using this,h.1.2⟩
theorem SP {l:List UInt8}(h:l.all Be=true):DJ l=false:=by
 cases l with
 |nil=>rfl
 |cons c l=>
  rw[FX,BP]at h;obtain⟨c1,c2⟩:=K5 h.1;show(c==45)=false;rw[Bu];intro hh;subst hh;simp at c1
theorem Jv {l:List UInt8}(h:l.all Be=true):Bo l=l:=by unfold Bo;rw[SP h];rfl
theorem Mk {l:List UInt8}(h:l.all Be=true):rv l=(dv l:Int):=by
 unfold rv;rw[SP h,Jv h];rfl
theorem jC (l:List UInt8)(hl:l.length<=1000000000):AJ C0 271 [str (sb l)] (Ap (Ka l)):=by
 refine Ag.walk w1 aH rfl λF=>?_
 have ct:=TrimW.trim_ok l hl;have eS:=Em l [];have eT:=Em ((F9 l).dropWhile Be) [];have hall:decide ((F9 l).dropWhile Be=[])=l.all Be:=by
  rw[FW,decide_eq_true_iff];exact mD l
 rw[hall]at eT;unfold Ka;rw[<-eS];generalize hb:BI (sb l) (sb [])=b at*;refine sR 0 ?_;refine AC.seq ?_;cases b with
 |true=>
  have e1:(!BI (sb l) (sb []))=false:=by rw[hb];rfl
  refine An w1 100 (by kernel_rfl) ?_;refine AU e1 ?_;refine AD e1 ?_;refine Aj ?_;exact AL rfl AA.out
 |false=>
  have e1:(!BI (sb l) (sb []))=true:=by rw[hb];rfl
  refine An w1 100 (by kernel_rfl) ?_;refine AU e1 ?_;refine AD e1 ?_;refine NV e1 ?_;refine A9.same _ ct AI ?_;refine AD (Ae e1 eT) ?_;refine Aj ?_;exact AL rfl AA.out
theorem X9 (l:List UInt8)(hl:l.length<=1000000000):AJ C0 230 [str (sb l)] (Ap (C6 l)):=by
 refine Ag.walk w1 Z5 rfl λF=>?_
 have cd:=jC l hl;have e0:=Em l [48];unfold C6;refine sR 0 ?_;refine sR 100 ?_;refine cI cd ?_;rcases hd:Ka l with _|_
 ·refine AD (Ae kT Ex) ?_
  refine AD (Ae kT Ex) ?_;refine Aj ?_;exact AL rfl AA.out
 ·obtain⟨c,m,rfl⟩:∃c m,l=c::m:=by
   cases l with
   |nil=>cases hd
   |cons c m=>exact⟨c,m,rfl⟩
  have hsz:=Cd (c::m);rw[Bp]at hsz;have hx:(((sb (c::m)).data.toList.getD ((0:Int)).toNat 0).toNat:Int)=(c.toNat:Int):=rfl;have b0:(0:Int)<((sb (c::m)).size:Int):=by rw[hsz];omega
  by_cases h0:(c::m)=[48]
  ·rw[AX h0]at e0⊢
   refine AD e0 ?_;refine AD (Ae e0 kT) ?_;refine AD (Ae e0 kT) ?_;refine Aj ?_;exact AL rfl AA.out
  ·rw[Ad h0]at e0⊢
   have e1:((c.toNat:Int) != 48) = !decide (c=48):=by
    rw[FW];simp only[bne_iff_ne,ne_eq,Bi,IN];constructor
    ·intro h hc;subst hc;exact h rfl
    ·intro h hc
     apply h
     have:c.toNat=48:=by omega
     exact UInt8.toNat_inj.1 this
   refine AD e0 ?_;refine AD (BV e0 kF hx e1) ?_;refine AD (BV e0 kF hx e1) ?_;refine Aj ?_;exact AL (by simp) AA.out
theorem oK (n:Nat):AJ C0 231 [(AY (n:Int)).D] (.tup [i64 (AY (n:Int)).s,Ap (decide (Sm (n:Int)))]):=by
 refine Ag.walk w1 Z6 rfl λF=>?_
 by_cases hs:Sm (n:Int)
 ·obtain⟨a1,a2⟩:=Rc hs
  dsimp only[GI.D];rw[a1,a2,AX hs];refine sR 0 ?_;refine AC.seq ?_;refine B6 w1 100 [0,1,2,3,4,5] [6] (by kernel_rfl) ?_;refine BO ?_;refine Aj ?_;exact AL rfl AA.out
 ·obtain⟨a1,a2,a3⟩:=VG hs
  dsimp only[GI.D];rw[a1,a2,Ad hs];generalize(Af n).map AR=l at*;refine sR 0 ?_;refine AC.seq ?_;refine B6 w1 100 [0,1,2,3,4,5] [6] (by kernel_rfl) ?_;refine AU (As (@ne_eq (List D)) a3 EK) ?_;refine Aj ?_;exact AL rfl AA.out
def GB (l:List UInt8):GF:=⟨AY (rv (Bz l)),if Cv l then dv (BZ l)else 1⟩
theorem my (l:List UInt8)(hl:l.length<=100000)(h1:(B1 l).all Be=true)(h2:Cv l=true->(BZ l).all Be=true):AJ C0 103 [str (sb l)] (GB l).D:=by
 refine Ag.walk w1 Z0 rfl λF=>?_
 have cc:=Zr l (by omega);have r1:=Qc (Bz l) h1 (by unfold Bz;rw[Bb];omega);have hpw:AA (AY (rv (Bz l))).w:=AI;unfold GB;change AJ C0 _ _ (.tup [str (sb (Bz l)),str (sb (BZ l)),Ap (Cv l)])at cc;rcases hs:Cv l with _|_
 ·rw[hs]at cc
  have wg:=Y6 (AY (rv (Bz l)));have hp1:AA (AY ((1:Nat):Int)).w:=AI;rw[AF (by simp)];dsimp only[GI.D,GF.D]at*;refine sR 0 ?_;refine sR 100 ?_;refine cI cc ?_;refine AC.seq ?_;refine sR 200 ?_;refine AM ?_;refine sR 300 ?_;refine cI r1 ?_;refine cI wg ?_;refine Aj ?_;exact AL rfl AA.out
 ·rw[hs]at cc
  have hd:=h2 hs;have r2:=Qc (BZ l) (by rw[Jv hd];exact hd) (by unfold BZ;rw[Dc];omega);rw[Mk hd]at r2;have hp1:AA (AY (dv (BZ l):Int)).w:=AI;rw[AG rfl];dsimp only[GI.D,GF.D]at*;refine sR 0 ?_;refine sR 100 ?_;refine cI cc ?_;refine AC.seq ?_;refine sR 200 ?_;refine AM ?_;refine Am ?_;refine sR 400 ?_;refine cI r1 ?_;refine cI r2 ?_;refine Aj ?_;exact AL rfl AA.out
set_option maxHeartbeats 4000000
theorem uV (g:Nat):((g:Int) != 1)=decide (g≠1):=by
 rw[FW,bne_iff_ne,decide_eq_true_iff];omega
theorem lV (l:List UInt8)(hl:l.length<=100000):AJ C0 182 [str (sb l)] (i64 (CW l)):=by
 refine Ag.walk w1 aX rfl λF=>?_
 have cc:=Zr l (by omega);change AJ C0 _ _ (.tup [str (sb (Bz l)),str (sb (BZ l)),Ap (Cv l)])at cc;have hnl:(Bz l).length<=100000:=by unfold Bz;rw[Bb];omega
 have hdl:(BZ l).length<=100000:=by unfold BZ;rw[Dc];omega
 have hsl:(B1 l).length<=100000:=by
  unfold B1 Bo;split
  ·rw[Dc];omega
  ·exact hnl
 have ct:=SC (Bz l) (by omega);change AJ C0 _ _ (str (sb (B1 l)))at ct;have p1:=X9 (B1 l) (by omega);have p2:=X9 (BZ l) (by omega);have en:=Em (Bz l) [45,48];have e0:=Em (BZ l) [48];have e1:=Em (BZ l) [49];have z1:=Cd (B1 l);have z2:=Cd (BZ l);have hbf:∃b,b=JG l:=⟨_,rfl⟩
 obtain⟨bf,hbf⟩:=hbf;unfold CW;rw[<-hbf];unfold JG at hbf;refine sR 0 ?_;refine sR 100 ?_;refine cI cc ?_;refine sR 200 ?_;refine cI ct ?_;refine AC.seq ?_;refine Cz (α:=Nat) (λn=>⟨[(4,str (sb (BZ l))),(5,Ap (Cv l)),(6,str (sb (B1 l))),(39,Ap bf)],[],n⟩) (λ_=>True) ?_ ?_
 ·refine rI 300 ?_
  refine cI p1 ?_;rcases hp:C6 (B1 l)with _|_
  ·rw[hp]at hbf
   have hb:bf=true:=by rw[hbf];rfl
   subst hb;simp only[Rp];refine AD kT ?_;refine AD kT ?_;exact⟨trivial,_,trivial,AK⟩
  ·rw[hp]at hbf
   simp only[PF]
   by_cases hn:Bz l=[45,48]
   ·rw[AX hn]at en hbf
    have hb:bf=true:=by rw[hbf];rfl
    subst hb;refine AD (Ae kF en) ?_;refine AD (As kF kT en) ?_;exact⟨trivial,_,trivial,AK⟩
   ·rw[Ad hn]at en hbf
    rcases hs:Cv l with _|_
    ·rw[hs]at hbf
     have hb:bf=false:=by rw[hbf];rfl
     subst hb;refine AD (Ae kF en) ?_;refine AD (BV kF kT en hs) ?_;refine AD (BV kF kT en hs) ?_;exact⟨trivial,_,trivial,AK⟩
    ·rw[hs]at hbf
     refine AD (Ae kF en) ?_;refine AD (As kF en hs) ?_;refine NV hs ?_;refine A9.same _ p2 AI ?_;refine At ?_;rcases hq:C6 (BZ l)with _|_
     ·rw[hq]at hbf
      have hb:bf=true:=by rw[hbf];rfl
      subst hb;refine AD (As kF kT hq) ?_;refine AD (As kF kT hq) ?_;refine AD (As kF kT hq) ?_;exact⟨trivial,_,trivial,AK⟩
     ·rw[hq]at hbf
      refine AD hq ?_;simp only[PF];refine AD kF ?_
      by_cases h0:BZ l=[48]
      ·rw[AX h0]at e0 hbf
       have hb:bf=true:=by rw[hbf];rfl
       subst hb;simp only[e0,imp_self];refine AD kT ?_;refine H4 rfl rfl rfl (by simp only[Rp]) (by simp) (H6 (λ_ _=>rfl) ?_);refine AD kF ?_;exact⟨trivial,_,trivial,AK⟩
      ·rw[Ad h0]at e0 hbf
       simp only[e0];refine AD kF ?_
       by_cases h1:BZ l=[49]
       ·rw[AX h1]at e1 hbf
        have hb:bf=true:=by rw[hbf];rfl
        subst hb;simp only[e1];exact⟨trivial,_,trivial,AK⟩
       ·rw[Ad h1]at e1 hbf
        have hb:bf=false:=by rw[hbf];rfl
        subst hb;simp only[e1];exact⟨trivial,_,trivial,AK⟩
 rintro n -;cases bf with
 |true=>
  rw[AG rfl];refine AM ?_;refine sR 400 ?_;refine Aj ?_;exact AL rfl AA.out
 |false=>
  rw[AF (by simp)];have hbf:=hbf.symm;simp only[Iz,Bv,Bool.and_eq_false_iff]at hbf;obtain⟨⟨hp,hn⟩,hd⟩:=hbf;refine AM ?_;refine Am ?_;have hsd:=(J5 hp).2;refine AC.seq ?_;refine Cz (α:=Nat) (λn=>⟨[(4,str (sb (BZ l))),(5,Ap (Cv l)),(6,str (sb (B1 l))),(47,Ap (decide (600<(B1 l).length\/600<(BZ l).length)))],[],n⟩) (λ_=>True) ?_ ?_
  ·by_cases hA:600<(B1 l).length
   ·have ea:decide (((sb (B1 l)).size:Int)>600)=true:=AX (by rw[z1];omega)
    have eb:decide (600<(B1 l).length\/600<(BZ l).length)=true:=AX (Or.inl hA);rw[eb];refine An w1 500 (by kernel_rfl) ?_;refine AU ea ?_;refine AD kT ?_;exact⟨trivial,_,trivial,AK⟩
   ·have ea:decide (((sb (B1 l)).size:Int)>600)=false:=Ad (by rw[z1];omega)
    have eb:decide (((sb (BZ l)).size:Int)>600)=decide (600<(B1 l).length\/600<(BZ l).length):=by
     rw[C4,z2];omega
    refine An w1 500 (by kernel_rfl) ?_;refine AU ea ?_;refine AD kF ?_;simp only[eb];exact⟨trivial,_,trivial,AK⟩
  rintro n -
  by_cases hL:600<(B1 l).length\/600<(BZ l).length
  ·rw[AX hL,AG hL]
   refine AM ?_;refine sR 600 ?_;refine Aj ?_;exact AL rfl AA.out
  ·rw[Ad hL,AF hL]
   refine AM ?_;refine Am ?_;refine AC.seq ?_;refine sR 700 ?_;rcases hs:Cv l with _|_
   ·rw[AF (by simp)]
    refine AM ?_;refine Am ?_;refine sR 1100 ?_;refine Aj ?_;exact AL rfl AA.out
   ·rw[hs]at hd
    have hd':=hd.resolve_left (by simp);have hdd:=(J5 hd'.1.1).2;have r1:=Qc (B1 l) (by rw[Jv hsd];exact hsd) hsl;have r2:=Qc (BZ l) (by rw[Jv hdd];exact hdd) hdl;rw[Mk hsd]at r1;rw[Mk hdd]at r2;have l1:(Af (dv (B1 l))).length<=100000:=BU (ME (GA _ hsd)) hsl;have l2:(Af (dv (BZ l))).length<=100000:=BU (ME (GA _ hdd)) hdl;have cg:=d8 (AY (dv (B1 l):Int)) (AY (dv (BZ l):Int)) (Cc _) (Cc _) (Hx (by omega)) (Hx (by omega));rw[Dk,Dk,EJ,EJ]at cg;have cs:=oK (Nat.gcd (dv (B1 l)) (dv (BZ l)));obtain⟨g,hg0⟩:∃g,g=Nat.gcd (dv (B1 l)) (dv (BZ l)):=⟨_,rfl⟩
    rw[<-hg0]at cg cs;simp only[<-hg0];have hpa:AA (AY (dv (B1 l):Int)).w:=AI;have hpb:AA (AY (dv (BZ l):Int)).w:=AI;have hpg:AA (AY (g:Int)).w:=AI;dsimp only[GI.D]at r1 r2 cg cs;refine AM ?_;refine sR 800 ?_;refine cI r1 ?_;refine cI r2 ?_;refine cI cg ?_;refine cI cs ?_;refine Cz (α:=Nat) (λn=>⟨[(63,Ap (decide (g≠1)))],[],n⟩) (λ_=>True) ?_ ?_
    ·by_cases hg:Sm (g:Int)
     ·obtain⟨a1,a2⟩:=Rc hg
      have eg:=uV g;rw[a1,AX hg];refine rI 900 ?_;simp only[PF];refine AD kF ?_;simp only[eg];exact⟨trivial,_,trivial,AK⟩
     ·have eg:decide (g≠1)=true:=AX λh=>hg (by rw[h];exact⟨by decide,by decide⟩)
      rw[eg,Ad hg];refine rI 900 ?_;simp only[Rp];refine AD kT ?_;exact⟨trivial,_,trivial,AK⟩
    rintro n -
    by_cases hg:g=1
    ·rw[Ad (λh=>h hg),AF (λh=>h.2 hg)]
     refine AM ?_;refine Am ?_;refine sR 1100 ?_;refine Aj ?_;exact AL rfl AA.out
    ·rw[AX hg,AG ⟨trivial,hg⟩]
     refine AM ?_;refine sR 1000 ?_;refine Aj ?_;exact AL rfl AA.out
abbrev RB:Nat:=1000000000
def AZ (n:Nat):List Nat:=if _h:n=0 then[]else(n%RB)::AZ (n/RB)
termination_by n
decreasing_by exact Hm (Dx _h) (by decide)
def AP:List Nat->Nat
 | []=>0
 |a::l=>a+RB*AP l
def Rd (l:List Nat):Prop:=∀a∈l,a<RB
theorem GV:AZ 0=[]:=by unfold AZ;rfl
theorem Ie {n:Nat}(h:n≠0):AZ n=(n%RB)::AZ (n/RB):=by rw[AZ,dif_neg h]
theorem ET (n:Nat):Rd (AZ n):=by
 induction n using Nat.strongRecOn with
 |ind n ih=>
  by_cases h:n=0
  ·subst h;rw[GV];intro a ha;cases ha
  ·rw[Ie h]
   intro a ha;rcases BF.1 ha with rfl|ha
   ·exact B0 _ (by decide)
   ·exact ih _ (Hm (Dx h) (by decide)) a ha
theorem Dy (n:Nat):AP (AZ n)=n:=by
 induction n using Nat.strongRecOn with
 |ind n ih=>
  by_cases h:n=0
  ·subst h;rw[GV];rfl
  ·rw[Ie h,AP,ih _ (Hm (Dx h) (by decide))]
   exact Eg n RB
theorem JA (l m:List Nat):AP (l++m)=AP l+RB^l.length*AP m:=by
 induction l with
 |nil=>simp[AP]
 |cons a l ih=>
  simp only[D5,AP,ih,Bp,CH,BM];rw[BQ (RB^l.length) RB,Bx,EP]
theorem Rd.tail {a:Nat}{l:List Nat}(h:Rd (a::l)):Rd l:=λb hb=>h b (CQ _ hb)
theorem Rd.head {a:Nat}{l:List Nat}(h:Rd (a::l)):a<RB:=h a CM
theorem Rd.append {l m:List Nat}(h:Rd l)(k:Rd m):Rd (l++m):=λa ha=>(List.mem_append.1 ha).elim (h a) (k a)
theorem Rd.take {l:List Nat}(h:Rd l)(n:Nat):Rd (l.take n):=λa ha=>h a (Gm ha)
theorem Fy:∀ {l:List Nat},Rd l->AP l<RB^l.length
 | [],_=>by simp[AP]
 |a::l,h=>by
  have h1:=Fy h.tail;have h2:=h.head;rw[AP,Bp,CH]
  calc a+RB*AP l<RB+RB*AP l:=by omega
   _=RB*(AP l+1):=by rw[BM,D6,Kp]
   _<=RB*RB^l.length:=CY _ h1
   _=_:=BQ _ _
theorem Vz:∀ {l:List Nat},Rd l->(∀a∈l.getLast?,a≠0)->AZ (AP l)=l
 | [],_,_=>GV
 | [a],h,hl=>by
  have ha:a≠0:=hl a (by simp);have hb:=h.head;rw[show AP [a]=a from by simp[AP],Ie ha,Dd hb,HH hb,GV]
 |a::b::l,h,hl=>by
  have ih:=Vz h.tail (λx hx=>hl x (by simpa using hx));have hb:=h.head;have hv:AP (b::l)≠0:=by
   intro h0;rw[h0,GV]at ih;cases ih
  have e1:AP (a::b::l)%RB=a:=by rw[AP,Rr,Dd hb]
  have e2:AP (a::b::l)/RB=AP (b::l):=by
   rw[AP,Rx _ _ (by decide),HH hb,BR]
  have hne:AP (a::b::l)≠0:=by
   intro h0;rw[h0]at e2;exact hv (by rw[<-e2];rfl)
  rw[Ie hne,e1,e2,ih]
theorem Vs:∀(k:Nat),AP (List.replicate k 0)=0
 | 0=>rfl
 |k+1=>by rw[List.replicate_succ,AP,Vs k,EQ]
theorem Ib (b:Nat):∀a,b<=a->(AZ b).length<=(AZ a).length:=by
 induction b using Nat.strongRecOn with
 |ind b ih=>
  intro a h
  by_cases hb:b=0
  ·subst hb;rw[GV];exact BS _
  ·rw[Ie hb,Ie (n:=a) (by omega),Bp,Bp]
   exact Nat.succ_le_succ (ih _ (Hm (Dx hb) (by decide)) _ (Nat.div_le_div_right h))
theorem Vi {a b:Nat}(h:(AZ a).length<(AZ b).length):a<b:=by
 rcases BA a b with h1|h1
 ·exact h1
 ·have:=Ib b a h1;omega
theorem Nj {l:List Nat}{k a:Nat}(h:l[k]?=some a):AP l=AP (l.take k)+RB^k*(a+RB*AP (l.drop (k+1))):=by
 have hk:k<l.length:=(List.getElem?_eq_some_iff.1 h).1
 conv=>lhs;rw[<-Ev k l]
 rw[JA,Bb,Eu (by omega)]
 have:l.drop k=a::l.drop (k+1):=by
  rw[EI hk]
  congr 1
  exact(List.getElem?_eq_some_iff.1 h).2
 rw[this,AP]
theorem Vr {l m:List Nat}{k a b:Nat}(hl:Rd l)(ha:l[k]?=some a)(hb:m[k]?=some b)(hd:l.drop (k+1)=m.drop (k+1))(hab:a<b):AP l<AP m:=by
 have hk:k<l.length:=(List.getElem?_eq_some_iff.1 ha).1;rw[Nj ha,Nj hb,hd];have h1:=Fy (hl.take k);rw[Bb,Eu (by omega)]at h1;generalize AP (m.drop (k+1))=r;have h2:RB^k*(a+RB*r)+RB^k<=RB^k*(b+RB*r):=by
  rw[<-Nat.mul_succ];exact CY _ (by omega)
 omega
theorem Gv {l:List Nat}{i a:Nat}(hi:l.length=i):AP (l++[a])=AP l+RB^i*a:=by rw[JA,hi];simp[AP]
theorem Rd.set {l:List Nat}(h:Rd l){i a:Nat}(ha:a<RB):Rd (l.set i a):=λb hb=>by
 rcases Rq hb with h1|rfl
 ·exact h b h1
 ·exact ha
theorem SU (n:Nat):Rd (List.replicate n 0):=λa ha=>by rw[PA ha];decide
theorem Nf:∀ {l:List Nat} {k o d:Nat},l[k]?=some o->AP (l.set k d)+RB^k*o=AP l+RB^k*d
 |a::l,0,o,d,h=>by
  simp only[Rs,BL]at h;subst h;simp only[List.set_cons_zero,AP,L0,I1];omega
 |a::l,k+1,o,d,h=>by
  simp only[Jg]at h;have ih:=Nf (d:=d) h;simp only[List.set_cons_succ,AP];have h1:RB^(k+1)*o=RB*(RB^k*o):=by rw[CH,BQ (RB^k) RB,Bx]
  have h2:RB^(k+1)*d=RB*(RB^k*d):=by rw[CH,BQ (RB^k) RB,Bx]
  have h3:RB*AP (l.set k d)+RB*(RB^k*o)=RB*AP l+RB*(RB^k*d):=by rw[<-BM,<-BM,ih]
  omega
theorem Kz {n k:Nat}(h:n<RB^k):(AZ n).length<=k:=by
 induction k generalizing n with
 |zero=>
  have:n=0:=by simpa using h
  subst this;rw[GV];exact Ai _
 |succ k ih=>
  by_cases h0:n=0
  ·subst h0;rw[GV];exact BS _
  ·rw[Ie h0,Bp]
   exact Nat.succ_le_succ (ih (Ew (by rw[BQ,<-CH];exact h)))
theorem Ic (n:Nat):n<RB^(AZ n).length:=by
 have:=Fy (ET n)
 rwa [Dy]at this
theorem Vx (a b:Nat):(AZ (a+b)).length<=max (AZ a).length (AZ b).length+1:=by
 refine Kz ?_;have h1:=Ic a;have h2:=Ic b;have m1:RB^(AZ a).length<=RB^max (AZ a).length (AZ b).length:=FH (by decide) (Nat.le_max_left _ _);have m2:RB^(AZ b).length<=RB^max (AZ a).length (AZ b).length:=FH (by decide) (Nat.le_max_right _ _);rw[CH];generalize RB^max (AZ a).length (AZ b).length=q at*;unfold RB;omega
theorem Vy (a b:Nat):(AZ (a-b)).length<=(AZ a).length:=Ib _ _ (Nat.sub_le _ _)
theorem SJ (a b:Nat):(AZ (a*b)).length<=(AZ a).length+(AZ b).length:=by
 refine Kz ?_;rw[Fu];exact Nat.mul_lt_mul'' (Ic a) (Ic b)
theorem Pf {n:Nat}(h0:n≠0)(h:n<RB):AZ n=[n]:=by
 rw[Ie h0,Dd h,HH h,GV]
theorem UK {l:List Nat}{k a:Nat}(hl:l.length=k+1)(ha:l[k]?=some a):AP l=AP (l.take k)+RB^k*a:=by
 rw[Nj ha,HI (by omega)];simp[AP]
theorem uB {l:List Nat}{k a b:Nat}(hl:l.length=k+2)(ha:l[k]?=some a)(hb:l[k+1]?=some b):AP l=AP (l.take k)+RB^k*(a+RB*b):=by
 rw[Nj ha]
 have:l.drop (k+1)=[b]:=by
  rw[EI (by omega),HI (by omega)]
  congr 1
  exact(List.getElem?_eq_some_iff.1 hb).2
 rw[this];simp[AP]
theorem uC {l:List Nat}{k a b c:Nat}(hl:l.length=k+3)(ha:l[k]?=some a)(hb:l[k+1]?=some b)(hc:l[k+2]?=some c):AP l=AP (l.take k)+RB^k*(a+RB*(b+RB*c)):=by
 rw[Nj ha];have h1:=UK (l:=l.drop (k+1)) (k:=1) (a:=c) (by rw[Dc];omega) (by rw[GO,EP];exact hc);have h2:(l.drop (k+1)).take 1=[b]:=by
  rw[EI (by omega)];simp only[List.take_succ_cons,NM]
  congr 1
  exact(List.getElem?_eq_some_iff.1 hb).2
 rw[h1,h2];simp[AP]
structure KR (P v:List Nat)(m p0 p1 p2 v2 v1:Nat):Prop where
 lP:P.length=m+3
 lv:v.length=m+2
 wP:Rd P
 wv:Rd v
 h0:P[m]?=some p0
 h1:P[m+1]?=some p1
 h2:P[m+2]?=some p2
 g2:v[m]?=some v2
 g1:v[m+1]?=some v1
 top:0<v1
 less:AP P<AP v*RB
namespace KR
variable {P v:List Nat} {m p0 p1 p2 v2 v1:Nat} (S:KR P v m p0 p1 p2 v2 v1)
include S
theorem valP:AP P=AP (P.take m)+RB^m*(p0+RB*(p1+RB*p2)):=uC S.lP S.h0 S.h1 S.h2
theorem valv:AP v=AP (v.take m)+RB^m*(v2+RB*v1):=uB S.lv S.g2 S.g1
theorem lowP:AP (P.take m)<RB^m:=by
 have:=Fy (S.wP.take m)
 rwa [Bb,Eu (by have:=S.lP;omega)]at this
theorem lowv:AP (v.take m)<RB^m:=by
 have:=Fy (S.wv.take m)
 rwa [Bb,Eu (by have:=S.lv;omega)]at this
theorem p0l:p0<RB:=S.wP _ (Ax S.h0)
theorem p1l:p1<RB:=S.wP _ (Ax S.h1)
theorem p2l:p2<RB:=S.wP _ (Ax S.h2)
theorem v1l:v1<RB:=S.wv _ (Ax S.g1)
theorem v2l:v2<RB:=S.wv _ (Ax S.g2)
theorem below3:AP P<(p0+RB*(p1+RB*p2)+1)*RB^m:=by
 rw[S.valP,Bs,I1,BQ (RB^m)]
 have:=S.lowP
 omega
theorem below2:AP P<(p1+RB*p2+1)*RB^(m+1):=by
 have h:=S.below3;have h1:=S.p0l;generalize p1+RB*p2=t at*;have h2:(p0+RB*t+1)*RB^m<=(RB*(t+1))*RB^m:=CG _ (by rw[BM RB t 1];omega);have h3:(t+1)*RB^(m+1)=(RB*(t+1))*RB^m:=by rw[CH,BQ (RB^m) RB,<-Bx,BQ (t+1) RB]
 omega
theorem abovev:v1*RB^(m+1)<=AP v:=by
 rw[S.valv,CH,BM]
 have:v1*(RB^m*RB)=RB^m*(RB*v1):=by rw[BQ v1,Bx]
 omega
theorem abovev2:(v2+RB*v1)*RB^m<=AP v:=by
 rw[S.valv,BQ];omega
theorem pos:0<AP v:=CV (HJ S.top (Nat.pow_pos (by decide))) S.abovev
theorem p2v1:p2<=v1:=by
 rcases BA v1 p2 with h|h
 ·exfalso
  have e1:RB^(m+2)*p2<=AP P:=by
   rw[S.valP,BM,BM,BM]
   have:RB^(m+2)*p2=RB^m*(RB*(RB*p2)):=by rw[CH,CH,Bx,Bx]
   omega
  have e2:AP v<RB^(m+1)*(v1+1):=by
   have h1:=S.lowv;have h2:=S.v2l;have e3:RB^(m+1)*(v1+1)=RB^m*(RB*v1+RB):=by rw[CH,Bx,BM,D6]
   have e4:RB^m*(v2+RB*v1+1)<=RB^m*(RB*v1+RB):=CY _ (by omega);rw[BM _ _ 1,D6]at e4;rw[S.valv,e3];omega
  have e5:RB^(m+1)*(v1+1)*RB=RB^(m+2)*(v1+1):=by rw[Nat.mul_right_comm,<-CH]
  have e6:RB^(m+2)*(v1+1)<=RB^(m+2)*p2:=CY _ h;have e7:(AP v)*RB<=RB^(m+1)*(v1+1)*RB:=CG _ (Jh e2)
  have:=S.less
  omega
 ·exact h
end KR
theorem fk {A P v:List Nat}{q i z x d b c b' c' lo:Nat}(hz:A[i]?=some z)(hx:v[i]?=some x)(hI:AP A+q*AP (v.take i)=AP P+RB^i*(c+b))
  (h1:lo+RB*c'=q*x+c) (h2:d+lo+b=z+RB*b'):AP (A.set i d)+q*AP (v.take (i+1))=AP P+RB^(i+1)*(c'+b'):=by
 have hs:=Nf (d:=d) hz;have hi:i<v.length:=(List.getElem?_eq_some_iff.1 hx).1;rw[E3 hx,Gv (i:=i) (by rw[Bb];omega),BM,IU q,CH,Bx];have e:RB^i*(d+q*x+(c+b))=RB^i*(z+RB*(c'+b')):=by congr 1;rw[BM RB];omega
 rw[BM,BM,BM (RB^i) z]at e;omega
theorem fj {A P v:List Nat}{i z x c:Nat}(hz:A[i]?=some z)(hx:v[i]?=some x)(hI:AP A+RB^i*c=AP P+AP (v.take i)):
  AP (A.set i ((z+x+c)%RB))+RB^(i+1)*((z+x+c)/RB)=AP P+AP (v.take (i+1)):=by
 have hs:=Nf (d:=(z+x+c)%RB) hz;have hi:i<v.length:=(List.getElem?_eq_some_iff.1 hx).1;rw[E3 hx,Gv (i:=i) (by rw[Bb];omega),CH,Bx];have e:RB^i*((z+x+c)%RB+RB*((z+x+c)/RB))=RB^i*(z+x+c):=by rw[Eg]
 rw[BM,BM,BM (RB^i) z]at e;omega
theorem gY {n k:Nat}(h1:RB^k<=n)(h2:n<RB^(k+1)):(AZ n).length=k+1:=by
 have h3:=Kz h2;have h4:=DV h1 (Ic n);have h5:=(Nat.pow_lt_pow_iff_right (show 1<RB by decide)).1 h4;omega
theorem Pg:∀(n:Nat) {k a:Nat},(AZ n).length=k+1->(AZ n)[k]?=some a->a≠0:=λn=>by
 induction n using Nat.strongRecOn with
 |ind n ih=>
  intro k a h1 h2
  by_cases h0:n=0
  ·subst h0;rw[GV]at h1;cases h1
  ·rw[Ie h0]at h1 h2
   rw[Bp]at h1;have h3:=Nat.succ.inj h1;cases k with
   |zero=>
    have h4:AZ (n/RB)=[]:=FF h3;have h5:n/RB=0:=by rw[<-Dy (n/RB),h4];rfl
    have h6:=Eg n RB;rw[h5]at h6;simp at h2;intro h7;subst h7;rw[h2]at h6;omega
   |succ k=>
    rw[Jg]at h2;exact ih _ (Hm (Dx h0) (by decide)) h3 h2
theorem ST {n k:Nat}(h:(AZ n).length=k+1):RB^k<=n:=by
 obtain⟨a,ha⟩:=CR (l:=AZ n) (i:=k) (by omega);have h1:=Pg n h ha;have h2:=UK h ha;rw[Dy]at h2;have h3:=CY (RB^k) (show 1<=a by omega);omega
theorem Pp {l:List Nat}{j a:Nat}(h:l[j]?=some a):AP (l.drop j)=a+RB*AP (l.drop (j+1)):=by
 have hj:j<l.length:=(List.getElem?_eq_some_iff.1 h).1;rw[EI hj,(List.getElem?_eq_some_iff.1 h).2];rfl
theorem gS {a q:List Nat}{j x b rest:Nat}(hb:0<b)(hx:a[j]?=some x)(hj:j<q.length)(hI:AP (q.drop (j+1))*b+rest=AP (a.drop (j+1))):
  AP ((q.set j ((rest*RB+x)/b)).drop j)*b+(rest*RB+x)%b=AP (a.drop j)/\(rest*RB+x)%b<b:=by
 refine⟨?_,B0 _ hb⟩;rw[QJ hj,Pp hx,<-hI,AP];have e:=ER (rest*RB+x) b;rw[Bs,BM RB,Bx RB,BQ RB rest,BQ _ b];omega
structure Lj (X:Nat)(v U q:List Nat)(lu lq k:Nat):Prop where
 lU:U.length=lu
 lQ:q.length=lq
 wU:Rd U
 wq:Rd q
 val:RB^k*AP (q.drop k)*AP v+AP U=X
 less:AP (U.drop k)<AP v
theorem iF {X:Nat}{v U q:List Nat}{lu lq j m:Nat}(I:Lj X v U q lu lq (j+1))(hv:v.length=m+2)(wv:Rd v)(v1 v2:Nat)(h2:v[m]?=some v2)(h1:v[m+1]?=some v1)(ht:0<v1)(hj:j+(m+3)<=lu):
  ∃p0 p1 p2,KR ((U.drop j).take (m+3)) v m p0 p1 p2 v2 v1/\AP (U.drop (j+(m+3)))=0/\AP ((U.drop j).take (m+3))=AP (U.drop j):=by
 obtain⟨lU,lQ,wU,wq,val,less⟩:=I;obtain⟨x,hx⟩:=CR (l:=U) (i:=j) (by omega);have hxl:=wU x (Ax hx);have e1:=Pp hx;have hlt:AP (U.drop j)<AP v*RB:=by
  have:RB*(AP (U.drop (j+1))+1)<=RB*AP v:=CY _ less
  rw[BM,BQ RB (AP v)]at this;omega
 have hPl:((U.drop j).take (m+3)).length=m+3:=by rw[Bb,Dc];omega
 have e2:AP (U.drop j)=AP ((U.drop j).take (m+3))+RB^(m+3)*AP (U.drop (j+(m+3))):=by
  conv=>lhs;rw[<-Ev (m+3) (U.drop j)]
  rw[JA,hPl,List.drop_drop]
 have hvl:=Fy wv;rw[hv]at hvl;have hz:AP (U.drop (j+(m+3)))=0:=by
  rcases Dh (AP (U.drop (j+(m+3))))with h|h
  ·exact h
  ·exfalso
   have e3:RB^(m+3)*1<=RB^(m+3)*AP (U.drop (j+(m+3))):=CY _ h;have e4:AP v*RB<=RB^(m+2)*RB:=CG _ (Jh hvl);have e5:RB^(m+2)*RB=RB^(m+3):=(CH RB (m+2)).symm;rw[e5]at e4;omega
 rw[hz,EQ,DR]at e2;obtain⟨p0,h0⟩:=CR (l:=(U.drop j).take (m+3)) (i:=m) (by omega);obtain⟨p1,h3⟩:=CR (l:=(U.drop j).take (m+3)) (i:=m+1) (by omega);obtain⟨p2,h4⟩:=CR (l:=(U.drop j).take (m+3)) (i:=m+2) (by omega);exact⟨p0,p1,p2,⟨hPl,hv,λa ha=>wU a (Jj (Gm ha)),wv,h0,h3,h4,h2,h1,ht,by rw[<-e2];exact hlt⟩,hz,e2.symm⟩
theorem iE {X:Nat}{v U q P':List Nat}{lu lq j m:Nat}(I:Lj X v U q lu lq (j+1))(hv:0<AP v)(hj:j+(m+3)<=lu)(hjq:j<lq)(hz:AP (U.drop (j+(m+3)))=0)(hP:AP ((U.drop j).take (m+3))=AP (U.drop j))
  (h1:P'.length=m+3) (h2:Rd P') (h3:AP P'=AP ((U.drop j).take (m+3))%AP v) (hd:AP ((U.drop j).take (m+3))/AP v<RB):
  Lj X v (U.take j++(P'++U.drop (j+(m+3)))) (q.set j (AP ((U.drop j).take (m+3))/AP v)) lu lq j:=by
 obtain⟨lU,lQ,wU,wq,val,less⟩:=I;have hA:(U.take j).length=j:=by rw[Bb];omega
 have e0:AP U=AP (U.take j)+RB^j*AP (U.drop j):=by
  conv=>lhs;rw[<-Ev j U]
  rw[JA,hA]
 have e1:AP (P'++U.drop (j+(m+3)))=AP P':=by rw[JA,hz,EQ,DR]
 refine⟨?_,by rw[DQ];exact lQ,?_,wq.set hd,?_,?_⟩
 ·rw[Bh,Bh,hA,h1,Dc];omega
 ·exact Rd.append (wU.take j) (Rd.append h2 λa ha=>wU a (Jj ha))
 ·rw[QJ (by omega),AP,JA,hA,e1,h3,hP]
  rw[e0]at val;have e2:=ER (AP (U.drop j)) (AP v);have e3:RB^(j+1)*AP (q.drop (j+1))*AP v=RB^j*(RB*AP (q.drop (j+1))*AP v):=by
   rw[CH,Bx,Bx,Bx]
  rw[e3]at val;have e4:RB^j*AP (U.drop j)=RB^j*(AP v*(AP (U.drop j)/AP v))+RB^j*(AP (U.drop j)%AP v):=by
   rw[<-BM,e2]
  rw[Bx,Bs,BM,BQ (AP (U.drop j)/AP v)];omega
 ·rw[List.drop_left' hA,e1,h3]
  exact B0 _ hv
set_option maxHeartbeats 2000000
abbrev Aa (n:Nat):D:=i64 (n:Int)
def rL (l:List Nat):D:=.sl false 1 (l.map Aa)
def rD (n:Nat):D:=rL (AZ n)
theorem OE (l:List Nat):B5 (rL l):=.sl λe he d hd=>by
 obtain⟨a,_,rfl⟩:=List.mem_map.1 he;simp only[D.cells,BF,DX,or_false]at hd;subst hd;exact .prim _
instance  (l:List Nat):AA (rL l):=⟨OE l⟩
instance  (n:Nat):AA (rD n):=⟨OE _⟩
theorem Do {l:List Nat}{i a:Nat}(h:l[i]?=some a):(l.map Aa)[i]?=some (Aa a):=by rw[A0,h];rfl
theorem Mi {l:List Nat}{i a:Nat}:(l.map Aa).set i (Aa a)=(l.set i a).map Aa:=List.map_set.symm
theorem vm (c:Nat):((c:Int)==0)=decide (c=0):=by rw[FW,D7,decide_eq_true_iff];omega
theorem Ta (m:List Nat):AP (m++[0])=AP m:=by rw[Gv rfl];simp
theorem Yr {m:List Nat}{c:Nat}(h:Rd (m++[c]))(hc:c≠0):AZ (AP (m++[c]))=m++[c]:=Vz h λa ha=>by
 rw[List.getLast?_append]at ha;simp at ha;rw[<-ha];exact hc
theorem LW (l:List Nat)(h:Rd l)(hlen:l.length<4000000000):AJ C0 228 [rL l] (rD (AP l)):=by
 refine Ag.walk w1 ay rfl λF=>?_
 unfold rL;refine sR 0 ?_;refine AC.seq ?_;refine AC.block ?_;refine AC.loop (α:=List Nat×Nat) (λp=>⟨[(0,.sl false 1 (p.1.map Aa))],[],p.2⟩) (λp=>p.1.length)
  (λp=>AP p.1=AP l/\Rd p.1/\p.1.length<=l.length) (l,_) ⟨rfl,h,Ai _⟩ AK ?_
 rintro⟨m,n⟩ F ⟨h1,h2,h3⟩;dsimp only at h1 h2 h3⊢;refine AC.seq ?_;refine AC.seq ?_;rcases Ru m with rfl|⟨m,c,rfl⟩
 ·have e1:decide (((0:Nat):Int)>0)=false:=rfl
  refine An w1 100 (by kernel_rfl) ?_;refine AU e1 ?_;refine AD e1 ?_;refine AM ?_;refine B8 ?_;refine sR 300 ?_;refine Aj ?_;refine AL (d0:=rL []) ?_ AA.out;rw[<-h1];unfold rD;rw[show AP []=0 from rfl,GV]
 ·rw[Rt]at h1 h2 h3⊢
  have el:((((m++[c]).map Aa).length:Nat):Int)=((m.length+1:Nat):Int):=by rw[Ac,Bh];rfl
  rw[Bh,GS]at h3;have e1:decide (((m.length+1:Nat):Int)>0)=true:=AX (by omega);have wk:IntKind.i64.wrap (((m.length+1:Nat):Int)-1)=(m.length:Int):=by rw[wI (by omega) (by omega)];omega
  have wraw:IntKind.i64.wrap (((((m++[c]).map Aa).length:Nat):Int)-1)=(m.length:Int):=by rw[el,wk]
  have hx:((m++[c]).map Aa)[m.length]?=some (Aa c):=Do (by simp);have ec:=vm c;refine An w1 100 (by kernel_rfl) ?_;refine AU (Ae el e1) ?_;refine AD (CE e1 wraw el wk kN) ?_;refine Br e1 hx ?_;refine AD (CE e1 wraw el wk ec) ?_
  by_cases hc:c=0
  ·rw[AX hc]
   subst hc;have e4:List.take (m.length-0) (List.drop 0 ((m++[0]).map Aa))=m.map Aa:=by simp
   have e5:List.take m.length ((m++[0]).map Aa)=m.map Aa:=by simp
   rw[Ta]at h1;refine AM ?_;refine Am ?_;refine AC.block ?_;refine An w1 200 (by kernel_rfl) ?_;refine AU (CE el wk wraw kN e4) ?_;exact⟨(m,_),⟨h1,λa ha=>h2 a (HF _ ha),by dsimp only;omega⟩,by dsimp only;rw[Bh,GS];omega,AK⟩
  ·rw[Ad hc]
   refine AM ?_;refine B8 ?_;refine sR 300 ?_;refine Aj ?_;refine AL (d0:=rL (m++[c])) ?_ AA.out;unfold rD;rw[<-h1,Yr h2 hc]
theorem Tj (l:List Nat)(i:Nat)(hlen:l.length<4000000000)(hi:i<4000000000):AJ C0 295 [rL l,Aa i] (Aa (l.getD i 0)):=by
 refine Ag.walk w1 sP rfl λF=>?_
 unfold rL;have el:(((l.map Aa).length:Nat):Int)=(l.length:Int):=by rw[Ac]
 refine sR 0 ?_;refine AC.seq ?_;refine AC.seq ?_
 by_cases h:i<l.length
 ·have e1:decide ((i:Int)<(l.length:Int))=true:=AX (by omega)
  obtain⟨a,ha⟩:=CR h;have hx:=Do ha;have eg:l.getD i 0=a:=by rw[Da,ha];rfl
  rw[eg];refine An w1 100 (by kernel_rfl) ?_;refine AU (Ae el e1) ?_;refine AM ?_;refine sZ 200 ?_;refine AD kN ?_;refine Br kT hx ?_;refine AD kN ?_;refine Aj ?_;exact AL rfl AA.out
 ·have e1:decide ((i:Int)<(l.length:Int))=false:=Ad (by omega)
  have eg:l.getD i 0=0:=by rw[Da,Db (by omega)];rfl
  rw[eg];refine An w1 100 (by kernel_rfl) ?_;refine AU (Ae el e1) ?_;refine AM ?_;refine Am ?_;refine sR 300 ?_;refine Aj ?_;exact AL rfl AA.out
theorem RM (a b:Nat)(ha:(AZ a).length<4000000000)(hb:(AZ b).length<4000000000):AJ C0 226 [rD a,rD b] (i64 (Dt a b)):=by
 refine Ag.walk w1 rK rfl λF=>?_
 have hwa:=ET a;have hwb:=ET b;have va:=Dy a;have vb:=Dy b;have hlt:=@Vi a b;have hgt:=@Vi b a;unfold rD rL Dt;generalize AZ a=la at*;generalize AZ b=lb at*;have ea:(((la.map Aa).length:Nat):Int)=(la.length:Int):=by rw[Ac]
 have eb:(((lb.map Aa).length:Nat):Int)=(lb.length:Int):=by rw[Ac]
 refine sR 0 ?_;refine AC.seq ?_;refine sZ 100 ?_;refine AU (Ae ea eb) ?_;refine AM ?_
 (refine Bw (λh10=>?_) (λh10=>?_))<;>(try simp only[Bi,Bv]at h10)<;>(try simp only[h10])
 ·have hne:la.length≠lb.length:=by
   have:(la.length:Int)≠lb.length:=by simpa using h10
   omega
  refine AC.seq ?_;refine sZ 200 ?_;refine AU (Ae ea eb) ?_;refine AM ?_
  (refine Bw (λh15=>?_) (λh15=>?_))<;>(try simp only[Bi,Bv]at h15)<;>(try simp only[h15])
  ·have h1:la.length<lb.length:=by
    have:(la.length:Int)<lb.length:=by simpa using h15
    omega
   rw[AG (by have:=hlt h1;omega)];refine sR 300 ?_;refine Aj ?_;exact AL rfl AA.out
  ·have h1:lb.length<la.length:=by
    have:¬(la.length:Int)<lb.length:=by simpa using h15
    omega
   have h2:=hgt h1;rw[AF (by omega),AG (by omega)];refine Am ?_;refine sR 400 ?_;refine Aj ?_;exact AL rfl AA.out
 ·have hl:la.length=lb.length:=by
   have:(la.length:Int)=lb.length:=by simpa using h10
   omega
  clear hlt hgt;refine Am ?_;refine AC.seq ?_;refine sZ 500 ?_;refine AU ea ?_;refine AC.block ?_;have w0:IntKind.i64.wrap ((la.length:Int)-1)=(la.length:Int)-1:=wI (by omega) (by omega);rw[w0];refine AC.loop (α:=Nat×Nat) (λp=>⟨[(0,.sl false 1 (la.map Aa)),(1,.sl false 1 (lb.map Aa)),(5,i64 ((p.1:Int)-1))],[],p.2⟩) (λp=>p.1)
   (λp=>p.1<=la.length/\la.drop p.1=lb.drop p.1) (la.length,_) ⟨Ai _,by rw[I5,hl,I5]⟩ AK ?_
  rintro⟨k,m⟩ F ⟨h1,h2⟩;dsimp only at h1 h2⊢;refine AC.seq ?_;refine sR 600 ?_;refine AM ?_
  (refine Bw (λh20=>?_) (λh20=>?_))<;>(try simp only[Bi,Bv]at h20)<;>(try simp only[h20])
  ·obtain⟨j,rfl⟩:∃j,k=j+1:=⟨k-1,by
    have:(k:Int)-1>=0:=by simpa using h20
    omega⟩
   have wj:((j+1:Nat):Int)-1=(j:Int):=by omega
   obtain⟨x,hx⟩:∃x,la[j]?=some x:=⟨la[j],BE (by omega)⟩
   obtain⟨y,hy⟩:∃y,lb[j]?=some y:=⟨lb[j],BE (by omega)⟩
   have hx':=Do hx;have hy':=Do hy;rw[wj];refine Am ?_;refine AC.seq ?_;refine AC.block ?_;refine AC.seq ?_;refine AC.seq ?_;refine B6 w1 800 [0,1,2,3,4,5,6,7] [8] (by kernel_rfl) ?_;refine AD kN ?_;refine Br kT hx' ?_;refine AD kN ?_;refine Br kT hy' ?_;refine AD kN ?_;refine AD kN ?_;refine AM ?_
   (refine Bw (λh31=>?_) (λh31=>?_))<;>(try simp only[Bi,Bv]at h31)<;>(try simp only[h31])
   ·have hxy:x<y:=by
     have:=DA h31
     omega
    have:=Vr hwa hx hy h2 hxy
    rw[AG (by omega)];refine sR 900 ?_;refine Aj ?_;exact AL rfl AA.out
   ·have hxy0:¬x<y:=by
     have:=DL h31
     omega
    refine Am ?_;refine AC.seq ?_;refine B6 w1 1000 [0,1,2,3,4,5,6,7] [8] (by kernel_rfl) ?_;refine AD kN ?_;refine Br kT hx' ?_;refine AD kN ?_;refine Br kT hy' ?_;refine AD kN ?_;refine AD kN ?_;refine AM ?_
    (refine Bw (λh40=>?_) (λh40=>?_))<;>(try simp only[Bi,Bv]at h40)<;>(try simp only[h40])
    ·have hxy:y<x:=by
      have:=DA h40
      omega
     have:=Vr hwb hy hx h2.symm hxy
     rw[AF (by omega),AG (by omega)];refine sR 1100 ?_;refine Aj ?_;exact AL rfl AA.out
    ·have hxy:x=y:=by
      have:=DL h40
      omega
     subst hxy;have w5:IntKind.i64.wrap ((j:Int)-1)=(j:Int)-1:=wI (by omega) (by omega);refine Am ?_;refine An w1 700 (by kernel_rfl) ?_;refine AU w5 ?_;have hj:=(List.getElem?_eq_some_iff.1 hx)
     have hj':=(List.getElem?_eq_some_iff.1 hy)
     refine⟨(j,_),⟨by dsimp only;omega,?_⟩,by dsimp only;omega,AK⟩;dsimp only;rw[EI hj.1,EI hj'.1,hj.2,hj'.2,h2]
  ·have hk:k=0:=by
    have:¬((k:Int)-1>=0):=by simpa using h20
    omega
   subst hk;have hab:a=b:=by
    rw[<-va,<-vb]
    have:la=lb:=by simpa using h2
    rw[this]
   subst hab;rw[AF (by omega),AF (by omega)];refine B8 ?_;refine sR 1200 ?_;refine Aj ?_;exact AL rfl AA.out
theorem SK (l:List Nat)(i:Nat):AP (l.take (i+1))=AP (l.take i)+RB^i*l.getD i 0:=by
 by_cases h:i<l.length
 ·obtain⟨a,ha⟩:=CR h
  rw[E3 ha,Gv (i:=i) (by rw[Bb];omega),Da,ha];rfl
 ·rw[B7 (by omega),B7 (by omega),Da,Db (by omega)]
  simp
theorem Sf {l:List Nat}(h:Rd l)(i:Nat):l.getD i 0<RB:=by
 by_cases hi:i<l.length
 ·obtain⟨a,ha⟩:=CR hi
  rw[Da,ha];exact h a (Ax ha)
 ·rw[Da,Db (by omega)];decide
theorem Ww (l:List Nat)(i:Nat):AP (l.take i)<=AP l:=by
 conv=>rhs;rw[<-Ev i l]
 rw[JA];exact Nat.le_add_right _ _
theorem Wf {a i:Nat}(h:i<(AZ a).length):RB^i<=a:=by
 obtain⟨k,hk⟩:∃k,(AZ a).length=k+1:=⟨(AZ a).length-1,by omega⟩
 exact BU (FH (by decide) (by omega)) (ST hk)
structure ON (a b:Nat)(i c:Nat)(out:List Nat):Prop where
 len:out.length=i
 wd:Rd out
 c1:c<=1
 val:AP out+RB^i*c=AP ((AZ a).take i)+AP ((AZ b).take i)
 can:i=0\/RB^(i-1)<=a+b
theorem lM {a b i c:Nat}{out:List Nat}(I:ON a b i c out)(h:i<(AZ a).length\/i<(AZ b).length\/0<c):
  ON a b (i+1) (((AZ a).getD i 0+(AZ b).getD i 0+c)/RB) (out++[((AZ a).getD i 0+(AZ b).getD i 0+c)%RB])/\(AZ a).getD i 0+(AZ b).getD i 0+c<2*RB:=by
 obtain⟨len,wd,c1,val,can⟩:=I;have h1:=Sf (ET a) i;have h2:=Sf (ET b) i;have hs:(AZ a).getD i 0+(AZ b).getD i 0+c<2*RB:=by omega
 have e1:=SK (AZ a) i;have e2:=SK (AZ b) i;have ta:=Ww (AZ a) i;have tb:=Ww (AZ b) i;rw[Dy]at ta tb;refine⟨⟨by rw[Bh,len];rfl,Rd.append wd λx hx=>?_,?_,?_,.inr ?_⟩,hs⟩
 ·simp only[BF,DX,or_false]at hx
  subst hx;exact B0 _ (by decide)
 ·exact NJ (Ew (by rw[BQ];exact hs))
 ·rw[Gv len,e1,e2,CH,Bx]
  have e:=Eg ((AZ a).getD i 0+(AZ b).getD i 0+c) RB;generalize(AZ a).getD i 0=p at*;generalize(AZ b).getD i 0=q at*;have e3:RB^i*((p+q+c)%RB+RB*((p+q+c)/RB))=RB^i*(p+q+c):=by rw[e]
  rw[BM,BM,BM (RB^i) p]at e3;omega
 ·rw[IT]
  rcases h with h|h|h
  ·have:=Wf h;omega
  ·have:=Wf h;omega
  ·have hc:c=1:=by omega
   subst hc;rw[D6]at val;omega
theorem lL {a b i:Nat}{out:List Nat}(I:ON a b i 0 out)(h1:¬i<(AZ a).length)(h2:¬i<(AZ b).length):out=AZ (a+b):=by
 obtain⟨len,wd,c1,val,can⟩:=I;rw[B7 (by omega),B7 (by omega),Dy,Dy,EQ,DR]at val;rcases Ru out with rfl|⟨m,c,rfl⟩
 ·rw[<-val];unfold AZ;rfl
 ·rw[Rt]at*
  rw[Bh,GS]at len;have hc:c≠0:=by
   intro hc;subst hc;rcases can with h|h
   ·omega
   ·rw[Ta]at val
    have:=Fy (l:=m) λx hx=>wd x (HF _ hx)
    rw[show i-1=m.length by omega]at h;omega
  rw[<-val,Yr wd hc]
theorem v7 (a b:Nat)(ha:(AZ a).length<1000000)(hb:(AZ b).length<1000000):AJ C0 269 [rD a,rD b] (rD (a+b)):=by
 refine Ag.walk w1 rp rfl λF=>?_
 have hT:Fz [] [] (rD a) (rD a):=.refl _;change AC C0 F none F _ ⟨DH 0 [.sl false 1 ((AZ a).map Aa),.sl false 1 ((AZ b).map Aa)],[],0⟩ _;have ea:((((AZ a).map Aa).length:Nat):Int)=((AZ a).length:Int):=by rw[Ac]
 have eb:((((AZ b).map Aa).length:Nat):Int)=((AZ b).length:Int):=by rw[Ac]
 have I0:ON a b 0 0 []:=⟨rfl,(λx hx=>Ah hx DX),BS _,by simp[AP],.inl rfl⟩
 refine sR 0 ?_;refine sR 100 ?_;refine sR 200 ?_;refine AC.seq ?_;refine sR 300 ?_;refine AC.block ?_;refine AC.loop (α:=Nat×Nat×List Nat×List D×Nat×Nat) (λp=>⟨[(0,.sl false 1 ((AZ a).map Aa)),(1,.sl false 1 ((AZ b).map Aa)),(5,Ds 704 p.2.2.2.2.1 1 p.2.2.2.1),(6,Aa p.2.1),(7,Aa p.1)],Dl 704 p.2.2.2.2.1 3 1 p.2.2.2.1,p.2.2.2.2.2⟩)
  (λp=>(max (AZ a).length (AZ b).length-p.1)*2+p.2.1) (λp=>ON a b p.1 p.2.1 p.2.2.1/\p.2.2.2.1=p.2.2.1.map Aa/\p.1<=max (AZ a).length (AZ b).length+1) (0,0,[],[],0,_) ⟨I0,rfl,BS _⟩ AK ?_
 rintro⟨i,c,out,L,g,n⟩ F ⟨I,hL,hi⟩;dsimp only at I hL hi⊢;have c1:=I.c1;have hol:=I.len;refine AC.seq ?_;refine Cz (α:=Nat) (λn=>⟨[(0,.sl false 1 ((AZ a).map Aa)),(1,.sl false 1 ((AZ b).map Aa)),(5,Ds 704 g 1 L),(6,Aa c),(7,Aa i),(22,Ap (decide (i<(AZ a).length\/i<(AZ b).length\/0<c)))],Dl 704 g 3 1 L,n⟩) (λ_=>True) ?_ ?_
 ·generalize Ds 704 g 1 L=od at*
  generalize Dl 704 g 3 1 L=oh at*
  by_cases h1:i<(AZ a).length
  ·have e1:decide ((i:Int)<((AZ a).length:Int))=true:=AX (by omega)
   have e:decide (i<(AZ a).length\/i<(AZ b).length\/0<c)=true:=AX (.inl h1);rw[e];refine An w1 400 (by kernel_rfl) ?_;refine AU (Ae ea e1) ?_;refine AD kT ?_;refine AD kT ?_;exact⟨trivial,_,trivial,AK⟩
  ·have e1:decide ((i:Int)<((AZ a).length:Int))=false:=Ad (by omega)
   by_cases h2:i<(AZ b).length
   ·have e2:decide ((i:Int)<((AZ b).length:Int))=true:=AX (by omega)
    have e:decide (i<(AZ a).length\/i<(AZ b).length\/0<c)=true:=AX (.inr (.inl h2));rw[e];refine An w1 400 (by kernel_rfl) ?_;refine AU (Ae ea e1) ?_;refine AD kF ?_;simp only[eb,e2];refine AD kT ?_;exact⟨trivial,_,trivial,AK⟩
   ·have e2:decide ((i:Int)<((AZ b).length:Int))=false:=Ad (by omega)
    have e:decide ((c:Int)>0)=decide (i<(AZ a).length\/i<(AZ b).length\/0<c):=by rw[C4];omega
    rw[<-e];refine An w1 400 (by kernel_rfl) ?_;refine AU (Ae ea e1) ?_;refine AD kF ?_;simp only[eb,e2];refine AD kF ?_;exact⟨trivial,_,trivial,AK⟩
 rintro n2 -
 by_cases h:i<(AZ a).length\/i<(AZ b).length\/0<c
 ·obtain⟨J,hs⟩:=lM I h
  have d1:=Tj (AZ a) i (by omega) (by omega);have d2:=Tj (AZ b) i (by omega) (by omega);unfold rL at d1 d2;have hmu:∀c',c'<=1->(max (AZ a).length (AZ b).length<=i->c'=0)->(max (AZ a).length (AZ b).length-(i+1))*2+c'<(max (AZ a).length (AZ b).length-i)*2+c:=λc' h1 h2=>by
   rcases BA i (max (AZ a).length (AZ b).length)with h3|h3
   ·omega
   ·have:=h2 h3;omega
  have hmu2:max (AZ a).length (AZ b).length<=i->((AZ a).getD i 0+(AZ b).getD i 0+c)/RB=0:=λh3=>by
   rw[Da,Db (by omega),Da,Db (by omega)];show(0+0+c)/1000000000=0;omega
  have hbnd:i<max (AZ a).length (AZ b).length+1:=by
   rcases h with h|h|h
   ·omega
   ·omega
   ·rcases BA i (max (AZ a).length (AZ b).length+1)with h3|h3
    ·exact h3
    ·exfalso
     obtain⟨len,wd,_,val,_⟩:=I;have hc:c=1:=by omega
     subst hc;rw[B7 (by omega),B7 (by omega),Dy,Dy,D6]at val;have l1:=Ic a;have l2:=Ic b;have m1:RB^(AZ a).length<=RB^max (AZ a).length (AZ b).length:=FH (by decide) (Nat.le_max_left _ _);have m2:RB^(AZ b).length<=RB^max (AZ a).length (AZ b).length:=FH (by decide) (Nat.le_max_right _ _);have m3:RB^(max (AZ a).length (AZ b).length+1)<=RB^i:=FH (by decide) h3;rw[CH]at m3;generalize RB^max (AZ a).length (AZ b).length=Q at*;change Q*1000000000<=_ at m3;omega
  have hmu3:=hmu _ J.c1 hmu2;rw[AX h];generalize hp:(AZ a).getD i 0=p at*;generalize hq:(AZ b).getD i 0=q at*;have k1:IntKind.i64.wrap ((p:Int)+(q:Int))=((p+q:Nat):Int):=by rw[wI (by omega) (by unfold RB at hs;omega)];omega
  have k2:IntKind.i64.wrap (((p+q:Nat):Int)+(c:Int))=((p+q+c:Nat):Int):=by rw[wI (by omega) (by unfold RB at hs;omega)];omega
  have k3:((p+q+c:Nat):Int).tmod 1000000000=(((p+q+c)%RB:Nat):Int):=rfl;have k4:IntKind.i64.wrap (((p+q+c:Nat):Int).tdiv 1000000000)=(((p+q+c)/RB:Nat):Int):=by
   show IntKind.i64.wrap ((((p+q+c)/1000000000:Nat)):Int)=_;exact wN (by unfold RB at hs;omega)
  have wi:IntKind.i64.wrap ((i:Int)+1)=((i+1:Nat):Int):=wI (by omega) (by omega);generalize(p+q+c)%RB=d at*;generalize(p+q+c)/RB=c' at*;have hlo:L.length<=1000001:=by rw[hL,Ac];omega
  have hmo:L++[Aa d]=(out++[d]).map Aa:=by rw[hL,Cs];rfl
  clear hmu hmu2 ea eb hL I;refine AM ?_;refine Am ?_;refine AC.seq ?_;refine AC.block ?_;refine sR 600 ?_;refine cI d1 ?_;refine cI d2 ?_;simp only[k1,k2];refine AC.seq ?_;rcases L with _|⟨x,L⟩
  all_goals
   (try simp only[Bp]at hlo)
   dsimp only[If,Ig,HT,HQ];refine An w1 700 (by kernel_rfl) ?_;refine AU k3 ?_;refine An w1 800 (by kernel_rfl) ?_;refine AU k4 ?_;refine An w1 500 (by kernel_rfl) ?_;refine AU wi ?_
  ·exact⟨(i+1,c',out++[d],[]++[Aa d],_,_),⟨J,hmo,hbnd⟩,hmu3,AK⟩
  ·have htk:List.take (L.length+1) (x::L)=x::L:=by simp
   rw[htk];refine⟨(i+1,c',out++[d],x::L++[Aa d],_,_),⟨J,hmo,hbnd⟩,hmu3,by(dsimp only;rw[Nr];exact AK)⟩
 ·rw[Ad h]
  have hc:c=0:=by omega
  subst hc;have hout:=lL I (by omega) (by omega);refine AM ?_;refine B8 ?_;refine sR 900 ?_;refine Aj ?_;refine⟨_,Qr _ _ _ _ _,?_,?_⟩
  ·rw[hL];exact OE _
  ·rw[hL,hout];rfl
set_option maxHeartbeats 4000000
theorem ub {env:Ar}{t K g T n:Nat}{l:List D}(he:env.get t=Ds K g 1 l:=by exact rfl):Wk ⟨env,Dl K g T 1 l,n⟩ ⟨[(t,.sl false 1 l)],[],n⟩:=by
 refine⟨?_,⟨?_,trivial⟩,Ai _⟩
 ·cases l with
  |nil=>exact .nil
  |cons x l=>exact .drop .nil
 ·dsimp only
  rw[he];exact Qr _ _ _ _ _
theorem pY {env:Ar}{t K g n N:Nat}{z:List Nat}{T:Nat}(hl:z.length=N)(he:env.get t=.osl K g 1 0 N:=by exact rfl):Wk ⟨env,[⟨K,g,T,1,z.map Aa⟩],n⟩ ⟨[(t,.sl false 1 (z.map Aa))],[],n⟩:=by
 subst hl;refine⟨.drop .nil,⟨?_,trivial⟩,Ai _⟩;dsimp only;rw[he]
 have:=Qs K g T 1 (z.map Aa)
 rwa [Ac]at this
theorem gZ {a v c:Nat}(ha:a<RB)(hv:v<RB)(hc:c<=1):∃d c',d<RB/\c'<=1/\d+v+c=a+RB*c'/\((c'=0/\(a:Int)-v-c=d)\/(c'=1/\(a:Int)-v-c<0/\(a:Int)-v-c+1000000000=d)):=by
 unfold RB at ha hv⊢
 by_cases h:a<v+c
 ·exact⟨a+1000000000-v-c,1,by omega,by omega,by omega,.inr ⟨rfl,by omega,by omega⟩⟩
 ·exact⟨a-v-c,0,by omega,by omega,by omega,.inl ⟨rfl,by omega⟩⟩
theorem dt (a b:Nat)(hab:b<=a)(ha:(AZ a).length<1000000):AJ C0 270 [rD a,rD b] (rD (a-b)):=by
 refine Ag.walk w1 rq rfl λF=>?_
 change AC C0 F none F _ ⟨DH 0 [.sl false 1 ((AZ a).map Aa),.sl false 1 ((AZ b).map Aa)],[],0⟩ _;have hlb:=Ib b a hab;have va:=Dy a;have vb:=Dy b;have wx:=ET a;have wy:=ET b;generalize AZ a=x at*;generalize AZ b=y at*;have ea:(((x.map Aa).length:Nat):Int)=(x.length:Int):=by rw[Ac]
 refine sR 0 ?_;refine sR 100 ?_;refine sR 200 ?_;refine AC.seq ?_;refine sR 300 ?_;refine AC.block ?_;refine AC.loop (α:=Nat×Nat×List Nat×List D×Nat×Nat) (λp=>⟨[(0,.sl false 1 (x.map Aa)),(1,.sl false 1 (y.map Aa)),(5,Ds 1103 p.2.2.2.2.1 1 p.2.2.2.1),(6,Aa p.2.1),(7,Aa p.1)],Dl 1103 p.2.2.2.2.1 3 1 p.2.2.2.1,p.2.2.2.2.2⟩)
  (λp=>x.length-p.1) (λp=>p.1<=x.length/\p.2.1<=1/\p.2.2.1.length=p.1/\Rd p.2.2.1/\AP p.2.2.1+AP (y.take p.1)=AP (x.take p.1)+RB^p.1*p.2.1/\p.2.2.2.1=p.2.2.1.map Aa) (0,0,[],[],0,_) ⟨BS _,BS _,rfl,(λx hx=>Ah hx DX),by simp[AP],rfl⟩ AK ?_
 rintro⟨i,c,out,L,g,n⟩ F ⟨hi,hc,hol,how,hI,hL⟩;dsimp only at hi hc hol how hI hL⊢;refine AC.seq ?_;refine AC.seq ?_
 by_cases h:i<x.length
 ·have e1:decide ((i:Int)<(x.length:Int))=true:=AX (by omega)
  obtain⟨p,hp⟩:=CR h;have hx:=Do hp;have hpl:=wx p (Ax hp);have d2:=Tj y i (by omega) (by omega);unfold rL at d2;have hql:=Sf wy i;have ty:=SK y i;have tx:AP (x.take (i+1))=AP (x.take i)+RB^i*p:=by rw[E3 hp,Gv (i:=i) (by rw[Bb];omega)]
  generalize y.getD i 0=q at*;obtain⟨d,c',hd,hc',hdig,hcase⟩:=gZ hpl hql hc;have k1:IntKind.i64.wrap ((p:Int)-(q:Int))=(p:Int)-q:=wI (by unfold RB at*;omega) (by unfold RB at*;omega);have k2:IntKind.i64.wrap ((p:Int)-q-(c:Int))=(p:Int)-q-c:=wI (by unfold RB at*;omega) (by unfold RB at*;omega);have wi:IntKind.i64.wrap ((i:Int)+1)=((i+1:Nat):Int):=wI (by omega) (by omega);have hlo:L.length<=1000001:=by rw[hL,Ac];omega
  have hmo:L++[Aa d]=(out++[d]).map Aa:=by rw[hL,Cs];rfl
  have hvn:AP (out++[d])+AP (y.take (i+1))=AP (x.take (i+1))+RB^(i+1)*c':=by
   rw[Gv hol,ty,tx,CH,Bx];have e3:RB^i*(d+q+c)=RB^i*(p+RB*c'):=by rw[hdig]
   rw[BM,BM,BM (RB^i) p]at e3;omega
  have how':Rd (out++[d]):=Rd.append how λx hx=>by
   simp only[BF,DX,or_false]at hx;subst hx;exact hd
  have hol':(out++[d]).length=i+1:=by rw[Bh,hol];rfl
  clear hI hL how;refine An w1 400 (by kernel_rfl) ?_;refine AU (Ae ea e1) ?_;refine AM ?_;refine Am ?_;refine AC.seq ?_;refine AC.block ?_;refine AC.seq ?_;refine B6 w1 600 [0,1,2,3,4,5,6,7,8] [9,10] (by kernel_rfl) ?_;refine AD kN ?_;refine Br kT hx ?_;refine AD kN ?_;refine BY.same _ d2 AI ?_;refine AD (Ae k1 k2) ?_;refine sR 700 ?_;refine Cz (α:=Nat) (λn=>⟨[(0,.sl false 1 (x.map Aa)),(1,.sl false 1 (y.map Aa)),(5,Ds 1103 g 1 L),(6,Aa c'),(7,Aa i),(8,Aa d)],Dl 1103 g 3 1 L,n⟩) (λ_=>True) ?_ ?_
  ·generalize Ds 1103 g 1 L=od at*
   generalize Dl 1103 g 3 1 L=oh at*;refine AC.seq ?_;rcases hcase with⟨rfl,h2⟩|⟨rfl,h2,h3⟩
   ·have e2:decide ((p:Int)-q-c<0)=false:=Ad (by omega)
    rw[h2]at e2;rw[h2];refine An w1 800 (by kernel_rfl) ?_;refine AU e2 ?_;refine AM ?_;refine Am ?_;exact⟨rfl,_,trivial,AK⟩
   ·have e2:decide ((p:Int)-q-c<0)=true:=AX h2
    have k3:IntKind.i64.wrap ((p:Int)-q-c+1000000000)=(d:Int):=by rw[h3];exact wI (by unfold RB at*;omega) (by unfold RB at*;omega)
    refine An w1 800 (by kernel_rfl) ?_;refine AU e2 ?_;refine AM ?_;refine sZ 900 ?_;refine AU k3 ?_;refine rI 1000 ?_;exact⟨rfl,_,trivial,AK⟩
  rintro n3 -;rcases L with _|⟨x0,L⟩
  all_goals
   (try simp only[Bp]at hlo)
   dsimp only[If,Ig,HT,HQ];refine rI 1100 ?_;refine An w1 500 (by kernel_rfl) ?_;refine AU wi ?_
  ·exact⟨(i+1,c',out++[d],[]++[Aa d],_,_),⟨h,hc',hol',how',hvn,hmo⟩,by dsimp only;omega,AK⟩
  ·have htk:List.take (L.length+1) (x0::L)=x0::L:=by simp
   rw[htk];refine⟨(i+1,c',out++[d],x0::L++[Aa d],_,_),⟨h,hc',hol',how',hvn,hmo⟩,by dsimp only;omega,by(dsimp only;rw[Nr];exact AK)⟩
 ·have e1:decide ((i:Int)<(x.length:Int))=false:=Ad (by omega)
  have hix:i=x.length:=by omega
  subst hix;rw[B7 (by omega),B7 (by omega),va,vb]at hI;have hlt:=Fy how;rw[hol]at hlt;have hxl:=Fy wx;rw[va]at hxl;have hov:AP out=a-b:=by
   rcases Dh c with h|h
   ·subst h;rw[EQ]at hI;omega
   ·have:c=1:=by omega
    subst this;rw[D6]at hI;omega
  refine An w1 400 (by kernel_rfl) ?_;refine AU (Ae ea e1) ?_;refine AM ?_;refine B8 ?_;refine AC.weak ⟨[(5,.sl false 1 L)],[],_⟩ ub ?_;rw[hL];refine sR 1200 ?_;refine A9.same _ (LW out how (by omega)) AI ?_;refine BO ?_;refine Aj ?_;exact AL (by rw[hov]) AA.out
theorem Uz (a b:Nat)(hla:(AZ a).length<1000000)(hlb:(AZ b).length<1000000):AJ C0 178 [rD a,rD b] (rD (a*b)):=by
 refine Ag.walk w1 qc rfl λF=>?_
 change AC C0 F none F _ ⟨DH 0 [.sl false 1 ((AZ a).map Aa),.sl false 1 ((AZ b).map Aa)],[],0⟩ _;have va:=Dy a;have vb:=Dy b;have ha:=ET a;have hb:=ET b;generalize AZ a=x at*;generalize AZ b=y at*;subst va;subst vb;have ea:(((x.map Aa).length:Nat):Int)=(x.length:Int):=by rw[Ac]
 have eb:(((y.map Aa).length:Nat):Int)=(y.length:Int):=by rw[Ac]
 have wl:IntKind.i64.wrap ((x.length:Int)+(y.length:Int))=((x.length+y.length:Nat):Int):=by rw[wI (by omega) (by omega)];omega
 have r3:List.replicate (x.length+y.length) (ofV (.int .i64 0))=(List.replicate (x.length+y.length) 0).map Aa:=by rw[Jk];rfl
 refine sR 0 ?_;refine sZ 100 ?_;refine AU (BV ea eb wl kN) ?_;refine AC.seq ?_;refine sR 200 ?_;refine AC.block ?_;refine AC.loop (α:=Nat×List Nat×Nat) (λp=>⟨[(0,.sl false 1 (x.map Aa)),(1,.sl false 1 (y.map Aa)),(5,.osl 105 6 1 0 (x.length+y.length)),(6,i64 p.1)],[⟨105,6,3,1,p.2.1.map Aa⟩],p.2.2⟩) (λp=>x.length-p.1)
  (λp=>p.1<=x.length/\p.2.1.length=x.length+y.length/\Rd p.2.1/\AP p.2.1=AP (x.take p.1)*AP y/\∀k,p.1+y.length<=k->∀d,p.2.1[k]?=some d->d=0) (0,List.replicate (x.length+y.length) 0,_)
  ⟨BS _,by simp,SU _,by simp[AP,Vs],λk _ d hd=>PA (Ax hd)⟩ (by rw[<-r3];exact AK) ?_
 rintro⟨i,o,m⟩ F ⟨h1,h2,h3,h4,h5⟩;dsimp only at h1 h2 h3 h4 h5⊢;refine AC.seq ?_;refine AC.seq ?_
 by_cases hi:i<x.length
 ·have e1:decide ((i:Int)<(x.length:Int))=true:=AX (by omega)
  obtain⟨p,hp⟩:=CR hi;have hp':=Do hp;have hpl:p<RB:=ha p (Ax hp);have wi:IntKind.i64.wrap ((i:Int)+1)=((i+1:Nat):Int):=wI (by omega) (by omega);have hax:AP (x.take (i+1))=AP (x.take i)+RB^i*p:=by rw[E3 hp,Gv (i:=i) (by rw[Bb];omega)]
  refine An w1 300 (by kernel_rfl) ?_;refine AU (Ae ea e1) ?_;refine AM ?_;refine Am ?_;refine AC.seq ?_;refine AC.block ?_;refine sR 500 ?_;refine AC.seq ?_;refine sR 600 ?_;refine AC.block ?_;refine AC.loop (α:=Nat×Nat×List Nat×Nat) (λq=>⟨[(0,.sl false 1 (x.map Aa)),(1,.sl false 1 (y.map Aa)),(5,.osl 105 6 1 0 (x.length+y.length)),(6,i64 i),(7,Aa q.2.1),(8,i64 q.1)],[⟨105,6,3,1,q.2.2.1.map Aa⟩],q.2.2.2⟩) (λq=>y.length-q.1)
   (λq=>q.1<=y.length/\q.2.1<RB/\q.2.2.1.length=x.length+y.length/\Rd q.2.2.1/\AP q.2.2.1+RB^(i+q.1)*q.2.1=AP (x.take i)*AP y+RB^i*p*AP (y.take q.1)/\∀k,i+y.length<=k->∀d,q.2.2.1[k]?=some d->d=0) (0,0,o,_)
   ⟨BS _,(show 0<RB by decide),h2,h3,by simp[AP,h4],h5⟩ AK ?_
  rintro⟨j,c,q,m2⟩ F ⟨g1,g2,g3,g4,g5,g6⟩;dsimp only at g1 g2 g3 g4 g5 g6⊢;clear h2 h3 h4 h5 r3 wl;refine AC.seq ?_;refine AC.seq ?_
  by_cases hj:j<y.length
  ·have e2:decide ((j:Int)<(y.length:Int))=true:=AX (by omega)
   obtain⟨r,hr⟩:=CR hj;have hr':=Do hr;have hrl:r<RB:=hb r (Ax hr);obtain⟨z,hz⟩:=CR (l:=q) (i:=i+j) (by omega);have hz':=Do hz;have hzl:z<RB:=g4 z (Ax hz);have wj:IntKind.i64.wrap ((j:Int)+1)=((j+1:Nat):Int):=wI (by omega) (by omega);have wij:IntKind.i64.wrap ((i:Int)+(j:Int))=((i+j:Nat):Int):=by rw[wI (by omega) (by omega)];omega
   have hbx:AP (y.take (j+1))=AP (y.take j)+RB^j*r:=by rw[E3 hr,Gv (i:=j) (by rw[Bb];omega)]
   have hpr:p*r<=999999999*999999999:=IW (by unfold RB at hpl;omega) (by unfold RB at hrl;omega);have k0:IntKind.i64.wrap ((p:Int)*(r:Int))=((p*r:Nat):Int):=by rw[<-Fr,wI (by omega) (by omega)]
   have k1:IntKind.i64.wrap ((z:Int)+((p*r:Nat):Int))=((z+p*r:Nat):Int):=by rw[wI (by omega) (by unfold RB at*;omega)];omega
   have k2:IntKind.i64.wrap (((z+p*r:Nat):Int)+(c:Int))=((z+p*r+c:Nat):Int):=by rw[wI (by omega) (by unfold RB at*;omega)];omega
   have hs:=Nf (d:=(z+p*r+c)%RB) hz;have e:=Eg (z+p*r+c) RB;have hq:(z+p*r+c)/RB<RB:=Ew (by unfold RB at*;omega);have hd:(z+p*r+c)%RB<RB:=B0 _ (by decide);have k3:((z+p*r+c:Nat):Int).tmod 1000000000=(((z+p*r+c)%RB:Nat):Int):=rfl;have k4:IntKind.i64.wrap (((z+p*r+c:Nat):Int).tdiv 1000000000)=(((z+p*r+c)/RB:Nat):Int):=by
    show IntKind.i64.wrap ((((z+p*r+c)/1000000000:Nat)):Int)=_;exact wN (by change(z+p*r+c)/RB<=_;unfold RB at hq⊢;omega)
   have hval:AP (q.set (i+j) ((z+p*r+c)%RB))+RB^(i+(j+1))*((z+p*r+c)/RB)=AP (x.take i)*AP y+RB^i*p*AP (y.take (j+1)):=by
    rw[hbx,BM,<-EP (AP (x.take i)*AP y),<-g5];have h6:RB^(i+j)*((z+p*r+c)%RB)+RB^(i+(j+1))*((z+p*r+c)/RB)=RB^i*p*(RB^j*r)+RB^(i+j)*z+RB^(i+j)*c:=by
     have:RB^i*p*(RB^j*r)=RB^(i+j)*(p*r):=by
      rw[Fu,Bx,Bx,IU p]
     rw[this,<-EP i j 1,CH,Bx,<-BM,<-BM,<-BM,e]
     congr 1;omega
    omega
   generalize(z+p*r+c)%RB=d at*;generalize(z+p*r+c)/RB=c' at*;clear hs e g5 hax hbx;refine An w1 700 (by kernel_rfl) ?_;refine AU (Ae eb e2) ?_;refine AM ?_;refine Am ?_;refine AC.seq ?_;refine AC.block ?_;refine AC.seq ?_;refine B6 w1 900 [0,1,2,3,4,5,6,7,8,9,10,11,12,13,14,15,16] [17,18] (by kernel_rfl) ?_;refine AD (BV wij kN BR hz') ?_;refine Br kT hp' ?_;refine AD (BV wij kN BR hz') ?_;refine Br kT hr' ?_;refine AD (As k0 k1 k2) ?_;refine sZ 1000 ?_;refine AD (CE wij kN BR hz' k3) ?_;rw[Mi];refine An w1 1100 (by kernel_rfl) ?_;refine AU k4 ?_;refine An w1 800 (by kernel_rfl) ?_;refine AU wj ?_;refine⟨(j+1,c',q.set (i+j) d,_),⟨hj,hq,by dsimp only;rw[DQ];exact g3,g4.set hd,hval,λk hk d hd=>?_⟩,by dsimp only;omega,AK⟩;dsimp only at hk hd;rw[IQ (by omega)]at hd;exact g6 k hk d hd
  ·have e2:decide ((j:Int)<(y.length:Int))=false:=Ad (by omega)
   have hj:j=y.length:=by omega
   subst hj;obtain⟨z,hz⟩:=CR (l:=q) (i:=i+y.length) (by omega);have hz0:z=0:=g6 _ (Ai _) _ hz;subst hz0;have hz':=Do hz;have wij:IntKind.i64.wrap ((i:Int)+(y.length:Int))=((i+y.length:Nat):Int):=by rw[wI (by omega) (by omega)];omega
   have wij0:IntKind.i64.wrap ((i:Int)+(((y.map Aa).length:Nat):Int))=((i+y.length:Nat):Int):=by rw[eb];exact wij
   have k1:IntKind.i64.wrap (((0:Nat):Int)+(c:Int))=(c:Int):=by rw[wI (by omega) (by unfold RB at*;omega)];omega
   have hs:=Nf (d:=c) hz;rw[B7 (Ai _)]at g5;have hval:AP (q.set (i+y.length) c)=AP (x.take (i+1))*AP y:=by
    rw[hax,Bs];omega
   clear hs g5 hax;refine An w1 700 (by kernel_rfl) ?_;refine AU (Ae eb e2) ?_;refine AM ?_;refine B8 ?_;refine An w1 1200 (by kernel_rfl) ?_;refine AD (Dj eb wij kN BR hz' k1) ?_;rw[Mi];refine An w1 400 (by kernel_rfl) ?_;refine AU wi ?_;refine⟨(i+1,q.set (i+y.length) c,_),⟨hi,by dsimp only;rw[DQ];exact g3,g4.set g2,hval,λk hk d hd=>?_⟩,by dsimp only;omega,AK⟩;dsimp only at hk hd;rw[IQ (by omega)]at hd;exact g6 k (by omega) d hd
 ·have e1:decide ((i:Int)<(x.length:Int))=false:=Ad (by omega)
  have hi:i=x.length:=by omega
  subst hi;rw[B7 (Ai _)]at h4;refine An w1 300 (by kernel_rfl) ?_;refine AU (Ae ea e1) ?_;refine AM ?_;refine B8 ?_;refine AC.weak ⟨[(5,.sl false 1 (o.map Aa))],[],_⟩ (pY h2) ?_;refine sR 1300 ?_;refine A9.same _ (LW o h3 (by omega)) AI ?_;refine BO ?_;refine Aj ?_;exact AL (by rw[h4]) AA.out
theorem On (a b:Nat)(h:a/b<=9223372036854775807):IntKind.i64.wrap ((a:Int).tdiv (b:Int))=((a/b:Nat):Int):=by
 rw[<-Int.ofNat_tdiv];exact wN h
theorem RP (a b:Nat):(a:Int).tmod (b:Int)=((a%b:Nat):Int):=(Int.ofNat_tmod a b).symm
theorem mI {env:Ar}{t K g n N t2:Nat}{z:List Nat}{T:Nat}{d2:D}(hl:z.length=N)(he:env.get t=.osl K g 1 0 N:=by exact rfl)(h2:env.get t2=d2:=by exact rfl):Wk ⟨env,[⟨K,g,T,1,z.map Aa⟩],n⟩ ⟨[(t,.sl false 1 (z.map Aa)),(t2,d2)],[],n⟩:=by
 subst hl;refine⟨.drop .nil,⟨?_,?_,trivial⟩,Ai _⟩
 ·dsimp only
  rw[he]
  have:=Qs K g T 1 (z.map Aa)
  rwa [Ac]at this
 ·dsimp only
  rw[h2];exact .refl _
theorem l9 {r p d:Nat}(h:r*RB+p<d*RB)(hd:d<RB):IntKind.i64.wrap ((r:Int)*1000000000)=((r*RB:Nat):Int)/\IntKind.i64.wrap (((r*RB:Nat):Int)+(p:Int))=((r*RB+p:Nat):Int):=by
 unfold RB at*;refine⟨?_,?_⟩
 ·rw[wI (by omega) (by omega)];omega
 ·rw[wI (by omega) (by omega)];omega
theorem WF (a d:Nat)(hd:0<d)(hdl:d<RB)(hl:(AZ a).length<1000000):AJ C0 227 [rD a,Aa d] (.tup [rD (a/d),Aa (a%d)]):=by
 refine Ag.walk w1 rM rfl λF=>?_
 change AC C0 F none F _ ⟨DH 0 [.sl false 1 ((AZ a).map Aa),Aa d],[],0⟩ _;have va:=Dy a;have wa:=ET a;generalize AZ a=x at*;have ea:(((x.map Aa).length:Nat):Int)=(x.length:Int):=by rw[Ac]
 have wl:IntKind.i64.wrap ((x.length:Int)-1)=(x.length:Int)-1:=wI (by omega) (by omega);have r3:List.replicate x.length (ofV (.int .i64 0))=(List.replicate x.length 0).map Aa:=by rw[Jk];rfl
 have d0:¬(d:Int)=0:=by omega
 refine sR 0 ?_;refine sZ 100 ?_;refine AU (Ae ea kN) ?_;refine sR 200 ?_;refine AC.seq ?_;refine sZ 300 ?_;refine AU (Ae ea wl) ?_;refine AC.block ?_;refine AC.loop (α:=Nat×Nat×List Nat×Nat) (λp=>⟨[(0,.sl false 1 (x.map Aa)),(1,Aa d),(6,.osl 102 4 1 0 x.length),(7,Aa p.2.1),(8,i64 ((p.1:Int)-1))],[⟨102,4,3,1,p.2.2.1.map Aa⟩],p.2.2.2⟩) (λp=>p.1)
  (λp=>p.1<=x.length/\p.2.1<d/\p.2.2.1.length=x.length/\Rd p.2.2.1/\AP (p.2.2.1.drop p.1)*d+p.2.1=AP (x.drop p.1)) (x.length,0,List.replicate x.length 0,_)
  ⟨Ai _,hd,by simp,SU _,by simp[AP]⟩ (by rw[<-r3];exact AK) ?_
 rintro⟨k,r,q,m⟩ F ⟨h1,h2,h3,h4,h5⟩;dsimp only at h1 h2 h3 h4 h5⊢;clear ea wl r3;refine AC.seq ?_;refine sR 400 ?_;refine AM ?_
 (refine Bw (λh20=>?_) (λh20=>?_))<;>(try simp only[Bi,Bv]at h20)<;>(try simp only[h20])
 ·obtain⟨j,rfl⟩:∃j,k=j+1:=⟨k-1,by
   have:=DA h20
   omega⟩
  have wj:((j+1:Nat):Int)-1=(j:Int):=by omega
  obtain⟨p,hp⟩:=CR (l:=x) (i:=j) (by omega);obtain⟨z,hz⟩:=CR (l:=q) (i:=j) (by omega);have hp':=Do hp;have hz':=Do hz;have hpl:=wa p (Ax hp);obtain⟨J1,J2⟩:=gS hd hp (by omega) h5;have hsb:r*RB+p<d*RB:=by
   have:(r+1)*RB<=d*RB:=CG _ h2
   rw[Bs]at this;omega
  have hql:(r*RB+p)/d<RB:=Ew hsb;obtain⟨k1,k2⟩:=l9 hsb hdl;have k3:=On (r*RB+p) d (BU (Jh hql) (by decide));have k4:=RP (r*RB+p) d;have wi:IntKind.i64.wrap ((j:Int)-1)=(j:Int)-1:=wI (by omega) (by omega);generalize(r*RB+p)/d=e at*;generalize(r*RB+p)%d=r' at*;rw[wj];refine Am ?_;refine AC.seq ?_;refine AC.block ?_;refine sZ 600 ?_;refine AD kN ?_;refine Br kT hp' ?_;refine AD (Ae k1 k2) ?_;refine sZ 700 ?_;refine AD (BV kN BR hz' k3) ?_;rw[Mi];refine An w1 800 (by kernel_rfl) ?_;refine AU k4 ?_;refine An w1 500 (by kernel_rfl) ?_;refine AU wi ?_;exact⟨(j,r',q.set j e,_),⟨by dsimp only;omega,J2,by dsimp only;rw[DQ];exact h3,h4.set hql,J1⟩,by dsimp only;omega,AK⟩
 ·have hk:k=0:=by
   have:=DL h20
   omega
  subst hk;rw[FG,FG,va]at h5;obtain⟨q1,q2⟩:=P2 h5 h2;refine B8 ?_;refine AC.weak ⟨[(6,.sl false 1 (q.map Aa)),(7,Aa r)],[],_⟩ (mI h3) ?_;refine sR 900 ?_;refine A9.same _ (LW q h4 (by omega)) AI ?_;refine BO ?_;refine Aj ?_;exact AL (by rw[q1,q2]) AA.out
structure JJ (U V n2 v1 p1 q r:Nat):Prop where
 eq:q*v1+r=n2
 up:U<(q+1)*V
 cap:n2<=v1*RB+p1
 p1l:p1<RB
namespace JJ
variable {U V n2 v1 p1 q r:Nat} (G:JJ U V n2 v1 p1 q r)
include G
theorem small (h:RB<=r):q<RB:=by
 rcases BA q RB with h1|h1
 ·exact h1
 ·exfalso
  have h2:=CG v1 h1;have h3:=G.eq;have h4:=G.cap;have h5:=G.p1l;rw[BQ RB v1]at h2;omega
theorem qle (hv:0<v1):q<=2*RB:=by
 rcases BA (2*RB) q with h1|h1
 ·exfalso
  have h2:=CG v1 h1;have h3:=G.eq;have h4:=G.cap;have h5:=G.p1l;have h6:RB*1<=RB*v1:=CY _ hv;rw[Nat.succ_mul,Bx,BQ RB v1]at h2;rw[BQ RB v1]at h6;omega
 ·exact h1
end JJ
section
variable {P v:List Nat} {m p0 p1 p2 v2 v1:Nat} (S:KR P v m p0 p1 p2 v2 v1)
include S
theorem gP:JJ (AP P) (AP v) (p1+RB*p2) v1 p1 ((p2*RB+p1)/v1) ((p2*RB+p1)%v1):=by
 have c0:p2*RB+p1=p1+RB*p2:=by rw[BQ,Kp]
 rw[c0];have e:=ER (p1+RB*p2) v1;have l:=B0 (p1+RB*p2) S.top;have c1:=BQ v1 ((p1+RB*p2)/v1);refine⟨by omega,WB S.below2 S.abovev ?_,?_,S.p1l⟩
 ·rw[Bs];omega
 ·have:=CY RB S.p2v1
  rw[BQ v1];omega
theorem gT {q r:Nat}(G:JJ (AP P) (AP v) (p1+RB*p2) v1 p1 q r)(h:RB<=q\/r*RB+p0<q*v2):0<q/\JJ (AP P) (AP v) (p1+RB*p2) v1 p1 (q-1) (r+v1):=by
 obtain⟨e,u,cp,pl⟩:=G;have hq:0<q:=by
  rcases h with h|h
  ·unfold RB at h;omega
  ·rcases Dh q with h0|h0
   ·subst h0;omega
   ·exact h0
 obtain⟨k,rfl⟩:∃k,q=k+1:=⟨q-1,by omega⟩
 refine⟨hq,⟨?_,?_,cp,pl⟩⟩
 ·rw[IT,<-e,Bs];omega
 ·rw[IT]
  rcases h with h|h
  ·have h1:AP v*RB<=(k+1)*AP v:=by rw[BQ];exact CG _ h
   have:=S.less
   omega
  ·have e2:(k+1)*(v2+RB*v1)=(k+1)*v2+RB*((k+1)*v1):=by rw[BM,IU]
   refine WN S.below3 S.abovev2 ?_;rw[e2,<-e,BM RB,BQ RB r];omega
theorem WC {q r:Nat}(G:JJ (AP P) (AP v) (p1+RB*p2) v1 p1 q r)(h:RB<=r\/(q<RB/\q*v2<=r*RB+p0)):q<RB/\q*AP v<=AP P+AP v:=by
 have hqB:q<RB:=by
  rcases h with h|h
  ·exact G.small h
  ·exact h.1
 obtain⟨e,u,cp,pl⟩:=G;have h5:=S.v2l;have hq:q*v2<=r*RB+p0:=by
  rcases h with h|h
  ·have h2:q*v2<=RB*RB:=IW (by omega) (by omega)
   have h3:RB*RB<=r*RB:=CG _ h;omega
  ·exact h.2
 have e2:q*(v2+RB*v1)=q*v2+RB*(q*v1):=by rw[BM,IU]
 refine⟨hqB,W8 (n3:=p0+RB*(p1+RB*p2)) (D:=v2+RB*v1) (P:=RB^m) (B:=RB) (v:=AP (v.take m)) ?_ ?_ S.lowv ?_ (by omega) ?_⟩
 ·rw[S.valP,BQ];omega
 ·rw[S.valv,BQ];omega
 ·rw[e2,<-e,BM RB,BQ RB r]
  omega
 ·have:=S.top
  have h1:=CY RB (show 1<=v1 from this);omega
end
theorem DM.of {H:Hp}{d0 d:D}(h:Fz H [] d0 d):DM H d0 d:=λ_ _ _ _ m hO hN _ hv=>h.rep m hO (λe he b hb _=>hN e he b hb) hv
theorem yg {C:BC}{f:Nat}{ds ds':List D}{Φ:D->Prop}{H:Hp}{n:Nat}(hc:Ag C f ds' Φ)(hl:ds'.length=ds.length)(hv:∀(i:Nat) (a b:D),ds[i]?=some a->ds'[i]?=some b->DM H a b)
  (hp:Ak ds') (hflat:∀d,Φ d->Ja d):Ca C f ds H n (λd' H' n'=>Φ d'/\H'=H/\n'=n+1):=by
 refine⟨hc.1,λF ρ w vs m hfr hg hvs hr=>?_⟩;have hH:Ci H [] H []:=by
  generalize H=H0
  have:∀H1:Hp,Ci H0 [] H1 []:=λH1=>by
   induction H1 with
   |nil=>exact .nil
   |cons e r ih=>exact .drop ih
  exact this H0
 obtain⟨m',hO,hN⟩:=hH.mem m;refine(hc.2 (AN F.X ρ []) w vs m.g (BU m.gn m.size) (λb hb=>m'.own_lt hb) (by omega) λi x hx=>?_).mono ?_
 ·have hi:i<ds'.length:=(List.getElem?_eq_some_iff.1 hx).1
  have hd0:ds[i]?=some ds[i]:=BE (by omega);exact hp.out x (Ax hx) _ _ _ _ _ (hv i _ x hd0 hx C F ρ w m hO (λe he b hb=>hN e he b hb rfl) _ (hr i _ hd0))
 ·rintro e w' ⟨v,d',rfl,hb,hd',rep⟩
  have x:BT ρ (AN F.X ρ H) w ρ (AN F.X ρ H) w':=⟨hb.size,λ_ _ _ h=>h,λb hb' hO=>⟨hO,hb.block b hb'⟩,λb cs T fz hh=>⟨cs,_,by
   rw[hb.block b (Array.getElem?_eq_some_iff.1 hh).1];exact hh,rfl⟩⟩
  exact⟨v,_,H,n+1,ρ,rfl,⟨hd',rfl,rfl⟩,m.same x hb.os hb.tape hb.output hb.block,x,λk g hg'=>hfr k g (by omega),λe he=>DE (hg e he),hflat _ hd' _ _ _ _ _ _ _ rep⟩
def Xf (P v:List Nat)(d:D):Prop:=∃q,d=Aa q/\q<RB/\AP P<(q+1)*AP v/\q*AP v<=AP P+AP v
theorem kI {p2 p1 v1:Nat}(h1:p1<RB)(h2:p2<RB):IntKind.i64.wrap ((p2:Int)*1000000000)=((p2*RB:Nat):Int)/\IntKind.i64.wrap (((p2*RB:Nat):Int)+(p1:Int))=((p2*RB+p1:Nat):Int) /\
  IntKind.i64.wrap (((p2*RB+p1:Nat):Int).tdiv (v1:Int))=(((p2*RB+p1)/v1:Nat):Int):=by
 have h3:=Gn (p2*RB+p1) v1;unfold RB at*;refine⟨?_,?_,?_⟩
 ·rw[wI (by omega) (by omega)];omega
 ·rw[wI (by omega) (by omega)];omega
 ·exact On _ _ (by omega)
theorem iu {t r v2 p0:Nat}(ht:t<RB)(hr:r<RB)(h2:v2<RB)(h0:p0<RB):IntKind.i64.wrap ((t:Int)*(v2:Int))=((t*v2:Nat):Int)/\IntKind.i64.wrap ((r:Int)*1000000000)=((r*RB:Nat):Int) /\
  IntKind.i64.wrap (((r*RB:Nat):Int)+(p0:Int))=((r*RB+p0:Nat):Int):=by
 have h3:t*v2<=999999999*999999999:=IW (by unfold RB at ht;omega) (by unfold RB at h2;omega);unfold RB at*;refine⟨?_,?_,?_⟩
 ·rw[<-Fr,wI (by omega) (by omega)]
 ·rw[wI (by omega) (by omega)];omega
 ·rw[wI (by omega) (by omega)];omega
theorem ox {t v2 r p0:Nat}(h:t<RB):decide (((t*v2:Nat):Int)>((r*RB+p0:Nat):Int))=decide (RB<=t\/r*RB+p0<t*v2):=
 C4.2 ⟨λh1=>.inr (Int.ofNat_lt.1 h1),λh1=>Int.ofNat_lt.2 (h1.resolve_left (Nat.not_le.2 h))⟩
theorem oy {t v2 r p0:Nat}(h:¬(RB<=t\/r*RB+p0<t*v2)):t<RB/\t*v2<=r*RB+p0:=⟨Nat.lt_of_not_le λh1=>h (.inl h1),Nat.le_of_not_lt λh1=>h (.inr h1)⟩
theorem pD {P v:List Nat}{m p0 p1 p2 v2 v1:Nat}(S:KR P v m p0 p1 p2 v2 v1):∃a1 T q0 r0:Nat,IntKind.i64.wrap ((p2:Int)*1000000000)=(a1:Int)/\IntKind.i64.wrap ((a1:Int)+(p1:Int))=(T:Int) /\
  IntKind.i64.wrap ((T:Int).tdiv (v1:Int))=(q0:Int)/\(T:Int).tmod (v1:Int)=(r0:Int)/\JJ (AP P) (AP v) (p1+RB*p2) v1 p1 q0 r0/\r0<RB:=by
 obtain⟨k1,k2,k3⟩:=kI (v1:=v1) S.p1l S.p2l;exact⟨_,_,_,_,k1,k2,k3,RP _ v1,gP S,Ft (B0 _ S.top) S.v1l⟩
theorem mR {t r v2 p0:Nat}(ht:t<RB)(hr:r<RB)(h2:v2<RB)(h0:p0<RB):∃a1 a2 a3:Nat,IntKind.i64.wrap ((t:Int)*(v2:Int))=(a3:Int)/\IntKind.i64.wrap ((r:Int)*1000000000)=(a1:Int) /\
  IntKind.i64.wrap ((a1:Int)+(p0:Int))=(a2:Int)/\decide ((a3:Int)>(a2:Int))=decide (RB<=t\/r*RB+p0<t*v2):=by
 obtain⟨q1,q2,q3⟩:=iu ht hr h2 h0;exact⟨_,_,_,q1,q2,q3,ox ht⟩
theorem nC (U v:List Nat)(j m p0 p1 p2 v2 v1:Nat)(S:KR ((U.drop j).take (m+3)) v m p0 p1 p2 v2 v1)(hj:j+(m+3)<=U.length)(hU:U.length<4000000):Ag C0 229 [rL U,rL v,Aa j] (Xf ((U.drop j).take (m+3)) v):=by
 refine Ag.walk w1 sW rfl λF=>?_
 unfold rL;have hg:∀ {k p:Nat},((U.drop j).take (m+3))[k]?=some p->U[j+k]?=some p:=λ{k p} h=>by
  rw[Ee]at h;split at h
  ·rwa [GO]at h
  ·cases h
 have u0:=Do (hg S.h0);have u1:=Do (hg S.h1);have u2:=Do (hg S.h2);have y1:=Do S.g1;have y2:=Do S.g2;have l0:=S.p0l;have l1:=S.p1l;have l2:=S.p2l;have lv1:=S.v1l;have lv2:=S.v2l;have ev:(((v.map Aa).length:Nat):Int)=((m+2:Nat):Int):=by rw[Ac,S.lv]
 have eu:(((U.map Aa).length:Nat):Int)=(U.length:Int):=by rw[Ac]
 have w0:IntKind.i64.wrap ((j:Int)+((m+2:Nat):Int))=((j+(m+2):Nat):Int):=by rw[wI (by omega) (by omega)];omega
 have wa:IntKind.i64.wrap (((j+(m+2):Nat):Int)-1)=((j+(m+1):Nat):Int):=by rw[wI (by omega) (by omega)];omega
 have wb:IntKind.i64.wrap (((j+(m+2):Nat):Int)-2)=((j+m:Nat):Int):=by rw[wI (by omega) (by omega)];omega
 have wc:IntKind.i64.wrap (((m+2:Nat):Int)-1)=((m+1:Nat):Int):=by rw[wI (by omega) (by omega)];omega
 have wd:IntKind.i64.wrap (((m+2:Nat):Int)-2)=(m:Int):=by rw[wI (by omega) (by omega)];omega
 have ra:IntKind.i64.wrap (IntKind.i64.wrap ((j:Int)+((m+2:Nat):Int))-1)=((j+(m+1):Nat):Int):=by rw[w0,wa]
 have rb:IntKind.i64.wrap (IntKind.i64.wrap ((j:Int)+((m+2:Nat):Int))-2)=((j+m:Nat):Int):=by rw[w0,wb]
 obtain⟨a1,T,q0,r0,k1,k2,k3,k4,G0,hr0⟩:=pD S;have v0:¬(v1:Int)=0:=by have:=S.top;omega
 have hvl:=S.lv;refine sR 0 ?_;refine sZ 100 ?_;refine AU ev ?_;refine AC.seq ?_;refine B6 w1 200 [0,1,2,3,4,5,6,7,8,9,10,11,12,13] [14,15] (by kernel_rfl) ?_;refine AD (BV w0 wa ra kN) ?_;refine Br kT u2 ?_;refine AD (BV w0 wa ra kN) ?_;refine Br kT u1 ?_;refine AD (Dj w0 wa ra kN k1 k2) ?_;refine AC.seq ?_;refine B6 w1 300 [0,1,2,3,4,5,6,7,8,9,10,11,12,13,14] [15] (by kernel_rfl) ?_;refine AD (Ae wc kN) ?_;refine Br kT y1 ?_;refine AD (Ae wc kN) ?_;refine Br kT y1 ?_;refine AD (BV wc kN k3 k4) ?_;refine Cz (α:=Nat×Nat) (λp=>⟨[(9,Aa p.1)],[],p.2⟩) (λp=>p.1<RB/\AP ((U.drop j).take (m+3))<(p.1+1)*AP v/\p.1*AP v<=AP ((U.drop j).take (m+3))+AP v) ?_ ?_
 ·refine AC.block ?_
  refine GN (α:=Nat×Nat×Nat) (λp=>⟨[(0,.sl false 1 (U.map Aa)),(1,.sl false 1 (v.map Aa)),(2,Aa j),(7,i64 ((m+2:Nat):Int)),(9,Aa p.1),(10,Aa p.2.1)],[],p.2.2⟩) (λp=>p.1)
   (λp F'=>F'=F/\JJ (AP ((U.drop j).take (m+3))) (AP v) (p1+RB*p2) v1 p1 p.1 p.2.1/\p.2.1<RB) (q0,r0,_) ⟨rfl,G0,hr0⟩ AK ?_
  rintro⟨t,r,n⟩ F' ⟨rfl,G,hr⟩;dsimp only at G hr⊢;clear G0 hr0 k1 k2 k3 k4 u1 u2 ra wa;have htl:=G.qle S.top;obtain⟨b,hb⟩:∃b,b=decide (RB<=t\/r*RB+p0<t*v2):=⟨_,rfl⟩
  refine AC.seq ?_;refine Cz (α:=Nat) (λn=>⟨[(0,.sl false 1 (U.map Aa)),(1,.sl false 1 (v.map Aa)),(2,Aa j),(7,i64 ((m+2:Nat):Int)),(9,Aa t),(10,Aa r),(63,Ap b)],[],n⟩) (λ_=>True) ?_ ?_
  ·rcases BA t RB with h|h
   ·have e1:decide ((t:Int)>=1000000000)=false:=Ad (by unfold RB at h;omega)
    obtain⟨a1,a2,a3,q1,q2,q3,q4⟩:=mR h hr lv2 l0;rw[<-hb]at q4;clear hb;rw[<-q4];refine B6 w1 400 [0,1,2,3,4,5,6,7,8,9,10,11,12,13,14,15,16,17,18,19] [20,21] (by kernel_rfl) ?_;refine AD e1 ?_;refine AD (As kF wd kN) ?_;refine Br kF y2 ?_;refine AD (CE kF w0 wb rb kN) ?_;refine Br kF u0 ?_;refine AD (BV kF q1 q2 q3) ?_;refine AD kF ?_;exact⟨trivial,_,trivial,AK⟩
   ·have e1:decide ((t:Int)>=1000000000)=true:=AX (by unfold RB at h;omega)
    have e2:b=true:=hb.trans (AX (.inl h));subst e2;refine B6 w1 400 [0,1,2,3,4,5,6,7,8,9,10,11,12,13,14,15,16,17,18,19] [20,21] (by kernel_rfl) ?_;refine AD e1 ?_;refine AD kT ?_;refine AD kT ?_;exact⟨trivial,_,trivial,AK⟩
  rintro n2 -;cases b with
  |true=>
   have hc:=DA hb.symm;obtain⟨t0,G2⟩:=gT S G hc;have j1:IntKind.i64.wrap ((t:Int)-1)=((t-1:Nat):Int):=by rw[wI (by omega) (by unfold RB at htl;omega)];omega
   have j2:IntKind.i64.wrap ((r:Int)+(v1:Int))=((r+v1:Nat):Int):=by rw[wI (by omega) (by unfold RB at hr lv1;omega)];omega
   clear hc hb;refine AM ?_;refine Am ?_;refine AC.block ?_;refine sZ 500 ?_;refine AU j1 ?_;refine sZ 600 ?_;refine AD (Ae wc kN) ?_;refine Br kT y1 ?_;refine AD j2 ?_;refine AC.seq ?_;rcases BA (r+v1) RB with h|h
   ·have e3:decide (((r+v1:Nat):Int)>=1000000000)=false:=Ad (by unfold RB at h;omega)
    refine An w1 700 (by kernel_rfl) ?_;refine AU e3 ?_;refine AM ?_;refine Am ?_;exact⟨(t-1,r+v1,_),⟨rfl,G2,h⟩,by dsimp only;omega,AK⟩
   ·have e3:decide (((r+v1:Nat):Int)>=1000000000)=true:=AX (by unfold RB at h;omega)
    obtain⟨g1,g2⟩:=WC S G2 (.inl h);refine An w1 700 (by kernel_rfl) ?_;refine AU e3 ?_;refine AM ?_;refine sR 800 ?_;refine Aj ?_;exact⟨_,.refl _,AA.out,t-1,rfl,g1,G2.up,g2⟩
  |false=>
   have hc:=DL hb.symm;obtain⟨g1,g2⟩:=WC S G (.inr (oy hc));clear hc hb;refine AM ?_;refine B8 ?_;exact⟨rfl,⟨t,_⟩,⟨g1,G.up,g2⟩,AK⟩
 rintro⟨q,n⟩ ⟨g1,g2,g3⟩;dsimp only at g1 g2 g3⊢;refine sR 900 ?_;refine Aj ?_;exact⟨_,.refl _,AA.out,q,rfl,g1,g2,g3⟩
def OZ (k g k' n:Nat)(env:Ar):Ar->Prop
 | []=>True
 |(t,d)::r=>(d=env.get t\/∃sz i len,env.get t=.osl k g sz i len/\d=.osl k' n sz i len)/\OZ k g k' n env r
theorem OZ.get {k g k' n:Nat}{env:Ar}:∀ {env':Ar},OZ k g k' n env env'->∀t,env'.get t=.any\/env'.get t=env.get t\/∃sz i len,env.get t=.osl k g sz i len/\env'.get t=.osl k' n sz i len
 | [],_,t=>.inl rfl
 |(t0,d)::r,h,t=>by
  simp only[Ar.get];cases hb:Nat.beq t0 t with
  |true=>
   obtain rfl:=B4 hb;rcases h.1 with h1|h1
   ·exact .inr (.inl h1)
   ·exact .inr (.inr h1)
  |false=>exact OZ.get h.2 t
section
variable {C:BC} {B F:Ab} {rd:Option Nat} {Q:Exit->Ab->St->Prop}
theorem yr {c:Code}{env:Ar}{k g k' T sz n:Nat}{es:List D}(env':Ar)(he:OZ k g k' n env env')(h:AC C B rd F c ⟨env',[⟨k',n,T,sz,es⟩],n+1⟩ Q):AC C B rd F c ⟨env,[⟨k,g,T,sz,es⟩],n⟩ Q:=by
 refine⟨λhB hd ρ a w hs=>?_⟩;obtain⟨ρ',hl,hk,hf⟩:∃ρ':Lk,(∀k1 g1 b,ρ k1 g1=some b->ρ' k1 g1=some b)/\ρ' k' n=ρ k g/\Iq ρ' (n+1):=by
  cases hb:ρ k g with
  |none=>exact⟨ρ,λ_ _ _ h=>h,hs.fresh _ _ (Ai _),λk1 g1 h=>hs.fresh _ _ (Nat.le_of_succ_le h)⟩
  |some b=>exact⟨ρ.put k' n b,λk1 g1 b1 h1=>ND (hs.fresh _ _ (Ai _)) h1,EE _ _ _ _,λk1 g1 h1=>by
    unfold Lk.put;split
    ·rename_i hh;omega
    ·exact hs.fresh _ _ (Nat.le_of_succ_le h1)⟩
 have hO:AN F.X ρ' [⟨k',n,T,sz,es⟩]=AN F.X ρ [⟨k,g,T,sz,es⟩]:=funext λb=>propext (by simp[AN,hk])
 have x:BT ρ (AN F.X ρ [⟨k,g,T,sz,es⟩]) w ρ' (AN F.X ρ' [⟨k',n,T,sz,es⟩]) w:=⟨Ai _,hl,λb _ hb=>⟨by rw[hO];exact hb,rfl⟩,λ_ cs _ _ h=>⟨cs,_,h,rfl⟩⟩
 refine h.out hB hd ρ' a w ⟨⟨⟨λe he'=>?_,by simp,λe he' b hb=>?_⟩,hs.mem.os,hs.mem.tape,hs.mem.output,hs.mem.size,hs.mem.blk,hs.mem.xlt,hs.mem.g0,hs.mem.gn,hs.mem.gw,λk1 g1 b h1=>hl _ _ _ (hs.mem.lnk _ _ _ h1),hs.mem.shp⟩,hf,λe he'=>?_,λt=>?_,hs.nt,hs.dfr⟩
 ·simp only[BF,DX,or_false]at he'
  subst he';rcases hs.mem.hok.ent ⟨k,g,T,sz,es⟩ (by simp)with⟨h1,h2⟩|⟨b,cs,h1,h2,h3⟩
  ·exact .inl ⟨h1,by rw[show ρ' k' n=ρ k g from hk];exact h2⟩
  ·refine .inr ⟨b,cs,hk.trans h1,h2,?_⟩
   have h4:=h3.mono x;exact⟨h4.len,h4.siz,h4.one,h4.rep⟩
 ·simp only[BF,DX,or_false]at he'
  subst he';exact hs.mem.hok.own ⟨k,g,T,sz,es⟩ (by simp) b (hk.symm.trans hb)
 ·simp only[BF,DX,or_false]at he'
  subst he';exact HK _
 ·have h0:=(hs.env t).mono x
  rcases he.get t with h1|h1|⟨sz',i,len,h1,h2⟩
  ·show AV _ _ _ (env'.get t) _
   rw[h1];exact .any _
  ·show AV _ _ _ (env'.get t) _
   rw[h1];exact h0
  ·show AV _ _ _ (env'.get t) _
   rw[h2];have h5:=hs.env t;change AV _ _ _ (env.get t) _ at h5;rw[h1]at h5;generalize a.tmps.getD t undef=v at*;cases h5 with
   |onil=>exact .onil _ _ _
   |osl hr hb hc hs' hm=>exact .osl (hk.trans hr) hb hc hs' hm
end
theorem yO {b m y:Nat}(hl:(AZ b).length=m+1)(hy:(AZ b)[m]?=some y):∃f,f=1000000000/(y+1)/\0<f/\f<RB/\(AZ (b*f)).length=m+1:=by
 have hy0:=Pg b hl hy;have hyl:y<RB:=ET b y (Ax hy);have hf0:0<1000000000/(y+1):=Nat.div_pos (by unfold RB at hyl;omega) (by omega);have hf1:1000000000/(y+1)<RB:=Hm (by decide) (by omega);have hm:=Nat.div_mul_le_self 1000000000 (y+1);refine⟨_,rfl,hf0,hf1,?_⟩;generalize 1000000000/(y+1)=f at*;refine gY ?_ ?_
 ·exact BU (ST hl) (Nat.le_mul_of_pos_right _ hf0)
 ·have h2:=UK hl hy
  have h3:=Fy ((ET b).take m);rw[Bb,hl,Eu (by omega)]at h3;rw[Dy]at h2;have h4:b<RB^m*(y+1):=by rw[BM,D6];omega
  have h5:b*f<RB^m*(y+1)*f:=Ro h4 hf0;have h6:RB^m*(y+1)*f=RB^m*(f*(y+1)):=by rw[Bx,BQ (y+1)]
  have h7:RB^m*(f*(y+1))<=RB^m*RB:=CY _ hm;rw[CH];omega
theorem iI {a b f:Nat}{U v:List Nat}{k lu lq:Nat}(hf:0<f)(hU:AP U=a*f)(hv:AP v=b*f)(wU:Rd U)(lU:U.length=lu){q:List Nat}(hq:q=List.replicate lq 0)(hk:lq<=k)
  (hab:a<RB^k*b):Lj (a*f) v U q lu lq k:=by
 subst hq;refine⟨lU,Hl,wU,SU _,?_,?_⟩
 ·rw[HI (by rw[Hl];exact hk)]
  rw[show AP []=0 from rfl,EQ,Gr,BR,hU]
 ·rcases BA (AP (U.drop k)) (AP v)with h|h
  ·exact h
  ·exfalso
   have e0:AP U=AP (U.take k)+RB^(U.take k).length*AP (U.drop k):=by
    conv=>lhs;rw[<-Ev k U]
    rw[JA]
   have h3:a*f<RB^k*b*f:=Ro hab hf;rw[Bx,<-hv]at h3;rcases BA U.length k with hl|hl
   ·rw[HI (by omega)]at h
    rw[show AP []=0 from rfl]at h;rw[Nat.le_zero.1 h,EQ]at h3;omega
   ·rw[Bb,Eu hl]at e0
    have:=CY (RB^k) h
    omega
theorem jk {a b f:Nat}{v U q:List Nat}{lu lq:Nat}(hf:0<f)(I:Lj (a*f) v U q lu lq 0)(hv:AP v=b*f):AP q=a/b/\AP U=a%b*f:=by
 obtain⟨lU,lQ,wU,wq,val,less⟩:=I;simp only[L0,I1,FG]at val less;obtain⟨h1,h2⟩:=P2 val less;rw[hv,PH _ _ hf]at h1;rw[hv,PI]at h2;exact⟨h1,h2⟩
theorem oD {P V q N Pn c z W:Nat}(hI:N+q*V=Pn+W*c)(hP:P=Pn+W*z)(hc:c<=z)(hup:P<(q+1)*V):P/V=q/\P%V=N+W*(z-c):=by
 have e:W*z=W*c+W*(z-c):=by rw[<-BM];congr 1;omega
 exact Su (N:=N+W*(z-c)) (by omega) hup
theorem oE {P V q N Pn N2 c c2 z W:Nat}(hI:N+q*V=Pn+W*c)(hP:P=Pn+W*z)(hz:z<c)(hN:N<W)(hdn:q*V<=P+V)(hN2:N2+W*c2=N+V)(hc2:c2<=1)(hN2l:N2<W)(hVW:V<W):
  0<q/\P/V=q-1/\P%V=N2/\(z:Int)-c+c2=0:=by
 obtain⟨e,rfl⟩:∃e,c=z+1+e:=⟨c-z-1,by omega⟩
 have h1:W*(z+1+e)=W*z+W+W*e:=by rw[BM,BM,D6]
 have he:e=0:=by
  rcases Dh e with h|h
  ·exact h
  ·have:=CY W h
   omega
 subst he;rw[EQ]at h1;obtain⟨a1,a2,a3⟩:=W1 (U:=P) (V:=V) (q:=q) (N:=N) (N3:=N2) (T:=W) (c:=c2) (by omega) hN hdn hN2 hc2 hN2l;refine⟨a1,a2,a3,?_⟩
 have:c2=1:=by
  rcases Dh c2 with h|h
  ·exfalso
   subst h;rcases Dh q with h0|h0
   ·subst h0;omega
   ·obtain⟨k,rfl⟩:∃k,q=k+1:=⟨q-1,by omega⟩
    rw[Bs,I1]at hI hdn;omega
  ·omega
 subst this;omega
def blk (A N:List Nat)(top:Int)(Z:List Nat):List D:=A.map Aa++(N.map Aa++(i64 top::Z.map Aa))
theorem Zo {A N Z:List Nat}{top:Int}{i z:Nat}(h:N[i]?=some z):(blk A N top Z)[A.length+i]?=some (Aa z):=by
 have hi:i<N.length:=(List.getElem?_eq_some_iff.1 h).1;unfold blk;rw[Ed (by rw[Ac];omega),Ac,Kn,FY (by rw[Ac];exact hi)];exact Do h
theorem YT {A N Z:List Nat}{top:Int}{i d:Nat}(h:i<N.length):(blk A N top Z).set (A.length+i) (Aa d)=blk A (N.set i d) top Z:=by
 unfold blk;rw[PG _ _ (by rw[Ac];omega),Ac,Kn,List.set_append_left _ _ (by rw[Ac];exact h),Mi]
theorem Th {A N Z:List Nat}{top:Int}{n:Nat}(h:N.length=n):(blk A N top Z)[A.length+n]?=some (i64 top):=by
 unfold blk;rw[Ed (by rw[Ac];omega),Ac,Kn,Ed (by rw[Ac];omega),Ac,h,Nat.sub_self];rfl
theorem Xj {A N Z:List Nat}{top t:Int}{n:Nat}(h:N.length=n):(blk A N top Z).set (A.length+n) (i64 t)=blk A N t Z:=by
 unfold blk;rw[PG _ _ (by rw[Ac];omega),Ac,Kn,PG _ _ (by rw[Ac];omega),Ac,h,Nat.sub_self];rfl
theorem Tg {A N Z:List Nat}{t:Nat}:blk A N (t:Int) Z=(A++((N++[t])++Z)).map Aa:=by
 unfold blk;simp[Cs]
theorem ll {t x c z:Nat}(ht:t<RB)(hx:x<RB)(hc:c<=RB)(hz:z<RB):∃p lo hi x' d c':Nat,IntKind.i64.wrap ((t:Int)*(x:Int))=(p:Int)/\IntKind.i64.wrap ((p:Int)+(c:Int))=(x':Int)/\((x':Int)).tmod 1000000000=(lo:Int) /\
  IntKind.i64.wrap (((x':Int)).tdiv 1000000000)=(hi:Int)/\IntKind.i64.wrap ((z:Int)-(lo:Int))=(z:Int)-lo/\d<RB/\c'<=RB/\d+t*x+c=z+RB*c' /\
  ((c'=hi/\(z:Int)-lo=d)\/(c'=hi+1/\(z:Int)-lo<0/\IntKind.i64.wrap ((z:Int)-lo+1000000000)=d/\IntKind.i64.wrap ((hi:Int)+1)=((hi+1:Nat):Int))):=by
 have h3:t*x<=999999999*999999999:=IW (by unfold RB at ht;omega) (by unfold RB at hx;omega);have e:=Eg (t*x+c) 1000000000;have l:=B0 (t*x+c) (show 1000000000>0 by decide);have k0:IntKind.i64.wrap ((t:Int)*(x:Int))=((t*x:Nat):Int):=by rw[<-Fr,wI (by omega) (by omega)]
 unfold RB at*;have k1:IntKind.i64.wrap (((t*x:Nat):Int)+(c:Int))=((t*x+c:Nat):Int):=by rw[wI (by omega) (by omega)];omega
 have k2:((t*x+c:Nat):Int).tmod 1000000000=(((t*x+c)%1000000000:Nat):Int):=RP _ 1000000000;have k3:IntKind.i64.wrap (((t*x+c:Nat):Int).tdiv 1000000000)=(((t*x+c)/1000000000:Nat):Int):=On _ 1000000000 (by omega);generalize t*x=p at*;generalize(p+c)%1000000000=lo at*;generalize(p+c)/1000000000=hi at*;rcases BA z lo with h|h
 ·exact⟨_,_,_,_,z+1000000000-lo,hi+1,k0,k1,k2,k3,wI (by omega) (by omega),by omega,by omega,by omega,.inr ⟨rfl,by omega,by rw[wI (by omega) (by omega)];omega,by rw[wI (by omega) (by omega)];omega⟩⟩
 ·exact⟨_,_,_,_,z-lo,hi,k0,k1,k2,k3,wI (by omega) (by omega),by omega,by omega,by omega,.inl ⟨rfl,by omega⟩⟩
theorem l8 {z x c:Nat}(hz:z<RB)(hx:x<RB)(hc:c<=1):∃p s d c':Nat,IntKind.i64.wrap ((z:Int)+(x:Int))=(p:Int)/\IntKind.i64.wrap ((p:Int)+(c:Int))=(s:Int)/\((s:Int)).tmod 1000000000=(d:Int) /\
  IntKind.i64.wrap (((s:Int)).tdiv 1000000000)=(c':Int)/\d<RB/\c'<=1/\d=(z+x+c)%RB/\c'=(z+x+c)/RB:=by
 have e:=Eg (z+x+c) 1000000000;have l:=B0 (z+x+c) (show 1000000000>0 by decide);unfold RB at*;have k0:IntKind.i64.wrap ((z:Int)+(x:Int))=((z+x:Nat):Int):=by rw[wI (by omega) (by omega)];omega
 have k1:IntKind.i64.wrap (((z+x:Nat):Int)+(c:Int))=((z+x+c:Nat):Int):=by rw[wI (by omega) (by omega)];omega
 have k2:((z+x+c:Nat):Int).tmod 1000000000=(((z+x+c)%1000000000:Nat):Int):=RP _ 1000000000;have k3:IntKind.i64.wrap (((z+x+c:Nat):Int).tdiv 1000000000)=(((z+x+c)/1000000000:Nat):Int):=On _ 1000000000 (by omega);exact⟨_,_,_,_,k0,k1,k2,k3,l,by omega,rfl,rfl⟩
set_option maxHeartbeats 2000000
theorem no:rD 0=.sl false 1 []:=by unfold rD;rw[GV];rfl
theorem Tr {H:Hp}{K g T:Nat}{l:List Nat}{N:Nat}(hl:l.length=N)(he:Hp.get H K=some ⟨K,g,T,1,l.map Aa⟩:=by exact rfl):Fz H [] (.osl K g 1 0 N) (.sl false 1 (l.map Aa)):=by
 subst hl;have key:∀(j:Nat) (d d':D),(l.map Aa)[0+j]?=some d->(l.map Aa)[j]?=some d'->d=d':=λj d d' h1 h2=>by
  rw[BR]at h1;rw[h1]at h2;exact Fs h2
 refine .osl (e:=⟨K,g,T,1,l.map Aa⟩) he rfl rfl rfl (by simp) (by simp) (λj d d' h1 h2=>by rw[key j d d' h1 h2]) λj d d' q c c' h1 h2 h3 h4=>?_
 rw[key j d d' h1 h2]at h3;rw[h3]at h4;cases h4;exact Fz.refl _
theorem jl (a b:Nat)(hab:a<b)(ha:(AZ a).length<1000000)(hb:(AZ b).length<1000000):AJ C0 176 [rD a,rD b] (.tup [rD (a/b),rD (a%b)]):=by
 rw[HH hab,Dd hab,no];refine Ag.walk w1 UB rfl λF=>?_
 have cc:=RM a b (by omega) (by omega);have e1:=YE hab;refine sR 0 ?_;refine AC.seq ?_;refine sR 100 ?_;refine cI cc ?_;rw[e1];refine AM ?_;refine sR 200 ?_;refine Aj ?_;exact⟨_,aT (.nil 1) (.refl _),YB (.sl λe he=>by cases he) (OE _),rfl⟩
theorem li (a b:Nat)(hab:b<=a)(ha:(AZ a).length<1000000)(hb:(AZ b).length=1)(hb0:b≠0):AJ C0 176 [rD a,rD b] (.tup [rD (a/b),rD (a%b)]):=by
 have cc:=RM a b (by omega) (by omega);have e1:=QO hab;have hbl:b<RB:=by
  have:=Ic b
  rw[hb,Nat.pow_one]at this;exact this
 have hlb:(AZ b)[0]?=some b:=by rw[Pf hb0 hbl];rfl
 have hb':=Do hlb;have cd:=WF a b (Dx hb0) hbl ha;have e3:(((((AZ b).map Aa).length:Nat):Int)==1)=true:=by rw[Ac,hb];rfl
 have hml:a%b<RB:=Ft (B0 _ (Dx hb0)) hbl;have hv:AP [a%b]=a%b:=by simp[AP]
 refine Ag.walk w1 UB rfl λF=>?_
 generalize a/b=q at*;generalize a%b=r at*;unfold rD rL at cc cd⊢;change AC C0 F none F _ _ (RJ X1.tt _ (· = .tup [rD q,rD r]));generalize AZ a=la at*;generalize AZ b=lb at*;refine sR 0 ?_;refine AC.seq ?_;refine sR 100 ?_;refine cI cc ?_;rw[e1];refine AM ?_;refine Am ?_;refine AC.seq ?_;refine sZ 300 ?_;refine AU e3 ?_;refine AM ?_;refine sZ 400 ?_;refine AD kN ?_;refine Br kT hb' ?_;refine AD kN ?_;refine A9.same _ cd AI ?_;refine BO ?_;refine sR 500 ?_;have hrl:Rd [r]:=λa ha=>by
  simp only[BF,DX,or_false]at ha;subst ha;exact hml
 refine A9.pure [rL [r]] _ ⟨.nn true 1 _,trivial⟩ (LW [r] hrl (by simp)) AI ?_;refine BO ?_;refine Aj ?_;exact AL (by rw[hv];rfl) AA.out
theorem xr {H:Hp}{d1 d2 d3 e1 e2 e3:D}(h1:DM H d1 e1)(h2:DM H d2 e2)(h3:DM H d3 e3):∀(i:Nat) (a b:D),[d1,d2,d3][i]?=some a->[e1,e2,e3][i]?=some b->DM H a b
 | 0,_,_,ha,hb=>by cases ha;cases hb;exact h1
 | 1,_,_,ha,hb=>by cases ha;cases hb;exact h2
 | 2,_,_,ha,hb=>by cases ha;cases hb;exact h3
 |_+3,_,_,ha,_=>by cases ha
theorem ij {P v:List Nat}(d:D)(h:Xf P v d):Ja d:=by
 obtain⟨q,rfl,_⟩:=h;exact Ja.prim _
theorem oF {v N Pn:List Nat}{t i c z x:Nat}(hz:N[i]?=some z)(hx:v[i]?=some x)(ht:t<RB)(hxl:x<RB)(hc:c<=RB)(hzl:z<RB)(hI:AP N+t*AP (v.take i)=AP Pn+RB^i*c):
  ∃(p x' lo hi d c':Nat) (e:Int),IntKind.i64.wrap ((t:Int)*(x:Int))=(p:Int)/\IntKind.i64.wrap ((p:Int)+(c:Int))=(x':Int)/\((x':Int)).tmod 1000000000=(lo:Int) /\
  IntKind.i64.wrap (((x':Int)).tdiv 1000000000)=(hi:Int)/\IntKind.i64.wrap ((z:Int)-(lo:Int))=e/\d<RB/\c'<=RB/\AP (N.set i d)+t*AP (v.take (i+1))=AP Pn+RB^(i+1)*c' /\
  ((decide (e<0)=false/\e=(d:Int)/\hi=c')\/(decide (e<0)=true/\IntKind.i64.wrap (e+1000000000)=(d:Int)/\IntKind.i64.wrap ((hi:Int)+1)=(c':Int))):=by
 obtain⟨p,lo,hi,x',d,c',k1,k2,k3,k4,k5,k6,k7,k8,k9⟩:=ll ht hxl hc hzl;have J:=fk (b:=0) (c':=0) (lo:=t*x+c) (b':=c') (d:=d) (A:=N) (P:=Pn) (v:=v) (q:=t) hz hx hI rfl (by rw[<-k8];exact EP d (t*x) c ▸ rfl);refine⟨p,x',lo,hi,d,c',_,k1,k2,k3,k4,k5,k6,k7,by rw[J,BR],?_⟩;rcases k9 with⟨h1,h2⟩|⟨h1,h2,h3,h4⟩
 ·exact .inl ⟨Ad (by rw[h2];exact Int.not_lt.2 (Int.natCast_nonneg d)),h2,h1.symm⟩
 ·exact .inr ⟨AX h2,h3,by rw[h1];exact h4⟩
theorem nr {v N Nb:List Nat}{i c z x:Nat}(hz:N[i]?=some z)(hx:v[i]?=some x)(hxl:x<RB)(hc:c<=1)(hzl:z<RB)(hI:AP N+RB^i*c=AP Nb+AP (v.take i)):
  ∃(p s d c':Nat),IntKind.i64.wrap ((z:Int)+(x:Int))=(p:Int)/\IntKind.i64.wrap ((p:Int)+(c:Int))=(s:Int)/\((s:Int)).tmod 1000000000=(d:Int) /\
  IntKind.i64.wrap (((s:Int)).tdiv 1000000000)=(c':Int)/\d<RB/\c'<=1/\AP (N.set i d)+RB^(i+1)*c'=AP Nb+AP (v.take (i+1)):=by
 obtain⟨p,s,d,c',k1,k2,k3,k4,k5,k6,rfl,rfl⟩:=l8 hzl hxl hc;exact⟨p,s,_,_,k1,k2,k3,k4,k5,k6,fj hz hx hI⟩
theorem iH {U:List Nat}{k:Nat}(h:AP U<RB^k)(hk:k<=U.length):AP (U.take k)=AP U:=by
 have e:AP U=AP (U.take k)+RB^k*AP (U.drop k):=by
  conv=>lhs;rw[<-Ev k U]
  rw[JA,Bb,Eu hk]
 rcases Dh (AP (U.drop k))with h0|h0
 ·rw[h0,EQ,DR]at e;exact e.symm
 ·exfalso
  have:=CY (RB^k) h0
  omega
theorem iG {P v:List Nat}{m p0 p1 p2 v2 v1:Nat}(S:KR P v m p0 p1 p2 v2 v1):∃Pn,P=Pn++[p2]/\Pn.length=m+2/\Rd Pn/\AP P=AP Pn+RB^(m+2)*p2:=by
 have hl:=S.lP;have e:P=P.take (m+2)++[p2]:=by
  rw[<-E3 S.h2,B7 (by omega)]
 have hn:(P.take (m+2)).length=m+2:=by rw[Bb];omega
 refine⟨P.take (m+2),e,hn,S.wP.take _,?_⟩
 conv=>lhs;rw[e]
 rw[Gv hn]
theorem bl {P N:List Nat}{m z V:Nat}(hl:N.length=m+2)(hN:Rd N)(hz:z<RB)(hv:AP N+RB^(m+2)*z=AP P%V):(N++[z]).length=m+3/\Rd (N++[z])/\AP (N++[z])=AP P%V:=by
 refine⟨by rw[Bh,hl];rfl,Rd.append hN λa ha=>?_,by rw[Gv hl,hv]⟩;simp only[BF,DX,or_false]at ha;subst ha;exact hz
set_option maxHeartbeats 4000000
theorem jm (a b m:Nat)(hab:b<=a)(ha:(AZ a).length<1000000)(hb:(AZ b).length=m+2):AJ C0 176 [rD a,rD b] (.tup [rD (a/b),rD (a%b)]):=by
 have hlen:=Ib b a hab;have cc:=RM a b (by omega) (by omega);have e1:=QO hab;obtain⟨y,hy⟩:=CR (l:=AZ b) (i:=m+1) (by omega);have yl:y<RB:=ET b y (Ax hy);obtain⟨f,ef,f0,fl,hvl⟩:=yO hb hy;have wf:IntKind.i64.wrap ((1000000000:Int).tdiv ((y+1:Nat):Int))=(f:Int):=by
  rw[ef];exact On 1000000000 (y+1) (BU (Gn _ _) (by decide))
 have wy:IntKind.i64.wrap ((y:Int)+1)=((y+1:Nat):Int):=wI (by omega) (by unfold RB at yl;omega);have lf:AZ f=[f]:=Pf (Nat.pos_iff_ne_zero.1 f0) fl;have cv:=Uz b f (by omega) (by rw[lf];exact(by decide:1<1000000));have cu:=Uz a f (by omega) (by rw[lf];exact(by decide:1<1000000));have hu1:=SJ a f;have hu2:=Ib a (a*f) (Nat.le_mul_of_pos_right _ f0);rw[lf]at hu1;change _<=_+1 at hu1;obtain⟨v,hv⟩:∃v,v=AZ (b*f):=⟨_,rfl⟩
 have wv:Rd v:=by rw[hv];exact ET _
 have vv:AP v=b*f:=by rw[hv];exact Dy _
 rw[<-hv]at hvl;obtain⟨U0,hU0⟩:∃U0,U0=AZ (a*f):=⟨_,rfl⟩
 have wU0:Rd U0:=by rw[hU0];exact ET _
 have vU0:AP U0=a*f:=by rw[hU0];exact Dy _
 rw[<-hU0]at hu1 hu2;obtain⟨v1,h1⟩:=CR (l:=v) (i:=m+1) (by omega);obtain⟨v2,h2⟩:=CR (l:=v) (i:=m) (by omega);have v10:v1≠0:=Pg (b*f) (by rw[<-hv];exact hvl) (by rw[<-hv];exact h1);have b0:0<b:=by
  refine Dx λh=>?_
  subst h;rw[GV]at hb;cases hb
 have vpos:0<AP v:=by rw[vv];exact HJ b0 f0
 have hup:=Ic a;have hbge:=ST hb;unfold rD rL at cc cv cu;rw[lf,<-hv]at cv;rw[lf,<-hU0]at cu;refine Ag.walk w1 UB rfl λF=>?_
 change AC C0 F none F _ ⟨DH 0 [.sl false 1 ((AZ a).map Aa),.sl false 1 ((AZ b).map Aa)],[],0⟩ _;generalize AZ a=la at*;generalize AZ b=lb at*;obtain⟨lq,hlq⟩:∃lq,la.length=lq+(m+2):=⟨la.length-(m+2),by omega⟩
 have hy':=Do hy;have e3:((((lb.map Aa).length:Nat):Int)==1)=false:=by rw[Ac,hb];exact Bu.2 (by omega)
 have elb:(((lb.map Aa).length:Nat):Int)=((m+2:Nat):Int):=by rw[Ac,hb]
 have wlb0:IntKind.i64.wrap (((m+2:Nat):Int)-1)=((m+1:Nat):Int):=by rw[wI (by omega) (by omega)];omega
 have wlb:IntKind.i64.wrap ((((lb.map Aa).length:Nat):Int)-1)=((m+1:Nat):Int):=by rw[elb];exact wlb0
 have ea:(((la.map Aa).length:Nat):Int)=(la.length:Int):=by rw[Ac]
 have ev:(((v.map Aa).length:Nat):Int)=((m+2:Nat):Int):=by rw[Ac,hvl]
 have eu:(((U0.map Aa).length:Nat):Int)=(U0.length:Int):=by rw[Ac]
 have wa1:IntKind.i64.wrap ((la.length:Int)+1)=((la.length+1:Nat):Int):=wI (by omega) (by omega);have wq0:IntKind.i64.wrap (((la.length+1:Nat):Int)-((m+2:Nat):Int))=((lq+1:Nat):Int):=by rw[wI (by omega) (by omega)];omega
 have wq1:IntKind.i64.wrap (((lq+1:Nat):Int)-1)=((lq+1:Nat):Int)-1:=wI (by omega) (by omega);have wraw:IntKind.i64.wrap (IntKind.i64.wrap (((la.length+1:Nat):Int)-((m+2:Nat):Int))-1)=((lq+1:Nat):Int)-1:=by rw[wq0,wq1]
 have r3:List.replicate (lq+1) (ofV (.int .i64 0))=(List.replicate (lq+1) 0).map Aa:=by rw[Jk];rfl
 refine sR 0 ?_;refine AC.seq ?_;refine sR 100 ?_;refine cI cc ?_;rw[e1];refine AM ?_;refine Am ?_;refine AC.seq ?_;refine sZ 300 ?_;refine AU e3 ?_;refine AM ?_;refine Am ?_;refine sZ 600 ?_;refine AD (BV wlb elb wlb0 kN) ?_;refine Br kT hy' ?_;refine AD (As wy wf kN) ?_;refine sR 700 ?_;refine A9.pure [rL lb,rL [f]] _ ⟨.refl _,.nn true 1 _,trivial⟩ cv AI ?_;refine BO ?_;refine sZ 800 ?_;refine AU ev ?_;clear cc e1 e3 elb wlb wlb0 hy' yl hy wy wf hb;refine Cz (α:=Nat×Nat) (λp=>⟨[(0,.sl false 1 (la.map Aa)),(8,.sl true 1 [Aa f]),(9,.sl false 1 (v.map Aa)),(10,i64 ((m+2:Nat):Int)),(11,.osl 904 p.1 1 0 U0.length)],[⟨904,p.1,3,1,U0.map Aa⟩],p.2⟩) (λ_=>True) ?_ ?_
 ·refine rI 900 ?_
  refine A9.pure [rL la,rL [f]] _ ⟨.refl _,.nn true 1 _,trivial⟩ cu AI ?_;refine BO ?_;exact⟨rfl,⟨_,_⟩,trivial,AK⟩
 rintro⟨g,n2⟩ -;dsimp only;refine Cz (α:=Nat×Nat×List Nat×Nat) (λp=>⟨[(0,.sl false 1 (la.map Aa)),(8,.sl true 1 [Aa f]),(9,.sl false 1 (v.map Aa)),(10,i64 ((m+2:Nat):Int)),(11,.osl p.1 p.2.1 1 0 (la.length+1))],[⟨p.1,p.2.1,3,1,p.2.2.1.map Aa⟩],p.2.2.2⟩) (λp=>p.2.2.1.length=la.length+1/\Rd p.2.2.1/\AP p.2.2.1=a*f) ?_ ?_
 ·refine AC.block ?_
  rcases Nat.eq_or_lt_of_le hu1 with hl|hl
  ·have eN:decide (((la.length+1:Nat):Int)<((la.length+1:Nat):Int))=false:=Ad (by omega)
   rw[hl];refine GN (α:=Nat) (λn=>⟨[(0,.sl false 1 (la.map Aa)),(8,.sl true 1 [Aa f]),(9,.sl false 1 (v.map Aa)),(10,i64 ((m+2:Nat):Int)),(11,.osl 904 g 1 0 (la.length+1))],[⟨904,g,3,1,U0.map Aa⟩],n⟩) (λ_=>0) (λ_ F'=>F'=F) n2 rfl AK ?_;rintro n3 F' rfl;refine AC.seq ?_;refine sZ 1000 ?_;refine AU (As ea wa1 eN) ?_;refine AM ?_;refine B8 ?_;exact⟨rfl,⟨904,g,U0,_⟩,⟨hl,wU0,vU0⟩,AK⟩
  ·have hl2:U0.length=la.length:=by omega
   have eN:decide (((la.length+1:Nat):Int)<((la.length+1:Nat):Int))=false:=Ad (by omega);have eY:decide ((la.length:Int)<((la.length+1:Nat):Int))=true:=AX (by omega);have hap:List.take la.length (U0.map Aa)++[D.prim (Value.int IntKind.i64 0)]=(U0++[0]).map Aa:=by
    rw[B7 (by rw[Ac];omega),Cs];rfl
   rw[hl2];refine GN (α:=Bool×Nat×Nat) (λp=>match p with
    |(false,_,n)=>⟨[(0,.sl false 1 (la.map Aa)),(8,.sl true 1 [Aa f]),(9,.sl false 1 (v.map Aa)),(10,i64 ((m+2:Nat):Int)),(11,.osl 904 g 1 0 la.length)],[⟨904,g,3,1,U0.map Aa⟩],n⟩
    |(true,g1,n)=>⟨[(0,.sl false 1 (la.map Aa)),(8,.sl true 1 [Aa f]),(9,.sl false 1 (v.map Aa)),(10,i64 ((m+2:Nat):Int)),(11,.osl 1102 g1 1 0 (la.length+1))],[⟨1102,g1,3,1,(U0++[0]).map Aa⟩],n⟩) (λp=>cond p.1 0 1) (λ_ F'=>F'=F) (false,0,n2) rfl AK ?_
   rintro⟨_|_,g1,n3⟩ F' rfl
   ·dsimp only
    refine AC.seq ?_;refine sZ 1000 ?_;refine AU (As ea wa1 eY) ?_;refine AM ?_;refine Am ?_;refine AC.block ?_;refine rI 1100 ?_;refine⟨(true,n3+8,n3+10),rfl,(by decide:(0:Nat)<1),?_⟩;dsimp only;rw[hap];exact AK
   ·dsimp only
    refine AC.seq ?_;refine sZ 1000 ?_;refine AU (As ea wa1 eN) ?_;refine AM ?_;refine B8 ?_;refine⟨rfl,⟨1102,g1,U0++[0],_⟩,⟨by rw[Bh,hl2];rfl,Rd.append wU0 λa ha=>?_,by rw[Ta];exact vU0⟩,AK⟩;simp only[BF,DX,or_false]at ha;subst ha;decide
 rintro⟨K,gK,U1,n3⟩ ⟨lU1,wU1,vU1⟩;dsimp only at lU1 wU1 vU1⊢;refine yr [(8,.sl true 1 [Aa f]),(9,.sl false 1 (v.map Aa)),(10,i64 ((m+2:Nat):Int)),(11,.osl 1102 n3 1 0 (la.length+1))] ⟨.inl rfl,.inl rfl,.inl rfl,.inr ⟨_,_,_,rfl,rfl⟩,trivial⟩ ?_;clear cu hU0 vU0 wU0 hu1 hu2 cv;refine Cz (α:=Nat×Nat) (λp=>⟨[(8,.sl true 1 [Aa f]),(9,.sl false 1 (v.map Aa)),(10,i64 ((m+2:Nat):Int)),(11,.osl 1102 n3 1 0 (la.length+1)),(12,.osl 1204 p.1 1 0 (lq+1))],[⟨1204,p.1,3,1,(List.replicate (lq+1) 0).map Aa⟩,⟨1102,n3,3,1,U1.map Aa⟩],p.2⟩) (λ_=>True) ?_ ?_
 ·refine An w1 1200 (by kernel_rfl) ?_
  refine AU (As wq0 kN r3) ?_;exact⟨trivial,⟨_,_⟩,trivial,by rw[<-r3];exact AK⟩
 rintro⟨g,n2⟩ -;dsimp only;have I0:Lj (a*f) v U1 (List.replicate (lq+1) 0) (la.length+1) (lq+1) (lq+1):=by
  refine iI f0 vU1 vv wU1 lU1 rfl (Ai _) ?_
  have:RB^(lq+1)*RB^(m+1)<=RB^(lq+1)*b:=CY _ hbge
  rw[<-Fu,show lq+1+(m+1)=la.length by omega]at this;omega
 clear hup hbge;refine AC.seq ?_;refine sZ 1300 ?_;refine AU wraw ?_;refine AC.block ?_;refine AC.loop (α:=Nat×List Nat×List Nat×Nat) (λp=>⟨[(8,.sl true 1 [Aa f]),(9,.sl false 1 (v.map Aa)),(10,i64 ((m+2:Nat):Int)),(11,.osl 1102 n3 1 0 (la.length+1)),(12,.osl 1204 g 1 0 (lq+1)),(13,i64 ((p.1:Int)-1))],[⟨1204,g,3,1,p.2.2.1.map Aa⟩,⟨1102,n3,3,1,p.2.1.map Aa⟩],p.2.2.2⟩) (λp=>p.1)
  (λp=>p.1<=lq+1/\Lj (a*f) v p.2.1 p.2.2.1 (la.length+1) (lq+1) p.1) (lq+1,U1,List.replicate (lq+1) 0,_) ⟨Ai _,I0⟩ AK ?_
 rintro⟨k,u,q,n4⟩ F ⟨hk,I⟩;dsimp only at hk I⊢;clear I0 wq0 wq1 wraw r3 ea eu wU1 vU1 lU1;refine AC.seq ?_;refine sR 1400 ?_;refine AM ?_
 (refine Bw (λh20=>?_) (λh20=>?_))<;>(try simp only[Bi,Bv]at h20)<;>(try simp only[h20])
 ·obtain⟨j,rfl⟩:∃j,k=j+1:=⟨k-1,by
   have:(k:Int)-1>=0:=by simpa using h20
   omega⟩
  have wj:((j+1:Nat):Int)-1=(j:Int):=by omega
  obtain⟨p0,p1,p2,SI,hz,hP⟩:=iF I hvl wv v1 v2 h2 h1 (Dx v10) (by omega);have lu:=I.lU;have cg:=nC u v j m p0 p1 p2 v2 v1 SI (by omega) (by omega);rw[wj];refine Am ?_;refine AC.seq ?_;refine AC.block ?_;refine sR 1600 ?_;refine A9.own _ (yg cg rfl (xr (DM.of (Tr lu)) (DM.of (.refl _)) (DM.of (.refl _))) AI ij) ?_;rintro d H' n5 ⟨⟨t,rfl,ht1,ht2,ht3⟩,rfl,rfl⟩;refine BO ?_;obtain⟨Pn,eP,lPn,wPn,vPn⟩:=iG SI;have hA:(u.take j).length=j:=by rw[Bb];omega
  have p2l:=SI.p2l;have hdl:AP ((u.drop j).take (m+3))/AP v<RB:=Ew SI.less;have hU:u.map Aa=blk (u.take j) Pn (p2:Int) (u.drop (j+(m+3))):=by rw[Tg,<-eP,<-eA]
  have J:=λP' h1 h2 h3=>iE (P':=P') I vpos (by omega) (by omega) hz hP h1 h2 h3 hdl
  obtain⟨zq,hzq⟩:=CR (l:=q) (i:=j) (by rw[I.lQ];omega);have hzq':=Do hzq;have wi':IntKind.i64.wrap ((j:Int)-1)=(j:Int)-1:=wI (by omega) (by omega);have wjn:IntKind.i64.wrap ((j:Int)+((m+2:Nat):Int))=((j+(m+2):Nat):Int):=by rw[wI (by omega) (by omega)];omega
  have hVW:=Fy wv;rw[show v.length=m+2 from hvl]at hVW;rw[hU];clear hU cg hP hz SI eP h20 wj I h1 h2 v10;generalize(u.drop j).take (m+3)=P at*;generalize u.take j=A at*;generalize u.drop (j+(m+3))=Z at*;refine sR 1700 ?_;refine AC.seq ?_;refine sR 1800 ?_;refine AC.block ?_;refine AC.loop (α:=Nat×Nat×List Nat×Nat) (λp=>⟨[(8,.sl true 1 [Aa f]),(9,.sl false 1 (v.map Aa)),(10,i64 ((m+2:Nat):Int)),(11,.osl 1102 n3 1 0 (la.length+1)),(12,.osl 1204 g 1 0 (lq+1)),(13,i64 (j:Int)),(14,Aa t),(15,Aa p.2.1),(16,i64 p.1)],[⟨1204,g,3,1,q.map Aa⟩,⟨1102,n3,3,1,blk A p.2.2.1 (p2:Int) Z⟩],p.2.2.2⟩) (λp=>m+2-p.1)
   (λp=>p.1<=m+2/\p.2.1<=RB/\p.2.2.1.length=m+2/\Rd p.2.2.1/\AP p.2.2.1+t*AP (v.take p.1)=AP Pn+RB^p.1*p.2.1) (0,0,Pn,_) ⟨BS _,BS _,lPn,wPn,by simp[AP]⟩ AK ?_
  rintro⟨i,c,N,n6⟩ F ⟨hi,hc,hNl,hNw,hI⟩;dsimp only at hi hc hNl hNw hI⊢;refine AC.seq ?_;refine sR 1900 ?_;refine AM ?_
  (refine Bw (λhlt=>?_) (λhlt=>?_))<;>(try simp only[Bi,Bv]at hlt)<;>(try simp only[hlt])
  ·have hi2:i<m+2:=by
    have:=DA hlt
    omega
   obtain⟨x,hx⟩:=CR (l:=v) (i:=i) (by omega);have hx':=Do hx;have hxl:x<RB:=wv x (Ax hx);obtain⟨z,hz⟩:=CR (l:=N) (i:=i) (by omega);have hzl:=hNw z (Ax hz);have hz':=Zo (A:=A) (Z:=Z) (top:=(p2:Int)) hz;rw[hA]at hz';obtain⟨p,x',lo,hi',d,c',e,k1,k2,k3,k4,k5,dl,cl,hI',hb⟩:=oF hz hx ht1 hxl hc hzl hI;have hset:(blk A N (p2:Int) Z).set (j+i) (Aa d)=blk A (N.set i d) (p2:Int) Z:=by
    have:=YT (A:=A) (Z:=Z) (top:=(p2:Int)) (i:=i) (d:=d) (N:=N) (by omega)
    rwa [hA]at this
   have wij:IntKind.i64.wrap ((i:Int)+(j:Int))=((j+i:Nat):Int):=by rw[wI (by omega) (by omega)];omega
   have wi:IntKind.i64.wrap ((i:Int)+1)=((i+1:Nat):Int):=wI (by omega) (by omega);clear hI J hVW vPn ht2 ht3 hdl;refine Am ?_;refine AC.seq ?_;refine AC.block ?_;refine sZ 2100 ?_;refine AD kN ?_;refine Br kT hx' ?_;refine AD (As kN k1 k2) ?_;refine sZ 2200 ?_;refine AD (Dj wij kN BR hz' k3 k5) ?_;refine sZ 2300 ?_;refine AU k4 ?_;rcases hb with⟨b1,b2,b3⟩|⟨b1,b2,b3⟩
   ·refine AC.seq ?_
    refine sZ 2400 ?_;refine AU b1 ?_;refine AM ?_;refine Am ?_;subst b2 b3;refine An w1 2700 (by kernel_rfl) ?_;refine AD (BV wij kN BR hz') ?_;rw[hset];refine An w1 2000 (by kernel_rfl) ?_;refine AU wi ?_;exact⟨(i+1,hi',N.set i d,_),⟨hi2,cl,by dsimp only;rw[DQ];exact hNl,hNw.set dl,hI'⟩,by dsimp only;omega,AK⟩
   ·refine AC.seq ?_
    refine sZ 2400 ?_;refine AU b1 ?_;refine AM ?_;refine sZ 2500 ?_;refine AU b2 ?_;refine An w1 2600 (by kernel_rfl) ?_;refine AU b3 ?_;refine An w1 2700 (by kernel_rfl) ?_;refine AD (BV wij kN BR hz') ?_;rw[hset];refine An w1 2000 (by kernel_rfl) ?_;refine AU wi ?_;exact⟨(i+1,c',N.set i d,_),⟨hi2,cl,by dsimp only;rw[DQ];exact hNl,hNw.set dl,hI'⟩,by dsimp only;omega,AK⟩
  ·have hi2:i=m+2:=by
    have:=DL hlt
    omega
   subst hi2;rw[B7 (by omega)]at hI;have hNlt:=Fy hNw;rw[hNl]at hNlt;have htop:=Th (A:=A) (Z:=Z) (top:=(p2:Int)) hNl;have hstop:=Xj (A:=A) (Z:=Z) (top:=(p2:Int)) (t:=(p2:Int)-(c:Int)) hNl;have htop2:=Th (A:=A) (Z:=Z) (top:=(p2:Int)-(c:Int)) hNl;rw[hA]at htop hstop htop2;have p2l9:p2<1000000000:=p2l;have hc9:c<=1000000000:=hc;have wzc:IntKind.i64.wrap ((p2:Int)-(c:Int))=(p2:Int)-(c:Int):=wI (by omega) (by omega);refine B8 ?_;refine sZ 2800 ?_;refine AD (CE wjn kN BR htop wzc) ?_;rw[hstop];rcases BA p2 c with h|h
   ·have e29:decide ((p2:Int)-(c:Int)<0)=true:=AX (by omega)
    have ht9:t<1000000000:=ht1;have wt:IntKind.i64.wrap ((t:Int)-1)=(t:Int)-1:=wI (by omega) (by omega);refine AC.seq ?_;refine sZ 2900 ?_;refine AD (CE wjn kN BR htop2 e29) ?_;refine AM ?_;refine sZ 3000 ?_;refine AU wt ?_;refine sR 3100 ?_;refine AC.seq ?_;refine sR 3200 ?_;refine AC.block ?_;refine AC.loop (α:=Nat×Nat×List Nat×Nat) (λp=>⟨[(8,.sl true 1 [Aa f]),(9,.sl false 1 (v.map Aa)),(10,i64 ((m+2:Nat):Int)),(11,.osl 1102 n3 1 0 (la.length+1)),(12,.osl 1204 g 1 0 (lq+1)),(13,i64 (j:Int)),(14,i64 ((t:Int)-1)),(19,Aa p.2.1),(20,i64 p.1)],[⟨1204,g,3,1,q.map Aa⟩,⟨1102,n3,3,1,blk A p.2.2.1 ((p2:Int)-(c:Int)) Z⟩],p.2.2.2⟩) (λp=>m+2-p.1)
     (λp=>p.1<=m+2/\p.2.1<=1/\p.2.2.1.length=m+2/\Rd p.2.2.1/\AP p.2.2.1+RB^p.1*p.2.1=AP N+AP (v.take p.1)) (0,0,N,_) ⟨BS _,BS _,hNl,hNw,by simp[AP]⟩ AK ?_
    rintro⟨i,c2,N2,n7⟩ F ⟨hi,hc2,hNl2,hNw2,hI2⟩;dsimp only at hi hc2 hNl2 hNw2 hI2⊢;clear htop hstop;refine AC.seq ?_;refine sR 3300 ?_;refine AM ?_
    (refine Bw (λhlt2=>?_) (λhlt2=>?_))<;>(try simp only[Bi,Bv]at hlt2)<;>(try simp only[hlt2])
    ·have hi2:i<m+2:=by
      have:=DA hlt2
      omega
     obtain⟨x,hx⟩:=CR (l:=v) (i:=i) (by omega);have hx':=Do hx;have hxl:x<RB:=wv x (Ax hx);obtain⟨z,hz⟩:=CR (l:=N2) (i:=i) (by omega);have hzl:=hNw2 z (Ax hz);have hz':=Zo (A:=A) (Z:=Z) (top:=(p2:Int)-(c:Int)) hz;rw[hA]at hz';obtain⟨p,s,d,c',k1,k2,k3,k4,dl,cl,hI'⟩:=nr hz hx hxl hc2 hzl hI2;have hset:(blk A N2 ((p2:Int)-(c:Int)) Z).set (j+i) (Aa d)=blk A (N2.set i d) ((p2:Int)-(c:Int)) Z:=by
      have:=YT (A:=A) (Z:=Z) (top:=(p2:Int)-(c:Int)) (i:=i) (d:=d) (N:=N2) (by omega)
      rwa [hA]at this
     have wij:IntKind.i64.wrap ((i:Int)+(j:Int))=((j+i:Nat):Int):=by rw[wI (by omega) (by omega)];omega
     have wi:IntKind.i64.wrap ((i:Int)+1)=((i+1:Nat):Int):=wI (by omega) (by omega);clear hI2 hI J hVW vPn ht2 ht3 hdl;refine Am ?_;refine AC.seq ?_;refine AC.block ?_;refine AC.seq ?_;refine B6 w1 3500 [0,1,2,3,4,5,6,7,8,9,10,11] [12,13] (by kernel_rfl) ?_;refine AD (BV wij kN BR hz') ?_;refine Br kT hx' ?_;refine AD (As kN k1 k2) ?_;refine sZ 3600 ?_;refine AD (CE wij kN BR hz' k3) ?_;rw[hset];refine An w1 3700 (by kernel_rfl) ?_;refine AU k4 ?_;refine An w1 3400 (by kernel_rfl) ?_;refine AU wi ?_;exact⟨(i+1,c',N2.set i d,_),⟨hi2,cl,by dsimp only;rw[DQ];exact hNl2,hNw2.set dl,hI'⟩,by dsimp only;omega,AK⟩
    ·have hi2:i=m+2:=by
      have:=DL hlt2
      omega
     subst hi2;rw[B7 (by omega)]at hI2;have hNlt2:=Fy hNw2;rw[hNl2]at hNlt2;obtain⟨t0,g1,g2,g3⟩:=oE hI vPn h hNlt ht3 hI2 hc2 hNlt2 hVW;have htop3:=Th (A:=A) (Z:=Z) (top:=(p2:Int)-(c:Int)) hNl2;have hstop3:=Xj (A:=A) (Z:=Z) (top:=(p2:Int)-(c:Int)) (t:=((0:Nat):Int)) hNl2;rw[hA]at htop3 hstop3;have wfin:IntKind.i64.wrap ((p2:Int)-(c:Int)+(c2:Int))=((0:Nat):Int):=by rw[g3];rfl
     have et:(t:Int)-1=((t-1:Nat):Int):=by omega
     obtain⟨f1,f2,f3⟩:=bl (P:=P) (V:=AP v) hNl2 hNw2 (z:=0) (by decide) (by rw[EQ,DR];exact g2.symm);have J1:=J _ f1 f2 f3;rw[g1]at J1;refine B8 ?_;refine An w1 3800 (by kernel_rfl) ?_;refine AD (CE wjn kN BR htop3 wfin) ?_;rw[hstop3,Tg,et];refine An w1 3900 (by kernel_rfl) ?_;refine AD (As kN BR hzq') ?_;rw[Mi];refine An w1 1500 (by kernel_rfl) ?_;refine AU wi' ?_;exact⟨(j,A++((N2++[0])++Z),q.set j (t-1),_),⟨by dsimp only;omega,J1⟩,by dsimp only;omega,AK⟩
   ·have e29:decide ((p2:Int)-(c:Int)<0)=false:=Ad (by omega)
    obtain⟨g1,g2⟩:=oD hI vPn h ht2;have ezc:(p2:Int)-(c:Int)=((p2-c:Nat):Int):=by omega
    obtain⟨f1,f2,f3⟩:=bl hNl hNw (z:=p2-c) (by omega) g2.symm;have J1:=J _ f1 f2 f3;rw[g1]at J1;refine AC.seq ?_;refine sZ 2900 ?_;refine AD (CE wjn kN BR htop2 e29) ?_;refine AM ?_;refine Am ?_;rw[ezc,Tg];refine An w1 3900 (by kernel_rfl) ?_;refine AD (As kN BR hzq') ?_;rw[Mi];refine An w1 1500 (by kernel_rfl) ?_;refine AU wi' ?_;exact⟨(j,A++((N++[p2-c])++Z),q.set j t,_),⟨by dsimp only;omega,J1⟩,by dsimp only;omega,AK⟩
 ·have hk:k=0:=by
   have:¬((k:Int)-1>=0):=by simpa using h20
   omega
  subst hk;obtain⟨q1,q2⟩:=jk f0 I vv;have wu:=I.wU;have wqq:=I.wq;have lu:=I.lU;have lqq:=I.lQ;have hlt:AP u<RB^(m+2):=by
   have:=I.less
   rw[FG]at this;have h:=Fy wv;rw[show v.length=m+2 from hvl]at h;omega
  have hta:=iH hlt (by omega);have hll:=Kz hlt;rw[q2]at hll hta;have ed:a%b*f/f=a%b:=Nat.mul_div_cancel _ f0;have cd:=WF (a%b*f) f f0 fl (by omega);rw[ed]at cd;clear I;refine B8 ?_;refine AC.weak ⟨[(8,.sl true 1 [Aa f]),(10,i64 ((m+2:Nat):Int)),(11,.sl false 1 (u.map Aa)),(12,.sl false 1 (q.map Aa))],[],_⟩ ⟨.drop (.drop .nil),⟨.refl _,.refl _,Tr lu,Tr lqq,trivial⟩,Ai _⟩ ?_;have e5:List.take (m+2) (u.map Aa)=(u.take (m+2)).map Aa:=by
   rw[NN]
  have eu2:(u.map Aa).length=la.length+1:=by rw[Ac];omega
  have ct:=LW (u.take (m+2)) (wu.take _) (by rw[Bb];omega);rw[hta]at ct;refine AC.seq ?_;refine B6 w1 4000 [0,1,2,3,4,5,6,7,8,9,10,11] [12] (by kernel_rfl) ?_;refine AD (BV kN Nat.sub_zero (@FG D) e5) ?_;refine BY.same _ ct AI ?_;have hf0:([Aa f]:List D)[0]?=some (Aa f):=rfl;refine AD kN ?_;refine Br kT hf0 ?_;refine AD kN ?_;refine BY.same _ cd AI ?_;refine AD kN ?_;refine sR 4100 ?_;refine A9.same _ (LW q wqq (by omega)) AI ?_;refine BO ?_;refine Aj ?_;exact AL (by rw[q1]) AA.out
theorem U8 (a b:Nat)(hb:b≠0)(ha:(AZ a).length<1000000)(hbl:(AZ b).length<1000000):AJ C0 176 [rD a,rD b] (.tup [rD (a/b),rD (a%b)]):=by
 rcases BA a b with h|h
 ·exact jl a b h ha hbl
 ·rcases hl:(AZ b).length with _|m
  ·have:=Ic b
   rw[hl]at this;simp at this;exact Ah this hb
  ·rcases m with _|m
   ·exact li a b h ha hl hb
   ·exact jm a b m h ha hl
abbrev rZ (z:Int):D:=.agg [Ap (decide (z<0)),rD z.natAbs]
def sg (neg:Bool)(n:Nat):Int:=if neg then -(n:Int)else n
theorem mQ {n:Nat}:0<(AZ n).length↔n≠0:=by
 constructor
 ·rintro h rfl
  rw[GV]at h;cases h
 ·intro h
  rw[Ie h,Bp];exact Nat.succ_pos _
theorem XG (n:Nat):decide (((((AZ n).map Aa).length:Nat):Int)>0)=decide (n≠0):=by
 have:=@mQ n
 rw[Ac];exact C4.2 ⟨λh=>this.1 (by omega),λh=>by have:=this.2 h;omega⟩
theorem wH (neg:Bool)(n:Nat):rZ (sg neg n)=.agg [Ap (neg&&decide (n≠0)),rD n]:=by
 unfold rZ sg;cases neg
 ·simp only[Ex,if_false,Gl,EJ]
  rw[Ad (by omega)]
 ·simp only[if_true,Fq,Lz,EJ]
  congr 3
  exact C4.2 (by omega)
theorem Q0 (z:Int):sg (decide (z<0)) z.natAbs=z:=by
 unfold sg
 by_cases h:z<0
 ·rw[AX h,AG rfl];omega
 ·rw[Ad h,AF (by decide)];omega
theorem UI (b:Bool)(n:Nat):B5 (.agg [Ap b,.sl false 1 ((AZ n).map Aa)]):=.agg λd hd=>by
 simp only[BF,DX,or_false]at hd;rcases hd with rfl|rfl
 ·exact .prim _
 ·exact OE _
def Ge (z:Int):Prop:=(AZ z.natAbs).length<1000000
instance  (b:Bool)(n:Nat):AA (.agg [Ap b,rD n]):=⟨UI b n⟩
theorem XQ (a b:Nat)(fa:(AZ a).length<1000000)(fb:(AZ b).length<1000000):AJ C0 175 [rD a,rD b] (rD (Nat.gcd a b)):=by
 refine Ag.walk w1 q9 rfl λF=>?_
 change AC C0 F none F _ ⟨DH 0 [.sl false 1 ((AZ a).map Aa),.sl false 1 ((AZ b).map Aa)],[],0⟩ _;refine sR 0 ?_;refine AC.seq ?_;refine AC.block ?_;refine AC.loop (α:=Nat×Nat×Nat) (λp=>⟨[(0,.sl false 1 ((AZ p.1).map Aa)),(1,.sl false 1 ((AZ p.2.1).map Aa))],[],p.2.2⟩) (λp=>p.2.1)
  (λp=>Nat.gcd p.1 p.2.1=Nat.gcd a b/\(AZ p.1).length<1000000/\(AZ p.2.1).length<1000000) (a,b,_) ⟨rfl,fa,fb⟩ AK ?_
 rintro⟨x,y,n⟩ F ⟨h1,h2,h3⟩;dsimp only at h1 h2 h3⊢;have et:=XG y;refine AC.seq ?_;refine sZ 100 ?_;refine AU et ?_
 by_cases hy:y=0
 ·rw[Ad (by simpa using hy)]
  subst hy;refine AM ?_;refine B8 ?_;refine sR 400 ?_;refine Aj ?_;refine AL (d0:=rD x) ?_ AA.out;rw[<-h1,Nat.gcd_zero_right]
 ·rw[AX hy]
  have cd:=U8 x y hy h2 h3;refine AM ?_;refine Am ?_;refine AC.block ?_;refine sR 200 ?_;refine cI cd ?_;refine rI 300 ?_;refine⟨(y,x%y,_),⟨?_,h3,?_⟩,B0 x (by omega),AK⟩
  ·dsimp only
   rw[<-h1,NP x y,Nat.gcd_rec y x,NP]
  ·exact DV (Ib _ _ (Nat.mod_le x y)) h2
theorem Xo (neg:Bool)(l:List Nat)(h:Rd l)(hl:l.length<1000000000):AJ C0 177 [Ap neg,rL l] (rZ (sg neg (AP l))):=by
 refine Ag.walk w1 aU rfl λF=>?_
 rw[wH];have ct:=LW l h (by omega);generalize AP l=n at*;have et:=XG n;unfold rD at ct⊢;unfold rL at ct⊢;refine sR 0 ?_;refine sR 100 ?_;refine cI ct ?_;refine AC.seq ?_;cases neg
 ·refine An w1 200 (by kernel_rfl) ?_
  refine AD et ?_;refine Aj ?_;exact AL (by simp) (UI _ n)
 ·refine An w1 200 (by kernel_rfl) ?_
  refine AD et ?_;refine Aj ?_;exact AL (by simp) (UI _ n)
theorem LE (neg:Bool)(n:Nat)(h:(AZ n).length<1000000000):AJ C0 177 [Ap neg,rD n] (rZ (sg neg n)):=by
 have:=Xo neg (AZ n) (ET n) h
 rwa [Dy]at this
theorem Ye (z:Int)(h:Ge z):AJ C0 174 [rZ z] (rZ (-z)):=by
 have cs:=LE (!decide (z<0)) z.natAbs (Ft h (by decide));have e:rZ (sg (!decide (z<0)) z.natAbs)=rZ (-z):=by
  congr 1
  unfold sg
  by_cases hz:z<0
  ·rw[AX hz];simp;omega
  ·rw[Ad hz];simp;omega
 rw[e]at cs;refine Ag.walk w1 q8 rfl λF=>?_
 refine sR 0 ?_;refine sR 100 ?_;refine cI cs ?_;refine Aj ?_;exact AL rfl AA.out
theorem Tv (x y:Int)(hx:Ge x)(hy:Ge y):AJ C0 125 [rZ x,rZ y] (rZ (x*y)):=by
 have cm:=Uz x.natAbs y.natAbs hx hy;have hl:(AZ (x.natAbs*y.natAbs)).length<1000000000:=DV (SJ _ _) (by unfold Ge at hx hy;omega);have cs:=λb=>LE b (x.natAbs*y.natAbs) hl
 have e:sg (decide (x<0) != decide (y<0)) (x.natAbs*y.natAbs)=x*y:=by
  conv=>rhs;rw[<-Q0 x,<-Q0 y]
  generalize decide (x<0)=a;generalize decide (y<0)=b;unfold sg;cases a<;>cases b<;>simp[Int.neg_mul,Int.mul_neg]
 rw[<-e];refine Ag.walk w1 rP rfl λF=>?_
 refine sR 0 ?_;refine AC.seq ?_;refine B6 w1 100 [0,1,2,3,4,5,6,7,8,9] [10,11] (by kernel_rfl) ?_;refine AD kN ?_;refine BY.same _ cm AI ?_;refine AD kN ?_;refine A9.same _ (cs _) AI ?_;refine BO ?_;refine Aj ?_;exact AL rfl AA.out
theorem lX {a b:Nat}(h:b<=a):decide (Dt (a:Int) (b:Int)>=0)=true:=AX (by unfold Dt;split<;>(try split)<;>omega)
theorem lY {a b:Nat}(h:a<b):decide (Dt (a:Int) (b:Int)>=0)=false:=Ad (by unfold Dt;split<;>(try split)<;>omega)
theorem tq (x y:Int)(hx:Ge x)(hy:Ge y):AJ C0 225 [rZ x,rZ y] (rZ (x+y)):=by
 refine Ag.walk w1 rJ rfl λF=>?_
 unfold Ge at hx hy;cases hs:(decide (x<0)==decide (y<0))
 ·have hs':decide (x<0)≠decide (y<0):=by simpa using hs
  have hs2:(x<0/\¬y<0)\/(¬x<0/\y<0):=by
   by_cases h1:x<0<;>by_cases h2:y<0<;>simp_all
  have cc:=RM x.natAbs y.natAbs (by omega) (by omega);refine sR 0 ?_;refine AC.seq ?_;refine sZ 100 ?_;refine AU hs ?_;refine AM ?_;refine Am ?_;refine AC.seq ?_;refine sR 300 ?_;refine cI cc ?_;rcases BA x.natAbs y.natAbs with h|h
  ·have cb:=dt y.natAbs x.natAbs (Jh h) hy
   have cs:=LE (decide (y<0)) (y.natAbs-x.natAbs) (DV (Vy _ _) (by omega));have e:sg (decide (y<0)) (y.natAbs-x.natAbs)=x+y:=by
    unfold sg
    by_cases hy0:y<0
    ·rw[AX hy0,AG rfl];omega
    ·rw[Ad hy0,AF (by decide)];omega
   rw[e]at cs;rw[lY h];refine AM ?_;refine Am ?_;refine AC.seq ?_;refine B6 w1 500 [0,1,2,3,4,5,6] [7,8] (by kernel_rfl) ?_;refine AD kN ?_;refine BY.same _ cb AI ?_;refine AD kN ?_;refine A9.same _ cs AI ?_;refine BO ?_;refine Aj ?_;exact AL rfl AA.out
  ·have cb:=dt x.natAbs y.natAbs h hx
   have cs:=LE (decide (x<0)) (x.natAbs-y.natAbs) (DV (Vy _ _) (by omega));have e:sg (decide (x<0)) (x.natAbs-y.natAbs)=x+y:=by
    unfold sg
    by_cases hx0:x<0
    ·rw[AX hx0,AG rfl];omega
    ·rw[Ad hx0,AF (by decide)];omega
   rw[e]at cs;rw[lX h];refine AM ?_;refine AC.seq ?_;refine B6 w1 400 [0,1,2,3,4,5,6] [7,8] (by kernel_rfl) ?_;refine AD kN ?_;refine BY.same _ cb AI ?_;refine AD kN ?_;refine A9.same _ cs AI ?_;refine BO ?_;refine Aj ?_;exact AL rfl AA.out
 ·have hs':decide (x<0)=decide (y<0):=by simpa using hs
  have ca:=v7 x.natAbs y.natAbs hx hy;have cs:=LE (decide (x<0)) (x.natAbs+y.natAbs) (DV (Vx _ _) (by omega));have e:sg (decide (x<0)) (x.natAbs+y.natAbs)=x+y:=by
   unfold sg
   by_cases hx0:x<0
   ·have hy0:y<0:=DA (hs'.symm.trans (AX hx0))
    rw[AX hx0,AG rfl];omega
   ·have hy0:¬y<0:=DL (hs'.symm.trans (Ad hx0))
    rw[Ad hx0,AF (by decide)];omega
  rw[e]at cs;refine sR 0 ?_;refine AC.seq ?_;refine sZ 100 ?_;refine AU hs ?_;refine AM ?_;refine AC.seq ?_;refine B6 w1 200 [0,1,2,3,4,5,6] [7,8] (by kernel_rfl) ?_;refine AD kN ?_;refine BY.same _ ca AI ?_;refine AD kN ?_;refine A9.same _ cs AI ?_;refine BO ?_;refine Aj ?_;exact AL rfl AA.out
theorem gi (k m:Nat):Ej (k+1) m []=Ej k (m/10) []++[UInt8.ofNat (48+m%10)]:=by
 rw[<-V6 (k+1) m [] (.inr (Nat.succ_pos k))];unfold Ej Lt
 by_cases h:m/10=0
 ·rw[AG h,AG h];simp
 ·rw[AF h,AF h]
  rw[DB,Bh,GS,Nat.add_sub_add_right,Di]
theorem Ti:∀(k hi d:Nat),hi≠0->d<10^k->Lib.decDigits (hi*10^k+d)=Lib.decDigits hi++Ej k d []
 | 0,hi,d,_,hd=>by
  have h0:d=0:=by simpa using hd
  subst h0;rw[L0,D6,DR];simp[Ej,Lt]
 |k+1,hi,d,hh,hd=>by
  have e1:hi*10^(k+1)=10*(hi*10^k):=by rw[CH,<-Bx,BQ]
  have h1:1<=10^k:=Nat.pow_pos (by decide);have h2:1<=hi*10^k:=HJ (Dx hh) h1;have h3:¬hi*10^(k+1)+d<10:=by omega
  have h4:d/10<10^k:=by rw[CH]at hd;omega
  rw[gi,<-Di,<-Ti k hi (d/10) hh h4];rw[Lib.decDigits,dif_neg h3,e1]
  congr 2
  ·omega
  ·congr 1;omega
theorem pZ (hi d:Nat)(h:hi≠0)(hd:d<RB):Lib.decDigits (d+RB*hi)=Lib.decDigits hi++Ej 9 d []:=by
 have:=Ti 9 hi d h (CV hd (by decide))
 rw[<-this]
 congr 1
 rw[BQ,Kp]
theorem OG {l:List Nat}(h:Rd l):(Lib.decDigits (AP l)).length<=9*l.length+1:=by
 have h1:=Fy h;have e:RB^l.length=10^(9*l.length):=by rw[Nat.pow_mul]
 rw[e]at h1;refine L7 _ _ (Ft h1 ?_);exact Nat.pow_lt_pow_right (by decide) (HK _)
theorem YY (neg:Bool)(n:Nat)(h:neg=true->n≠0):Lib.itoa (sg neg n)=if neg then 45::Lib.decDigits n else Lib.decDigits n:=by
 unfold Lib.itoa sg;cases neg
 ·simp only[Ex,if_false]
  rw[AF (by omega)];rfl
 ·have:=h rfl
  simp only[if_true];rw[AG (by omega),Lz];rfl
theorem un (neg:Bool)(n:Nat)(h:neg=true->n≠0)(hl:(AZ n).length<1000000):AJ C0 126 [.agg [Ap neg,rD n]] (str (sb (Lib.itoa (sg neg n)))):=by
 refine Ag.walk w1 rQ rfl λF=>?_
 rw[YY neg n h];change AC C0 F none F _ ⟨DH 0 [.agg [Ap neg,.sl false 1 ((AZ n).map Aa)]],[],0⟩ _;have vn:=Dy n;have wn:=ET n;have tp:=λk a=>Pg n (k:=k) (a:=a)
 generalize AZ n=l at*;subst vn;rcases hc:l.length with _|m
 ·have e0:l=[]:=FF hc
  subst e0;have hn:neg=false:=by cases neg;rfl;exact Ah rfl (h rfl)
  subst hn;have e1:Lib.decDigits (AP [])=[48]:=by unfold Lib.decDigits AP;rw[dif_pos (by decide)];rfl
  rw[AF (by decide),e1];refine sR 0 ?_;refine AC.seq ?_;refine sR 100 ?_;refine AM ?_;refine sR 200 ?_;refine Aj ?_;exact AL rfl AA.out
 ·obtain⟨y,hy⟩:=CR (l:=l) (i:=m) (by omega)
  have yl:=wn y (Ax hy);have y0:=tp m y hc hy;have hy':=Do hy;have el:(((l.map Aa).length:Nat):Int)=((m+1:Nat):Int):=by rw[Ac,hc]
  have et:(((m+1:Nat):Int)==0)=false:=Bu.2 (by omega);have w0:IntKind.i64.wrap (((m+1:Nat):Int)-1)=(m:Int):=by rw[wI (by omega) (by omega)];omega
  have w2:IntKind.i64.wrap (((m+1:Nat):Int)-2)=(m:Int)-1:=by rw[wI (by omega) (by omega)];omega
  have cd:=Pl y 1 (by unfold RB at yl;omega);rw[YG]at cd;have wr0:IntKind.i64.wrap ((((l.map Aa).length:Nat):Int)-1)=(m:Int):=by rw[el,w0]
  have ed:l.drop m=[y]:=by
   rw[EI (by omega),HI (by omega)];rw[BE (by omega)]at hy;rw[Fs hy]
  refine sR 0 ?_;refine AC.seq ?_;refine sZ 100 ?_;refine AU (Ae el et) ?_;refine AM ?_;refine Am ?_;refine sZ 300 ?_;refine AD (BV el w0 wr0 kN) ?_;refine Br kT hy' ?_;refine AD kN ?_;refine A9.same _ cd AI ?_;refine BO ?_;have ev:AP (l.drop m)=y:=by rw[ed];simp[AP]
  refine AC.seq ?_;refine sZ 400 ?_;refine AU (Ae el w2) ?_;refine AC.block ?_;refine AC.loop (α:=Nat×Nat) (λp=>⟨[(1,.optr 0 0 2 0 0),(3,str (sb (Lib.decDigits (AP (l.drop p.1))))),(4,i64 ((p.1:Int)-1))],[⟨0,0,165,2,[.agg [Ap neg,.sl false 1 (l.map Aa)]]⟩],p.2⟩) (λp=>p.1)
   (λp=>p.1<=m/\AP (l.drop p.1)≠0) (m,_) ⟨Ai _,by dsimp only;rw[ev];exact y0⟩ (by dsimp only;rw[ev];exact AK) ?_
  rintro⟨k,n1⟩ F ⟨h1,h2⟩;dsimp only at h1 h2⊢;clear cd;refine AC.seq ?_;refine sR 500 ?_;refine AM ?_
  (refine Bw (λh20=>?_) (λh20=>?_))<;>(try simp only[Bi,Bv]at h20)<;>(try simp only[h20])
  ·obtain⟨j,rfl⟩:∃j,k=j+1:=⟨k-1,by
    have:(k:Int)-1>=0:=by simpa using h20
    omega⟩
   have wj:((j+1:Nat):Int)-1=(j:Int):=by omega
   obtain⟨d,hd⟩:=CR (l:=l) (i:=j) (by omega);have hd':=Do hd;have dl:=wn d (Ax hd);have c9:=Pl d 9 (by unfold RB at dl;omega);have eD:Lib.decDigits (AP (l.drop (j+1)))++Ej 9 d []=Lib.decDigits (AP (l.drop j)):=by rw[Pp hd,pZ _ _ h2 dl]
   have hlen:=OG (l:=l.drop j) λa ha=>wn a (Jj ha)
   rw[<-eD,Bh,Dc]at hlen;have h3:AP (l.drop j)≠0:=by
    rw[Pp hd]
    have:0<RB*AP (l.drop (j+1)):=HJ (by decide) (Dx h2)
    omega
   have z1:=Cd (Lib.decDigits (AP (l.drop (j+1))));have z2:=OF (Ej 9 d []);have wi:IntKind.i64.wrap ((j:Int)-1)=(j:Int)-1:=wI (by omega) (by omega);rw[wj];refine Am ?_;refine AC.seq ?_;refine AC.block ?_;refine An w1 700 (by kernel_rfl) ?_;refine AD kN ?_;refine Br kT hd' ?_;refine AD kN ?_;refine A9.same _ c9 AI ?_;refine BO ?_;rw[In,eD];refine An w1 600 (by kernel_rfl) ?_;refine AU wi ?_;exact⟨(j,_),⟨by dsimp only;omega,h3⟩,by dsimp only;omega,AK⟩
  ·have hk:k=0:=by
    have:¬((k:Int)-1>=0):=by simpa using h20
    omega
   subst hk;rw[FG]at h2⊢;have hlen:=OG wn;have z1:=Cd (Lib.decDigits (AP l));have z2:(⟨#[45]⟩:ByteArray).size=1:=rfl;refine B8 ?_;refine AC.seq ?_;refine AC.seq ?_;cases neg
   ·refine rI 800 ?_
    refine AM ?_;refine Am ?_;rw[AF (by decide)];refine sR 1000 ?_;refine Aj ?_;exact AL rfl AA.out
   ·refine rI 800 ?_
    refine AM ?_;rw[AG rfl];refine sR 900 ?_;refine Aj ?_;refine AL ?_ AA.out;show str ((⟨([45]:List UInt8).toArray⟩:ByteArray)++⟨(Lib.decDigits (AP l)).toArray⟩)=_;rw[In];rfl
theorem bI (z:Int)(h:Ge z):AJ C0 126 [rZ z] (str (sb (Lib.itoa z))):=by
 have:=un (decide (z<0)) z.natAbs (λh=>by have:=DA h;omega) h
 rwa [Q0]at this
theorem NE {C:BC}{f:Nat}{ds ds':List D}{Φ:D->Prop}{H:Hp}{n:Nat}(Hf:Hp)(hc:Ag C f ds' Φ)(hH:Ci H Hf H Hf)(hv:ES H Hf ds ds')
  (hp:Ak ds'):Ca C f ds H n (λd' H' n'=>Φ d'/\H'=Hf/\n'=n+1):=by
 refine⟨hc.1,λF ρ w vs m hfr hg hvs hr=>?_⟩;obtain⟨m',hO,hN⟩:=hH.mem m;obtain⟨l1,l2⟩:=hv.spec;refine(hc.2 (AN F.X ρ Hf) w vs m.g (BU m.gn m.size) (λb hb=>m'.own_lt hb) (by omega) λi x hx=>?_).mono ?_
 ·have hi:i<ds'.length:=(List.getElem?_eq_some_iff.1 hx).1
  have hd0:ds[i]?=some ds[i]:=BE (by omega);exact hp.out x (Ax hx) _ _ _ _ _ ((l2 i _ x hd0 hx).rep m hO hN (hr i _ hd0))
 ·rintro e w' ⟨v,d',rfl,hb,hd',rep⟩
  have hb2:∀(b:Nat) (cs:Array Value) (T:Nat) (fz:Nat×Nat),w.heap[b]?=some (.cells cs T fz)->∃(cs':Array Value) (fz':Nat×Nat),w'.heap[b]?=some (.cells cs' T fz')/\cs'.size=cs.size:=λb cs T fz hh=>⟨cs,_,by
   rw[hb.block b (Array.getElem?_eq_some_iff.1 hh).1];exact hh,rfl⟩
  have x:BT ρ (AN F.X ρ H) w ρ (AN F.X ρ Hf) w':=⟨hb.size,λ_ _ _ h=>h,λb hb' hO2=>⟨λh=>hO2 (hO b h),hb.block b hb'⟩,hb2⟩
  have x':BT ρ (AN F.X ρ Hf) w ρ (AN F.X ρ Hf) w':=⟨hb.size,λ_ _ _ h=>h,λb hb' hO2=>⟨hO2,hb.block b hb'⟩,hb2⟩
  refine⟨v,_,Hf,n+1,ρ,rfl,⟨hd',rfl,rfl⟩,m'.same x' hb.os hb.tape hb.output hb.block,x,λk g hg'=>hfr k g (by omega),λe he=>?_,rep.mono ⟨Ai _,λ_ _ _ h=>(by cases h),λb _ hO2=>⟨hO2,rfl⟩,λb cs T fz h=>⟨cs,_,h,rfl⟩⟩⟩;obtain⟨e',h1,h2,h3,_⟩:=hH.names e he
  have:=hg e' h1
  omega
theorem iK {l:List UInt8}{i:Nat}{c:UInt8}(hc:l[i]?=some c)(hi:i<=BJ l):(((c.toNat:Nat):Int)==47)=decide (i=BJ l):=by
 have e1:(((c.toNat:Nat):Int)==47)=(c==47):=by
  rw[FW,D7,D7,<-UInt8.toNat_inj];exact⟨λh=>(show c.toNat=47 by omega),λh=>by rw[h];rfl⟩
 rw[e1];unfold BJ at hi⊢;clear e1
 induction l generalizing i with
 |nil=>cases hc
 |cons a l ih=>
  rw[PM]at hi⊢;cases i with
  |zero=>
   cases hc
   by_cases h:c=47
   ·subst h;rfl
   ·have h1:(c != 47)=true:=by simpa using h
    have h2:(c==47)=false:=by simpa using h
    rw[AG h1,h2,Bp,Ad (by omega)]
  |succ i=>
   by_cases h:a=47
   ·subst h
    exact Ah hi (by simp)
   ·have h1:(a != 47)=true:=by simpa using h
    rw[AG h1,Bp]at hi⊢;rw[ih hc (by omega)];exact C4.2 (by omega)
theorem Qh (l:List UInt8)(h:l.all Be=true)(hl:l.length<=18):AJ C0 170 [str (sb l)] (i64 (dv l:Int)):=by
 refine Ag.walk w1 rl rfl λF=>?_
 have hsz:=Cd l;refine sR 0 ?_;refine sR 100 ?_;refine AC.seq ?_;refine sR 200 ?_;refine AC.block ?_;refine AC.loop (α:=Nat×Nat) (λp=>⟨[(0,str (sb l)),(3,i64 (dv (l.take p.1):Int)),(4,i64 (p.1:Int))],[],p.2⟩) (λp=>l.length-p.1) (λp=>p.1<=l.length) (0,_) (BS _) AK ?_;rintro⟨i,n⟩ F hi;dsimp only at hi⊢;refine AC.seq ?_;refine sZ 300 ?_;refine AU hsz ?_;refine AM ?_
 (refine Bw (λhlt=>?_) (λhlt=>?_))<;>(try simp only[Bi,Bv]at hlt)<;>(try simp only[hlt])
 ·have hi2:i<l.length:=by
   have:=DA hlt
   omega
  obtain⟨c,hc⟩:∃c,l[i]?=some c:=⟨l[i],BE hi2⟩
  have hcd:Be c=true:=CS.1 h c (Ax hc);obtain⟨c1,c2⟩:=K5 hcd;have hg:(sb l).data.toList.getD i 0=c:=by
   show(l.toArray.toList).getD i 0=c;simp[hc]
  have hdl:dv (l.take i)<10^17:=by
   have:=GA (l.take i) (CS.2 λa ha=>CS.1 h a (Gm ha))
   rw[Bb,Eu hi]at this;exact CV this (FH (by decide) (by omega))
  have hnx:dv (l.take (i+1))=dv (l.take i)*10+(c.toNat-48):=by
   rw[DW,hc];show dv (l.take i++[c])=_;rw[Nu];simp[dv,Gk]
  have k1:IntKind.i64.wrap (10*(dv (l.take i):Int))=((10*dv (l.take i):Nat):Int):=by rw[wI (by omega) (by omega)];omega
  have k2:IntKind.i64.wrap ((c.toNat:Nat):Int)=((c.toNat:Nat):Int):=wI (by omega) (by omega);have k3:IntKind.i64.wrap (((10*dv (l.take i):Nat):Int)+((c.toNat:Nat):Int))=((10*dv (l.take i)+c.toNat:Nat):Int):=by rw[wI (by omega) (by omega)];omega
  have k4:IntKind.i64.wrap (((10*dv (l.take i)+c.toNat:Nat):Int)-48)=((dv (l.take (i+1)):Nat):Int):=by rw[hnx,wI (by omega) (by omega)];omega
  have wi:IntKind.i64.wrap ((i:Int)+1)=((i+1:Nat):Int):=wI (by omega) (by omega);refine Am ?_;refine AC.seq ?_;refine AC.block ?_;refine An w1 500 (by kernel_rfl) ?_;refine AU (Dj kN hg k1 k2 k3 k4) ?_;refine An w1 400 (by kernel_rfl) ?_;refine AU wi ?_;exact⟨(i+1,_),hi2,by dsimp only;omega,AK⟩
 ·have hi2:i=l.length:=by
   have:=DL hlt
   omega
  subst hi2;rw[B7 (Ai _)];refine B8 ?_;refine sR 600 ?_;refine Aj ?_;exact AL rfl AA.out
theorem Ts (l:List UInt8)(hl:l.length<=1000000000):AJ C0 169 [str (sb l)] (i64 (BJ l:Int)):=by
 refine Ag.walk w1 rj rfl λF=>?_
 have hsz:=Cd l;refine sR 0 ?_;refine AC.seq ?_;refine sR 100 ?_;refine AC.block ?_;refine AC.loop (α:=Nat×Nat) (λp=>⟨[(0,str (sb l)),(3,i64 (p.1:Int))],[],p.2⟩) (λp=>l.length-p.1) (λp=>p.1<=BJ l) (0,_) (BS _) AK ?_;rintro⟨i,n⟩ F hi;dsimp only at hi⊢;have hsl:=K8 l;refine AC.seq ?_;refine sZ 200 ?_;refine AU hsz ?_;refine AM ?_
 (refine Bw (λhlt=>?_) (λhlt=>?_))<;>(try simp only[Bi,Bv]at hlt)<;>(try simp only[hlt])
 ·have hi2:i<l.length:=by
   have:=DA hlt
   omega
  obtain⟨c,hc⟩:∃c,l[i]?=some c:=⟨l[i],BE hi2⟩
  have hg:(sb l).data.toList.getD i 0=c:=by
   show(l.toArray.toList).getD i 0=c;simp[hc]
  have wi:IntKind.i64.wrap ((i:Int)+1)=((i+1:Nat):Int):=wI (by omega) (by omega);have ht:(((c.toNat:Nat):Int)==47)=decide (i=BJ l):=iK hc hi;refine Am ?_;refine AC.seq ?_;refine AC.block ?_;refine sZ 400 ?_;refine AU (As kN hg ht) ?_
  by_cases he:i=BJ l
  ·rw[AX he]
   refine AM ?_;refine sR 500 ?_;refine Aj ?_;exact AL (by rw[he]) AA.out
  ·rw[Ad he]
   refine AM ?_;refine Am ?_;refine An w1 300 (by kernel_rfl) ?_;refine AU wi ?_;exact⟨(i+1,_),by dsimp only;omega,by dsimp only;omega,AK⟩
 ·have hi2:i=l.length:=by
   have:=DL hlt
   omega
  refine B8 ?_;refine sZ 600 ?_;refine AU hsz ?_;refine Aj ?_;exact AL (by congr 3;omega) AA.out
theorem Xe {H Hf:Hp}{K g T:Nat}{l:List Nat}{N:Nat}(hl:l.length=N)(he:Hp.get H K=some ⟨K,g,T,1,l.map Aa⟩:=by exact rfl)(hn:Hp.get Hf K=none:=by exact rfl):Fz H Hf (.osl K g 1 0 N) (.sl false 1 (l.map Aa)):=by
 subst hl;have key:∀(j:Nat) (d d':D),(l.map Aa)[0+j]?=some d->(l.map Aa)[j]?=some d'->d=d':=λj d d' h1 h2=>by
  rw[BR]at h1;rw[h1]at h2;exact Fs h2
 refine .osl (e:=⟨K,g,T,1,l.map Aa⟩) he hn rfl rfl (by simp) (by simp) (λj d d' h1 h2=>by rw[key j d d' h1 h2]) λj d d' q c c' h1 h2 h3 h4=>?_
 rw[key j d d' h1 h2]at h3;rw[h3]at h4;cases h4;exact Fz.refl _
theorem QH (c:UInt8)(l:List UInt8):(((c.toNat:Nat):Int)==45)=DJ (c::l):=by
 show _=(c==45);rw[FW,D7,D7,<-UInt8.toNat_inj];exact⟨λh=>(show c.toNat=45 by omega),λh=>by rw[h];rfl⟩
abbrev Mu:Aw:=⟨0,0,165,2,[.agg [Ap false,CP]]⟩
theorem pg {x:List UInt8}(h:9<x.length):dv x=dv (x.take (x.length-9))*RB+dv (x.drop (x.length-9)):=by
 conv=>lhs;rw[<-Ev (x.length-9) x,Nu,Dc,show x.length-(x.length-9)=9 by omega]
theorem tv (A B t n v:Nat):(A*B+t)*B^n+v=A*B^(n+1)+(v+B^n*t):=by
 rw[Bs,Bx,CH,BQ B,BQ t];omega
theorem Wc {x x0:List UInt8}{w:List Nat}(h9:9<x.length)(g1:x.all Be=true)(g2:x.length+w.length*9=x0.length)(g3:Rd w)(g4:dv x0=dv x*RB^w.length+AP w):
  (x.take (x.length-9)).all Be=true/\(x.take (x.length-9)).length+(w++[dv (x.drop (x.length-9))]).length*9=x0.length/\Rd (w++[dv (x.drop (x.length-9))]) /\
  dv x0=dv (x.take (x.length-9))*RB^(w++[dv (x.drop (x.length-9))]).length+AP (w++[dv (x.drop (x.length-9))]):=by
 refine⟨CS.2 λa ha=>CS.1 g1 a (Gm ha),?_,Rd.append g3 λa ha=>?_,?_⟩
 ·rw[Bb,Bh,GS];omega
 ·simp only[BF,DX,or_false]at ha
  subst ha
  have:=GA (x.drop (x.length-9)) (CS.2 λa ha=>CS.1 g1 a (Jj ha))
  rwa [Dc,show x.length-(x.length-9)=9 by omega]at this
 ·rw[g4,pg h9,Gv rfl,Bh,GS]
  exact tv _ _ _ _ _
theorem kA {x x0:List UInt8}{w:List Nat}(h9:x.length<=9)(g1:x.all Be=true)(g3:Rd w)(g4:dv x0=dv x*RB^w.length+AP w):Rd (w++[dv x])/\AP (w++[dv x])=dv x0:=by
 refine⟨Rd.append g3 λa ha=>?_,?_⟩
 ·simp only[BF,DX,or_false]at ha
  subst ha;exact CV (GA x g1) (FH (by decide) h9)
 ·rw[g4,Gv rfl,BQ,Kp]
theorem YO {w:List Nat}{a:Nat}:List.take w.length (w.map Aa)++[i64 (a:Int)]=(w++[a]).map Aa:=by
 rw[B7 (by rw[Ac];exact Ai _),Cs];rfl
theorem Yy (l:List UInt8)(hd:(Bo l).all Be=true)(hl:l.length<=1000000):AJ C0 173 [str (sb l)] (rZ (rv l)):=by
 have er:rv l=sg (DJ l) (dv (Bo l)):=rfl;rw[er];refine Ag.walk w1 ro rfl λF=>?_
 have hsz:=Cd l;have hdl:(Bo l).length<=l.length:=by
  unfold Bo;split
  ·rw[Dc];omega
  ·exact Ai _
 refine sR 0 ?_;refine Cz (α:=Nat) (λn=>⟨[(0,str (sb l)),(2,.optr 0 0 2 0 0),(3,Ap (DJ l))],[Mu],n⟩) (λ_=>True) ?_ ?_
 ·cases l with
  |nil=>
   have e0:(sb []).size=0:=rfl;have e1:decide (((0:Nat):Int)>0)=false:=rfl;refine An w1 100 (by kernel_rfl) ?_;refine AD (Ae e0 e1) ?_;refine AD (Ae kF e1) ?_;exact⟨trivial,_,trivial,AK⟩
  |cons c l=>
   have hpos:(sb (c::l)).size=l.length+1:=hsz;have e0:decide (((sb (c::l)).size:Int)>0)=true:=AX (by omega);have e1:((((c::l).getD (Int.toNat 0) 0).toNat:Int)==45)=DJ (c::l):=QH c l;refine An w1 100 (by kernel_rfl) ?_;refine AD e0 ?_;refine AD (As kT e0 e1) ?_;exact⟨trivial,_,trivial,AK⟩
 rintro n0 -;refine Cz (α:=Nat) (λn=>⟨[(0,str (sb (Bo l))),(2,.optr 0 0 2 0 0),(3,Ap (DJ l))],[Mu],n⟩) (λ_=>True) ?_ ?_
 ·refine sR 200 ?_
  cases hb:DJ l
  ·have ed:Bo l=l:=by unfold Bo;rw[hb];rfl
   rw[ed];refine AM ?_;refine Am ?_;exact⟨rfl,_,trivial,AK⟩
  ·have ed:Bo l=l.drop 1:=by unfold Bo;rw[hb];rfl
   have hl0:1<=l.length:=by
    cases l with
    |nil=>cases hb
    |cons c l=>rw[Bp];omega
   have ee:(sb l).extract (Int.toNat 1) l.length=sb (Bo l):=by
    rw[Ek,B7 (Ai _),ed];rfl
   refine AM ?_;refine An w1 300 (by kernel_rfl) ?_;refine AD (Ae hsz kN) ?_;rw[ee];exact⟨trivial,_,trivial,AK⟩
 rintro n1 -;generalize DJ l=neg at*;generalize Bo l=x0 at*;clear er hsz;have hx0:x0.length<=1000000:=BU hdl hl;clear hdl hl l;refine sR 400 ?_;refine AC.seq ?_;refine AC.block ?_;refine AC.loop (α:=Bool×List UInt8×List Nat×Nat×Nat) (λp=>match p with
  |(false,x,_,_,n)=>⟨[(0,str (sb x)),(2,.optr 0 0 2 0 0),(3,Ap neg),(4,CP)],[Mu],n⟩
  |(true,x,w,g,n)=>⟨[(0,str (sb x)),(2,.optr 0 0 2 0 0),(3,Ap neg),(4,.osl 608 g 1 0 w.length)],[⟨608,g,3,1,w.map Aa⟩,Mu],n⟩) (λp=>p.2.1.length)
  (λp=>p.2.1.all Be=true/\p.2.1.length+p.2.2.1.length*9=x0.length/\Rd p.2.2.1/\dv x0=dv p.2.1*RB^p.2.2.1.length+AP p.2.2.1/\(p.1=false->p.2.2.1=[]))
  (false,x0,[],0,_) ⟨hd,rfl,(λa ha=>by cases ha),by simp[AP],λ_=>rfl⟩ AK ?_
 rintro⟨t,x,w,g,n2⟩ F ⟨g1,g2,g3,g4,g5⟩;dsimp only at g1 g2 g3 g4 g5;have hsz:=Cd x
 by_cases h9:9<x.length
 ·have ht:decide ((x.length:Int)>9)=true:=AX (by omega)
  have cv:=Qh (x.drop (x.length-9)) (CS.2 λa ha=>CS.1 g1 a (Jj ha)) (by rw[Dc];omega);have wk:IntKind.i64.wrap ((x.length:Int)-9)=((x.length-9:Nat):Int):=by rw[wI (by omega) (by omega)];omega
  have wr:IntKind.i64.wrap (((sb x).size:Int)-9)=((x.length-9:Nat):Int):=by rw[hsz,wk]
  have e1:(sb x).extract (x.length-9) x.length=sb (x.drop (x.length-9)):=by rw[Ek,B7 (Ai _)]
  have e2:(sb x).extract 0 (x.length-9)=sb (x.take (x.length-9)):=by rw[Ek,FG]
  cases t
  ·dsimp only
   obtain rfl:=g5 rfl;refine AC.seq ?_;refine sZ 500 ?_;refine AU (Ae hsz ht) ?_;refine AM ?_;refine Am ?_;refine AC.block ?_;refine sZ 600 ?_;refine AD (CE hsz wk wr kN e1) ?_;refine A9.same _ cv AI ?_;refine BO ?_;have J:=Wc h9 g1 g2 g3 g4;rw[EO]at J;refine An w1 700 (by kernel_rfl) ?_;refine AD (BV hsz wk wr kN) ?_;refine AD e2 ?_;exact⟨(true,x.take (x.length-9),[dv (x.drop (x.length-9))],n2+11,_),⟨J.1,J.2.1,J.2.2.1,J.2.2.2,λh=>by cases h⟩,by dsimp only;rw[Bb];omega,AK⟩
  ·dsimp only
   clear g5;have J:=Wc h9 g1 g2 g3 g4;have ew:(w.map Aa).length=w.length:=Ac _;have el:w.length+1=(w++[dv (x.drop (x.length-9))]).length:=by rw[Bh];rfl
   refine AC.seq ?_;refine sZ 500 ?_;refine AU (Ae hsz ht) ?_;refine AM ?_;refine Am ?_;refine AC.block ?_;refine sZ 600 ?_;refine AD (CE hsz wk wr kN e1) ?_;refine A9.same _ cv AI ?_;refine BO ?_;rw[YO,el];refine An w1 700 (by kernel_rfl) ?_;refine AD (BV hsz wk wr kN) ?_;refine AD e2 ?_;exact⟨(true,x.take (x.length-9),w++[dv (x.drop (x.length-9))],n2+11,_),⟨J.1,J.2.1,J.2.2.1,J.2.2.2,λh=>by cases h⟩,by dsimp only;rw[Bb];omega,AK⟩
 ·have ht:decide ((x.length:Int)>9)=false:=Ad (by omega)
  have cv:=Qh x g1 (by omega);obtain⟨r1,r2⟩:=kA (by omega) g1 g3 g4;have cs:=Xo neg (w++[dv x]) r1 (by rw[Bh,GS];omega);rw[r2]at cs;cases t
  ·dsimp only
   obtain rfl:=g5 rfl;refine AC.seq ?_;refine sZ 500 ?_;refine AU (Ae hsz ht) ?_;refine AM ?_;refine B8 ?_;refine sR 800 ?_;refine A9.same _ cv AI ?_;refine BO ?_;refine A9.own _ (NE [Mu] cs (.drop (.keep .nil)) ⟨.refl _,Xe rfl,trivial⟩ AI) ?_;rintro d H' n' ⟨rfl,rfl,rfl⟩;refine BO ?_;refine Aj ?_;exact AL rfl AA.out
  ·dsimp only
   clear g5;have ew:(w.map Aa).length=w.length:=Ac _;have el:w.length+1=(w++[dv x]).length:=by rw[Bh];rfl
   refine AC.seq ?_;refine sZ 500 ?_;refine AU (Ae hsz ht) ?_;refine AM ?_;refine B8 ?_;refine sR 800 ?_;refine A9.same _ cv AI ?_;refine BO ?_;rw[YO,el];refine A9.own _ (NE [Mu] cs (.drop (.keep .nil)) ⟨.refl _,Xe rfl,trivial⟩ AI) ?_;rintro d H' n' ⟨rfl,rfl,rfl⟩;refine BO ?_;refine Aj ?_;exact AL rfl AA.out
def VV (o:Option D):Bool:=match o with
 |some (.agg [.prim (.bool false),.sl false 1 [.prim (.int .i64 1)]])=>true
 |_=>false
theorem mK {o:Option D}(h:VV o=true):o=some (rZ 1):=by
 have h1:AZ 1=[1]:=Pf (by decide) (by decide);unfold VV at h;split at h
 ·show _=some (D.agg [Ap (decide ((1:Int)<0)),rL (AZ 1)])
  rw[h1];rfl
 ·cases h
theorem iQ:VV ((GT X1 1000 60).1 127 [i64 1])=true:=by kernel_rfl
theorem kK:AJ C0 127 [i64 1] (rZ 1):=CD DT 1000 60 (mK iQ)
def O4 (l:List UInt8):Int:=rv (Bz l)
def Ov (l:List UInt8):Int:=if Cv l then rv (BZ l)else 1
instance  (x y:Int):AA (.tup [rZ x,rZ y]):=⟨.tup λd hd=>by
 simp only[BF,DX,or_false]at hd;rcases hd with rfl|rfl
 ·exact AA.out
 ·exact AA.out⟩
theorem TZ (l:List UInt8)(hn:(Bo (Bz l)).all Be=true)(hd:(Bo (BZ l)).all Be=true)(hl:l.length<=1000000):AJ C0 123 [str (sb l)] (.tup [rZ (O4 l),rZ (Ov l)]):=by
 refine Ag.walk w1 rN rfl λF=>?_
 have hsz:=Cd l;have cs:=Ts l (by omega);have hsl:=K8 l;have c1:=Yy (Bz l) hn (by unfold Bz;rw[Bb];omega);have c2:=Yy (BZ l) hd (by unfold BZ;rw[Dc];omega);have cw:=kK;unfold O4 Ov;refine sR 0 ?_;refine sR 100 ?_;refine sR 200 ?_;refine cI cs ?_;cases hh:Cv l
 ·have he:BJ l=l.length:=by
   unfold Cv at hh
   have:=DL hh
   omega
  have e0:(((BJ l:Nat):Int)==(l.length:Int))=true:=D7.2 (by omega);have en:Bz l=l:=by unfold Bz;rw[he,B7 (Ai _)]
  rw[en]at c1⊢;refine AC.seq ?_;refine sZ 300 ?_;refine AU (Ae hsz e0) ?_;refine AM ?_;refine sR 400 ?_;refine cI c1 ?_;refine A9.same _ cw AI ?_;refine BO ?_;refine Aj ?_;exact AL rfl AA.out
 ·have he:BJ l<l.length:=DA hh
  have e0:(((BJ l:Nat):Int)==(l.length:Int))=false:=Bu.2 (by omega);have x1:(sb l).extract 0 (BJ l)=sb (Bz l):=by rw[Ek,FG];rfl
  have x2:(sb l).extract (BJ l+1) l.length=sb (BZ l):=by rw[Ek,B7 (Ai _)];rfl
  have wk:IntKind.i64.wrap (((BJ l:Nat):Int)+1)=((BJ l+1:Nat):Int):=wI (by omega) (by omega);refine AC.seq ?_;refine sZ 300 ?_;refine AU (Ae hsz e0) ?_;refine AM ?_;refine Am ?_;refine AC.seq ?_;refine B6 w1 500 [0,1,2,3,4,5,6,7] [8,9,10] (by kernel_rfl) ?_;refine AD (CE hsz wk kN x1 x2) ?_;refine BY.same _ c1 AI ?_;refine AD (CE hsz wk kN x1 x2) ?_;refine A9.same _ c2 AI ?_;refine BO ?_;refine Aj ?_;exact AL rfl AA.out
def BN (r:Rat):List UInt8:=if r.den=1 then Lib.itoa r.num else Lib.itoa r.num++47::Lib.decDigits r.den
def qZ (x y:Int):Rat:=mkRat (if y<0 then -x else x) y.natAbs
theorem TD {x:Int}{d:Nat}(hd:d≠0):(mkRat x d).num=sg (decide (x<0)) (x.natAbs/Nat.gcd x.natAbs d)/\(mkRat x d).den=d/Nat.gcd x.natAbs d:=by
 rw[mkRat,dif_neg hd,Rat.normalize_eq];refine⟨?_,rfl⟩;dsimp only;have hg:0<Nat.gcd x.natAbs d:=PB _ (Dx hd);obtain⟨p,hp⟩:=Nat.gcd_dvd_left x.natAbs d;have e1:x.natAbs/Nat.gcd x.natAbs d=p:=by
  refine Nat.div_eq_of_eq_mul_right hg hp
 have e2:x=(Nat.gcd x.natAbs d:Int)*sg (decide (x<0)) p:=by
  have h0:(x.natAbs:Int)=(Nat.gcd x.natAbs d:Int)*(p:Int):=by rw[<-Fr,<-hp]
  unfold sg
  by_cases hx:x<0
  ·rw[AX hx,AG rfl,Int.mul_neg,<-h0];omega
  ·rw[Ad hx,AF (by decide),<-h0];omega
 rw[e1]
 conv=>lhs;arg 1;rw[e2]
 rw[Int.mul_ediv_cancel_left _ (by omega)]
theorem X7 (q:Nat):((((((AZ q).map Aa).length:Nat):Int)==1)=true/\∃a,(AZ q)[0]?=some a/\(((a:Nat):Int)==1)=decide (q=1))\/((((((AZ q).map Aa).length:Nat):Int)==1)=false/\q≠1):=by
 rw[Ac]
 by_cases h:(AZ q).length=1
 ·refine .inl ⟨D7.2 (by omega),?_⟩
  obtain⟨a,ha⟩:=CR (l:=AZ q) (i:=0) (by omega);refine⟨a,ha,?_⟩;have e:AZ q=[a]:=by
   obtain⟨b,hb⟩:=List.length_eq_one_iff.1 h;rw[hb]at ha⊢;cases ha;rfl
  have e2:q=a:=by rw[<-Dy q,e];simp[AP]
  rw[e2];rw[FW,D7,decide_eq_true_iff];omega
 ·refine .inr ⟨Bu.2 (by omega),λhq=>h ?_⟩
  rw[hq,Pf (by decide) (by decide)];rfl
theorem ig (x y:Int)(hy0:y≠0)(hx:Ge x)(hy:Ge y):AJ C0 124 [rZ x,rZ y] (str (sb (BN (qZ x y)))):=by
 refine Ag.walk w1 rO rfl λF=>?_
 unfold qZ;refine sR 0 ?_;refine Cz (α:=Nat) (λn=>⟨[(2,.optr 0 0 2 0 0),(3,.optr 1 1 2 0 0)],[⟨1,1,165,2,[.agg [Ap false,rD y.natAbs]]⟩,⟨0,0,165,2,[rZ (if y<0 then -x else x)]⟩],n⟩) (λ_=>True) ?_ ?_
 ·by_cases h:y<0
  ·have cx:=Ye x hx
   have cy:=Ye y hy;have e1:rZ (-y)=.agg [Ap false,rD y.natAbs]:=by
    show D.agg [Ap (decide (-y<0)),rD (-y).natAbs]=_;rw[Ad (by omega),Lz]
   rw[e1]at cy;rw[AG h];refine sZ 100 ?_;refine AU (AX h) ?_;refine AM ?_;refine B6 w1 200 [0,1,2] [3,4,5] (by kernel_rfl) ?_;refine AD kN ?_;refine BY.same _ cx AI ?_;refine AD kN ?_;refine A9.same _ cy AI ?_;refine BO ?_;exact⟨trivial,_,trivial,AK⟩
  ·have e1:rZ y=.agg [Ap false,rD y.natAbs]:=by
    show D.agg [Ap (decide (y<0)),rD y.natAbs]=_;rw[Ad h]
   rw[AF h];refine sZ 100 ?_;refine AU (Ad h) ?_;refine AM ?_;refine Am ?_;refine⟨rfl,5,trivial,?_⟩;rw[<-e1];exact AK
 rintro n0 -;obtain⟨z,hz⟩:∃z,z=(if y<0 then -x else x):=⟨_,rfl⟩
 have hza:z.natAbs=x.natAbs:=by rw[hz];split<;>omega
 obtain⟨d,hd⟩:∃d,d=y.natAbs:=⟨_,rfl⟩
 have hd0:d≠0:=by omega
 unfold Ge at hx hy;rw[<-hza]at hx;rw[<-hd]at hy;rw[<-hz,<-hd];clear hz hza hd hy0;clear x y;have cg:=XQ z.natAbs d hx hy;obtain⟨qn,qd⟩:=TD (x:=z) hd0;have hg:0<Nat.gcd z.natAbs d:=PB _ (Dx hd0);have hgl:(AZ (Nat.gcd z.natAbs d)).length<1000000:=DV (Ib _ _ (Nat.gcd_le_right _ (Dx hd0))) hy;have c4:=U8 z.natAbs (Nat.gcd z.natAbs d) (by omega) hx hgl;have c5:AJ C0 176 [rD d,rD (Nat.gcd z.natAbs d)] (.tup [.sl false 1 ((AZ (d/Nat.gcd z.natAbs d)).map Aa),rD (d%Nat.gcd z.natAbs d)]):=U8 d (Nat.gcd z.natAbs d) (by omega) hy hgl;have hpl:(AZ (z.natAbs/Nat.gcd z.natAbs d)).length<1000000:=DV (Ib _ _ (Gn _ _)) hx;have hql:(AZ (d/Nat.gcd z.natAbs d)).length<1000000:=DV (Ib _ _ (Gn _ _)) hy;have etx:BN (mkRat z d)=if d/Nat.gcd z.natAbs d=1 then Lib.itoa (sg (decide (z<0)) (z.natAbs/Nat.gcd z.natAbs d))else Lib.itoa (sg (decide (z<0)) (z.natAbs/Nat.gcd z.natAbs d))++47::Lib.decDigits (d/Nat.gcd z.natAbs d):=by
  unfold BN;rw[qn,qd]
 rw[etx];clear etx qn qd hg hgl;generalize z.natAbs/Nat.gcd z.natAbs d=p at*;generalize d/Nat.gcd z.natAbs d=q at*;generalize z.natAbs%Nat.gcd z.natAbs d=r1 at*;generalize d%Nat.gcd z.natAbs d=r2 at*;generalize Nat.gcd z.natAbs d=gg at*;have c6:=LE (decide (z<0)) p (by omega);have hab:(sg (decide (z<0)) p).natAbs=p:=by unfold sg;split<;>omega
 have c7:=bI (sg (decide (z<0)) p) (by unfold Ge;rw[hab];exact hpl);have c8:=LE false q (by omega);have c9:=bI (sg false q) (by unfold Ge;show(AZ q).length<1000000;exact hql);have e9:Lib.itoa (sg false q)=Lib.decDigits q:=by rw[YY false q (by simp)];rfl
 rw[e9]at c9;have l1:=OG (ET p);rw[Dy]at l1;have l2:=OG (ET q);rw[Dy]at l2;have l3:(Lib.itoa (sg (decide (z<0)) p)).length<=(Lib.decDigits p).length+1:=by
  unfold Lib.itoa;split
  ·rw[hab,Bp];exact Ai _
  ·rw[show(sg (decide (z<0)) p).toNat=p by omega];omega
 generalize sg (decide (z<0)) p=pz at*;have s1:=Cd (Lib.itoa pz);have s2:=Cd (Lib.decDigits q);have s3:(⟨#[47]⟩:ByteArray).size=1:=rfl;have s4:(sb (Lib.itoa pz)++(⟨#[47]⟩:ByteArray)).size=(sb (Lib.itoa pz)).size+(⟨#[47]⟩:ByteArray).size:=ByteArray.size_append;generalize Lib.itoa pz=t1 at*;generalize Lib.decDigits q=t2 at*;refine sR 300 ?_;refine cI cg ?_;refine sR 400 ?_;refine cI c4 ?_;refine sR 500 ?_;refine cI c5 ?_;refine sR 600 ?_;refine cI c6 ?_;refine cI c7 ?_;have ht:=X7 q;rcases ht with⟨h1,a,ha,h2⟩|⟨h1,h2⟩
 ·have ha':=Do ha
  refine AC.seq ?_;refine sZ 700 ?_;refine AD h1 ?_;refine Br kT ha' ?_;refine AD (Ae h1 h2) ?_
  by_cases hq:q=1
  ·rw[AX hq,AG hq]
   refine AM ?_;refine sR 800 ?_;refine Aj ?_;exact AL rfl AA.out
  ·rw[Ad hq,AF hq]
   refine AM ?_;refine Am ?_;refine sR 900 ?_;refine A9.same _ c8 AI ?_;refine BO ?_;refine A9.same _ c9 AI ?_;refine BO ?_;refine Aj ?_;refine AL ?_ AA.out;show str ((⟨t1.toArray⟩++⟨([47]:List UInt8).toArray⟩:ByteArray)++⟨t2.toArray⟩)=_;rw[In,In,Di];rfl
 ·rw[AF h2]
  refine AC.seq ?_;refine sZ 700 ?_;refine AU h1 ?_;refine AD kF ?_;refine AM ?_;refine Am ?_;refine sR 900 ?_;refine A9.same _ c8 AI ?_;refine BO ?_;refine A9.same _ c9 AI ?_;refine BO ?_;refine Aj ?_;refine AL ?_ AA.out;show str ((⟨t1.toArray⟩++⟨([47]:List UInt8).toArray⟩:ByteArray)++⟨t2.toArray⟩)=_;rw[In,In,Di];rfl
set_option maxHeartbeats 2000000
theorem QB (k:Nat)(h:k<10):(UInt8.ofNat (48+k)).toNat=48+k:=by
 rw[UInt8.toNat_ofNat'];omega
theorem EL:∀n:Nat,(Lib.decDigits n).all Be=true/\dv (Lib.decDigits n)=n/\(Lib.decDigits n)≠[]:=λn=>by
 induction n using Nat.strongRecOn with
 |_ n ih=>
  have one:∀k,k<10->Be (UInt8.ofNat (48+k))=true:=λk hk=>by
   unfold Be;rw[QB k hk,BP];exact⟨Nat.ble_eq_true_of_le (by omega),Nat.ble_eq_true_of_le (by omega)⟩
  have vone:∀k,k<10->dv [UInt8.ofNat (48+k)]=k:=λk hk=>by
   show 0*10+((UInt8.ofNat (48+k)).toNat-48)=k;rw[QB k hk];omega
  rw[Lib.decDigits];split
  ·rename_i h
   exact⟨by rw[FX,one n h];rfl,vone n h,by simp⟩
  ·rename_i h
   obtain⟨h1,h2,h3⟩:=ih (n/10) (by omega);refine⟨by rw[Jm,h1,FX,one _ (B0 _ (by decide))];rfl,?_,by simp⟩;rw[Nu,h2,vone _ (B0 _ (by decide)),GS];omega
theorem l6 {n:Nat}(h:n≠0):∃c l,Lib.decDigits n=c::l/\c≠48:=by
 induction n using Nat.strongRecOn with
 |_ n ih=>
  rw[Lib.decDigits];split
  ·rename_i h1
   refine⟨_,_,rfl,λhh=>?_⟩
   have:=congrArg UInt8.toNat hh
   rw[QB n h1]at this
   have:48+n=48:=this
   omega
  ·rename_i h1
   obtain⟨c,l,e,hc⟩:=ih (n/10) (by omega) (by omega);rw[e];exact⟨c,l++_,rfl,hc⟩
theorem pd {c:UInt8}(h:Be c=true):c≠47/\c≠45:=by
 obtain⟨h1,h2⟩:=K5 h;exact⟨λhh=>by subst hh;simp at h1,λhh=>by subst hh;simp at h1⟩
theorem MI (z:Int):DJ (Lib.itoa z)=decide (z<0)/\Bo (Lib.itoa z)=Lib.decDigits z.natAbs:=by
 unfold Lib.itoa
 by_cases h:z<0
 ·rw[AG h,AX h]
  exact⟨rfl,rfl⟩
 ·rw[AF h,Ad h,show z.toNat=z.natAbs by omega]
  have h1:=SP (EL z.natAbs).1;exact⟨h1,Jv (EL z.natAbs).1⟩
theorem Ys (z:Int):rv (Lib.itoa z)=z:=by
 unfold rv;rw[(MI z).1,(MI z).2,(EL z.natAbs).2.1]
 by_cases h:z<0
 ·rw[AX h,AG rfl];omega
 ·rw[Ad h,AF (by decide)];omega
theorem Vm (z:Int):∀c∈Lib.itoa z,(c != 47)=true:=λc hc=>by
 have hd:∀n,∀c∈Lib.decDigits n,(c != 47)=true:=λn c h=>by
  have:=(pd (CS.1 (EL n).1 c h)).1
  simpa using this
 unfold Lib.itoa at hc;split at hc
 ·rcases BF.1 hc with rfl|h
  ·rfl
  ·exact hd _ c h
 ·exact hd _ c hc
theorem SB {p:UInt8->Bool}:∀ {l:List UInt8} (m:List UInt8),(∀c∈l,p c=true)->(l++m).takeWhile p=l++m.takeWhile p
 | [],_,_=>rfl
 |a::l,m,h=>by
  rw[D5,PM,AG (h a CM),SB m λc hc=>h c (CQ _ hc)];rfl
theorem No (r:Rat):BJ (BN r)=(Lib.itoa r.num).length:=by
 unfold BJ BN;split
 ·have:=SB (p:=(· != 47)) [] (Vm r.num)
  rw[DB]at this;rw[this];simp
 ·rw[SB (p:=(· != 47)) _ (Vm r.num)]
  simp
theorem OL (r:Rat):Bz (BN r)=Lib.itoa r.num:=by
 unfold Bz;rw[No];unfold BN;split
 ·exact B7 (Ai _)
 ·exact List.take_left' rfl
theorem MT (r:Rat):BZ (BN r)=if r.den=1 then[]else Lib.decDigits r.den:=by
 unfold BZ;rw[No];unfold BN;split
 ·exact HI (Nat.le_succ _)
 ·rw[List.drop_append]
  rw[HI (Nat.le_succ _),Kn];rfl
theorem Qg (r:Rat):Cv (BN r) = !decide (r.den=1):=by
 unfold Cv;rw[No];unfold BN
 by_cases h:r.den=1
 ·rw[AG h,AX h,Ad (by omega)];rfl
 ·rw[AF h,Ad h,Bh,Bp,AX (by omega)];rfl
theorem Xu (r:Rat):O4 (BN r)=r.num:=by unfold O4;rw[OL,Ys]
theorem mE (r:Rat):Ov (BN r)=r.den:=by
 unfold Ov;rw[Qg,MT]
 by_cases h:r.den=1
 ·rw[AX h,h];rfl
 ·rw[Ad h,AF h,AG (show(!false)=true from rfl),Mk (EL _).1,(EL _).2.1]
theorem Xt (r:Rat):(Bo (Bz (BN r))).all Be=true:=by rw[OL,(MI _).2];exact(EL _).1
theorem Xs (r:Rat):(Bo (BZ (BN r))).all Be=true:=by
 rw[MT];split
 ·rfl
 ·rw[Jv (EL _).1];exact(EL _).1
theorem YX (z:Int):Lib.itoa z≠[]:=by
 unfold Lib.itoa;split
 ·simp
 ·exact(EL _).2.2
theorem bK (r:Rat):BN r≠[]:=by
 unfold BN;split
 ·exact YX _
 ·simp
theorem Tw (r:Rat):DJ (BN r)=decide (r.num<0):=by
 rw[<-(MI r.num).1];unfold BN;split
 ·rfl
 ·have:=YX r.num
  cases h:Lib.itoa r.num with
  |nil=>exact Ah h this
  |cons c l=>rfl
theorem Xv (r:Rat):decide (BN r=[48])=decide (r.num=0):=by
 refine C4.2 ⟨λh=>?_,λh=>?_⟩
 ·have h1:=Xu r
  rw[h]at h1;rw[<-h1];decide
 ·have:r.den=1:=by
   have:=r.reduced
   rw[h]at this;simpa using this
  unfold BN;rw[AG this,h];show Lib.decDigits 0=[48];rw[Lib.decDigits,dif_pos (by decide)];rfl
abbrev rR (r:Rat):D:=str (sb (BN r))
def Lu (r:Rat):Prop:=(BN r).length<=1000000
theorem bA (r:Rat)(hl:Lu r):AJ C0 166 [rR r] (i64 (Gf r)):=by
 refine Ag.walk w1 rh rfl λF=>?_
 have hsz:=Cd (BN r);unfold Lu at hl;have ez:=Em (BN r) [48];rw[Xv]at ez;have en:=Tw r;refine sR 0 ?_;refine AC.seq ?_;refine AC.seq ?_;have ez2:BI (sb (BN r)) ⟨#[48]⟩=decide (r.num=0):=ez;have hne:=bK r;refine An w1 100 (by kernel_rfl) ?_;refine AU ez2 ?_
 by_cases h0:r.num=0
 ·rw[AX h0]
  refine AM ?_;refine sR 200 ?_;refine Aj ?_;exact AL (by unfold Gf;rw[h0];rfl) AA.out
 ·rw[Ad h0]
  have hpos:0<(BN r).length:=List.length_pos_iff.2 hne;have e0:decide (((sb (BN r)).size:Int)>0)=true:=AX (by omega);have e1:((((BN r).getD (Int.toNat 0) 0).toNat:Int)==45)=decide (r.num<0):=by
   rw[<-en];cases ht:BN r with
   |nil=>exact Ah ht hne
   |cons c l=>exact QH c l
  refine AM ?_;refine Am ?_;refine AC.seq ?_;refine sZ 300 ?_;refine AD e0 ?_;refine AD (As kT e0 e1) ?_
  by_cases hn:r.num<0
  ·rw[AX hn]
   refine AM ?_;refine sR 400 ?_;refine Aj ?_;exact AL (by unfold Gf;congr 3;omega) AA.out
  ·rw[Ad hn]
   refine AM ?_;refine Am ?_;refine sR 500 ?_;refine Aj ?_;exact AL (by unfold Gf;congr 3;omega) AA.out
theorem Y2 {r:Rat}(h:r.num<0):(BN r).drop 1=BN (-r)/\(BN (-r)).length+1=(BN r).length:=by
 have e:Lib.itoa r.num=45::Lib.itoa (-r.num):=by
  unfold Lib.itoa;rw[AG h,AF (by omega),show(-r.num).toNat=r.num.natAbs by omega]
 have e2:BN r=45::BN (-r):=by
  unfold BN;rw[Rat.neg_den,Rat.neg_num,e];split<;>rfl
 rw[e2];exact⟨rfl,rfl⟩
def DD (r:Rat):Rat:=if r.num<0 then -r else r
theorem QN (r:Rat):(DD r).num=r.num.natAbs/\(DD r).den=r.den:=by
 unfold DD;split
 ·rw[Rat.neg_num,Rat.neg_den];exact⟨by omega,rfl⟩
 ·exact⟨by omega,rfl⟩
def qk (r:Rat):Bool:=!decide (20<(BN r).length) && !(decide (9<BJ (BN (DD r)))||decide (10<(BN (DD r)).length-BJ (BN (DD r))))
theorem lK (r:Rat):(BN (DD r)).length<=(BN r).length:=by
 unfold DD;split
 ·rename_i h
  have:=(Y2 h).2
  omega
 ·exact Ai _
theorem SZ (r:Rat):Lib.itoa (DD r).num=Lib.decDigits r.num.natAbs:=by
 rw[(QN r).1];unfold Lib.itoa;rw[AF (by omega)];rfl
theorem TE {r:Rat}(h:qk r=true):r.num.natAbs<10^9/\r.den<10^9:=by
 unfold qk at h;simp only[BP,Bi,Iz,IN]at h;obtain⟨h1,h2,h3⟩:=h;have hs:=No (DD r);rw[SZ]at hs;have hd:=MT (DD r);rw[(QN r).2]at hd;have hdl:(BZ (BN (DD r))).length=(BN (DD r)).length-(BJ (BN (DD r))+1):=by unfold BZ;rw[Dc]
 have d1:=GA _ (EL r.num.natAbs).1;have d2:=GA _ (EL r.den).1;rw[(EL _).2.1]at d1 d2;refine⟨CV d1 (FH (by decide) (by omega)),?_⟩
 by_cases h1:r.den=1
 ·rw[h1];decide
 ·rw[AF h1]at hd
  rw[hd]at hdl;exact CV d2 (FH (by decide) (by omega))
theorem Yq (r:Rat)(hl:Lu r):AJ C0 121 [rR r] (.tup [i64 (if qk r then r.num else 0),i64 (if qk r then(r.den:Int)else 0),Ap (qk r)]):=by
 refine Ag.walk w1 qE rfl λF=>?_
 have hsz:=Cd (BN r);unfold Lu at hl;have hne:=bK r;have hpos:0<(BN r).length:=List.length_pos_iff.2 hne;refine sR 0 ?_;refine sR 100 ?_;refine AC.seq ?_;refine AC.seq ?_
 by_cases h20:20<(BN r).length
 ·have e2:decide (((BN r).length:Int)>20)=true:=AX (by omega)
  have eq:qk r=false:=by unfold qk;rw[AX h20];rfl
  rw[eq];refine An w1 200 (by kernel_rfl) ?_;refine AU (Ae hsz e2) ?_;refine AM ?_;refine sR 300 ?_;refine Aj ?_;exact AL rfl AA.out
 ·have e2:decide (((BN r).length:Int)>20)=false:=Ad (by omega)
  have eq:qk r = !(decide (9<BJ (BN (DD r)))||decide (10<(BN (DD r)).length-BJ (BN (DD r)))):=by unfold qk;rw[Ad h20];rfl
  have en:=Tw r;refine An w1 200 (by kernel_rfl) ?_;refine AU (Ae hsz e2) ?_;refine AM ?_;refine Am ?_;refine Cz (α:=Nat) (λn=>⟨[(5,rR r),(6,Ap (decide (r.num<0)))],[],n⟩) (λ_=>True) ?_ ?_
  ·have e0:decide (((sb (BN r)).size:Int)>0)=true:=AX (by omega)
   have e1:((((BN r).getD (Int.toNat 0) 0).toNat:Int)==45)=decide (r.num<0):=by
    rw[<-en];cases ht:BN r with
    |nil=>exact Ah ht hne
    |cons c l=>exact QH c l
   refine An w1 400 (by kernel_rfl) ?_;refine AD e0 ?_;refine AD (As kT e0 e1) ?_;exact⟨trivial,_,trivial,AK⟩
  rintro n0 -;refine Cz (α:=Nat) (λn=>⟨[(5,rR (DD r)),(6,Ap (decide (r.num<0)))],[],n⟩) (λ_=>True) ?_ ?_
  ·refine sR 500 ?_
   by_cases h:r.num<0
   ·obtain⟨t1,t2⟩:=Y2 h
    have ea:DD r = -r:=by unfold DD;rw[AG h]
    have ee:(sb (BN r)).extract (Int.toNat 1) (BN r).length=sb (BN (DD r)):=by
     rw[ea,Ek,B7 (Ai _),<-t1];rfl
    rw[AX h];refine AM ?_;refine An w1 600 (by kernel_rfl) ?_;refine AD (Ae hsz kN) ?_;rw[ee];exact⟨trivial,_,trivial,AK⟩
   ·have ea:DD r=r:=by unfold DD;rw[AF h]
    rw[Ad h,ea];refine AM ?_;refine Am ?_;exact⟨rfl,_,trivial,AK⟩
  rintro n1 -;have hal:=lK r;have hsa:=No (DD r);rw[SZ]at hsa;have hn:=OL (DD r);rw[SZ]at hn;have hd:=MT (DD r);rw[(QN r).2]at hd;have hh:=Qg (DD r);rw[(QN r).2]at hh;unfold Cv at hh;have hle:=K8 (BN (DD r));have cs:=Ts (BN (DD r)) (by omega);have hszA:=Cd (BN (DD r));clear hsz hne hpos e2 en;generalize hT:BN (DD r)=T at*;have eR:rR (DD r)=str (sb T):=by rw[<-hT]
  rw[eR];clear hT eR;refine sR 700 ?_;refine cI cs ?_;have w8:IntKind.i64.wrap ((T.length:Int)-(BJ T:Int))=((T.length-BJ T:Nat):Int):=by rw[wI (by omega) (by omega)];omega
  have eb:decide (((T.length-BJ T:Nat):Int)>10)=decide (10<T.length-BJ T):=C4.2 (by omega)
  by_cases h9:9<BJ T
  ·have e8:decide ((BJ T:Int)>9)=true:=AX (by omega)
   rw[AX h9]at eq;have eq2:qk r=false:=eq;rw[eq2];refine AC.seq ?_;refine sZ 800 ?_;refine AU e8 ?_;refine AD kT ?_;refine AM ?_;refine sR 900 ?_;refine Aj ?_;exact AL rfl AA.out
  have e8:decide ((BJ T:Int)>9)=false:=Ad (by omega);rw[Ad h9]at eq
  by_cases h10:10<T.length-BJ T
  ·rw[AX h10]at eq eb
   have eq2:qk r=false:=eq;rw[eq2];refine AC.seq ?_;refine sZ 800 ?_;refine AU e8 ?_;refine AD (BV kF hszA w8 eb) ?_;refine AM ?_;refine sR 900 ?_;refine Aj ?_;exact AL rfl AA.out
  rw[Ad h10]at eq eb;have eq2:qk r=true:=eq;rw[eq2];refine AC.seq ?_;refine sZ 800 ?_;refine AU e8 ?_;refine AD (BV kF hszA w8 eb) ?_;refine AM ?_;refine Am ?_;have hd1:=EL r.num.natAbs;have hd2:=EL r.den;have c1:=Qh (Lib.decDigits r.num.natAbs) hd1.1 (by omega);rw[hd1.2.1]at c1;have e10:(sb T).extract 0 (BJ T)=sb (Lib.decDigits r.num.natAbs):=by
   rw[Ek,FG,<-hn];rfl
  refine sZ 1000 ?_;refine AD (Ae hszA kN) ?_;refine AD e10 ?_;refine A9.same _ c1 AI ?_;refine BO ?_;refine Cz (α:=Nat) (λn=>⟨[(6,Ap (decide (r.num<0))),(8,i64 (r.num.natAbs:Int)),(9,i64 (r.den:Int))],[],n⟩) (λ_=>True) ?_ ?_
  ·by_cases hden:r.den=1
   ·rw[AX hden]at hh
    have e11:decide ((BJ T:Int)<(T.length:Int))=false:=Ad (by have:=DL (p:=BJ T<T.length) hh;omega);rw[hden];refine sZ 1100 ?_;refine AU (Ae hszA e11) ?_;refine AM ?_;refine Am ?_;exact⟨rfl,_,trivial,AK⟩
   ·rw[Ad hden]at hh
    rw[AF hden]at hd;have hlt:=DA (p:=BJ T<T.length) hh;have e11:decide ((BJ T:Int)<(T.length:Int))=true:=AX (by omega);have wk:IntKind.i64.wrap (((BJ T:Nat):Int)+1)=((BJ T+1:Nat):Int):=wI (by omega) (by omega);have e12:(sb T).extract (BJ T+1) T.length=sb (Lib.decDigits r.den):=by
     rw[Ek,B7 (Ai _),<-hd];rfl
    have hdl:(Lib.decDigits r.den).length<=18:=by
     rw[<-hd];unfold BZ;rw[Dc];omega
    have c2:=Qh (Lib.decDigits r.den) hd2.1 hdl;rw[hd2.2.1]at c2;refine sZ 1100 ?_;refine AU (Ae hszA e11) ?_;refine AM ?_;refine An w1 1200 (by kernel_rfl) ?_;refine AD (As hszA wk kN) ?_;refine AD e12 ?_;refine A9.same _ c2 AI ?_;refine BO ?_;exact⟨trivial,_,trivial,AK⟩
  rintro n2 -;obtain⟨b1,b2⟩:=TE eq2;refine Cz (α:=Nat) (λn=>⟨[(8,i64 r.num),(9,i64 (r.den:Int))],[],n⟩) (λ_=>True) ?_ ?_
  ·refine sR 1300 ?_
   by_cases h:r.num<0
   ·have wn:IntKind.i64.wrap (0-(r.num.natAbs:Int))=r.num:=by rw[wI (by omega) (by omega)];omega
    rw[AX h];refine AM ?_;refine An w1 1400 (by kernel_rfl) ?_;refine AU wn ?_;exact⟨trivial,_,trivial,AK⟩
   ·have en:(r.num.natAbs:Int)=r.num:=by omega
    rw[Ad h,en];refine AM ?_;refine Am ?_;exact⟨rfl,_,trivial,AK⟩
  rintro n3 -;refine sR 1500 ?_;refine Aj ?_;exact AL rfl AA.out
theorem js (b:Bool)(n:Nat):(sg b n).natAbs=n:=by unfold sg;split<;>omega
theorem wQ (z:Int)(d:Nat)(hz:z.natAbs<=4000000000000000000)(hd0:0<d)(hd:d<=4000000000000000000):AJ C0 122 [i64 z,i64 (d:Int)] (rR (mkRat z d)):=by
 refine Ag.walk w1 qF rfl λF=>?_
 have hg:0<Nat.gcd z.natAbs d:=PB _ hd0;have hgl:Nat.gcd z.natAbs d<=d:=Nat.gcd_le_right _ hd0;obtain⟨qn,qd⟩:=TD (x:=z) (d:=d) (by omega);have etx:BN (mkRat z d)=if d/Nat.gcd z.natAbs d=1 then Lib.itoa (mkRat z d).num else Lib.itoa (mkRat z d).num++47::Lib.decDigits (d/Nat.gcd z.natAbs d):=by
  unfold BN;rw[qd]
 have q1:z.tdiv (Nat.gcd z.natAbs d:Nat)=(mkRat z d).num:=by
  rw[qn];obtain⟨p,hp⟩:=Nat.gcd_dvd_left z.natAbs d;have e1:z.natAbs/Nat.gcd z.natAbs d=p:=Nat.div_eq_of_eq_mul_right hg hp;have e2:z=(Nat.gcd z.natAbs d:Int)*sg (decide (z<0)) p:=by
   have h0:(z.natAbs:Int)=(Nat.gcd z.natAbs d:Int)*(p:Int):=by rw[<-Fr,<-hp]
   unfold sg
   by_cases hx:z<0
   ·rw[AX hx,AG rfl,Int.mul_neg,<-h0];omega
   ·rw[Ad hx,AF (by decide),<-h0];omega
  rw[e1]
  conv=>lhs;arg 1;rw[e2]
  rw[Int.mul_tdiv_cancel_left _ (by omega)]
 have q2:(d:Int).tdiv (Nat.gcd z.natAbs d:Nat)=((d/Nat.gcd z.natAbs d:Nat):Int):=rfl;have q5:(mkRat z d).num.natAbs<=4000000000000000000:=by
  rw[qn];rw[js];exact BU (Gn _ _) hz
 have q4:d/Nat.gcd z.natAbs d<=4000000000000000000:=BU (Gn _ _) hd;have hx:0<d/Nat.gcd z.natAbs d:=Nat.div_pos hgl hg;have ert:rR (mkRat z d)=str (sb (if d/Nat.gcd z.natAbs d=1 then Lib.itoa (mkRat z d).num else Lib.itoa (mkRat z d).num++47::Lib.decDigits (d/Nat.gcd z.natAbs d))):=by rw[<-etx]
 rw[ert];clear etx ert qn qd;generalize(mkRat z d).num=pz at*;refine fR 0 ?_;refine EN ⟨[(0,i64 z),(1,i64 d),(4,str ⟨#[]⟩)],[],50⟩ ?_ ?_
 ·refine AC.seq ?_
  have l1:(decide (z < -4000000000000000000))=false:=by apply Ad;omega
  have l2:(decide (z>4000000000000000000))=false:=by apply Ad;omega
  have l3:(decide ((d:Int) < -4000000000000000000))=false:=by apply Ad;omega
  have l4:(decide ((d:Int)>4000000000000000000))=false:=by apply Ad;omega
  refine An w1 100 (by kernel_rfl) ?_
  repeat'(first|(refine And.intro (by exact CA) ?_;(refine At ?_);(try simp only[Mr,RL,l1,l2,l3,l4]))|((refine Bw (λhb=>?_) (λhb=>?_))<;>(try simp only[Bi,Bv]at hb)<;>(try simp only[hb])<;>(refine At ?_)))
  refine AM ?_;refine Am ?_;exact And.intro (by trivial) (AK)
 refine EN ⟨[(0,i64 z),(1,i64 d),(4,str ⟨#[]⟩)],[],100⟩ ?_ ?_
 ·refine fR 300 ?_
  refine AM ?_;have e27:(decide ((d:Int)<0))=false:=by simp
  rw[e27];refine Am ?_;exact And.intro (by trivial) (AK)
 refine AC.seq ?_;have m1:max z (IntKind.i64.wrap (0-z))=(z.natAbs:Int):=by rw[wI (by omega) (by omega)];omega
 refine An w1 500 (by kernel_rfl) ?_;refine Jq m1 ?_;refine dI (oB z.natAbs d (by omega) (by omega)) ?_;refine AC.seq ?_;refine B6 w1 600 [0,1,2,3,4,5,6] [7] (by kernel_rfl) ?_;refine B9 ?_;have w1p:IntKind.i64.wrap pz=pz:=wI (by omega) (by omega);rw[q1,q2,w1p,wN (BU q4 (by decide))];clear q1 q2 hg hgl;generalize d/Nat.gcd z.natAbs d=y at*;refine fR 700 ?_;have c1:=Pl pz.natAbs 1 (by omega);have c2:=Pl y 1 (by omega);rw[YG]at c1 c2;have s1:=L7 18 pz.natAbs (DV q5 (by decide));have s2:=L7 18 y (DV q4 (by decide));have z1:=OF (Lib.decDigits pz.natAbs);have z2:=OF (Lib.decDigits y);have m1:max pz (IntKind.i64.wrap (0-pz))=(pz.natAbs:Int):=by rw[wI (by omega) (by omega)];omega
 refine Cz (α:=Nat) (λn=>⟨[(0,i64 pz),(1,i64 (y:Int)),(4,str ⟨#[]⟩),(6,str (sb (if pz<0 then[45]else[])))],[],n⟩) (λ_=>True) ?_ ?_
 ·refine fR 800 ?_
  by_cases h:pz<0
  ·rw[AX h,AG h]
   refine AM ?_;refine fI 900 ?_;exact⟨rfl,_,trivial,AK⟩
  ·rw[Ad h,AF h]
   refine AM ?_;refine Am ?_;exact⟨rfl,_,trivial,AK⟩
 rintro n0 -;have ei:(if pz<0 then[45]else[])++Lib.decDigits pz.natAbs=Lib.itoa pz:=by
  unfold Lib.itoa;split
  ·rfl
  ·rw[show pz.toNat=pz.natAbs by omega];rfl
 have z3:=Cd (if pz<0 then[45]else[]);have z4:(if pz<0 then[45]else[]:List UInt8).length<=1:=by split<;>simp
 have z5:(Lib.itoa pz).length<=20:=by rw[<-ei,Bh];omega
 refine sZ 1000 ?_;refine Jq m1 ?_;refine dI c1 ?_;rw[In,ei];have z6:=OF (Lib.itoa pz);generalize Lib.itoa pz=t1 at*;clear ei z3 z4;refine Cz (α:=Nat) (λn=>⟨[(6,str (sb (if y=1 then t1 else t1++47::Lib.decDigits y)))],[],n⟩) (λ_=>True) ?_ ?_
 ·refine fR 1100 ?_
  by_cases hy:y=1
  ·rw[AG hy]
   have e54:(decide ((y:Int)>1))=false:=by apply Ad;omega
   rw[e54];refine AM ?_;refine Am ?_;exact⟨rfl,_,trivial,AK⟩
  ·rw[AF hy]
   have e54:(decide ((y:Int)>1))=true:=by apply AX;omega
   have s3:(⟨#[47]⟩:ByteArray).size=1:=rfl;have sc:((⟨t1.toArray⟩:ByteArray)++(⟨#[47]⟩:ByteArray)).size=(⟨t1.toArray⟩:ByteArray).size+(⟨#[47]⟩:ByteArray).size:=ByteArray.size_append;rw[e54];refine AM ?_;refine fI 1200 ?_;refine dI c2 ?_;have e47:(⟨#[47]⟩:ByteArray)=⟨([47]:List UInt8).toArray⟩:=rfl;rw[e47,In,In,Di,D5,EO];exact⟨rfl,_,trivial,AK⟩
 rintro n1 -;refine fR 1300 ?_;refine Aj ?_;exact AL rfl AA.out
theorem TQ {n k:Nat}(h:(Af n).length<=k):(AZ n).length<=3*k:=by
 refine Kz (CV (JD n) ?_);rw[Nat.pow_mul];exact BU (FH (by decide) h) (NI (by decide) k)
theorem MX {n k:Nat}(h:(Af n).length<=k):(Lib.decDigits n).length<=27*k+1:=by
 have h1:=OG (ET n);rw[Dy]at h1
 have:=TQ h
 omega
theorem nI {z:Int}{k:Nat}(h:(Af z.natAbs).length<=k):(Lib.itoa z).length<=27*k+2:=by
 have:=MX h
 unfold Lib.itoa;split
 ·rw[Bp];omega
 ·rw[show z.toNat=z.natAbs by omega];omega
theorem Tu {r:Rat}{k:Nat}(h:rk r k)(hk:k<=10000):Lu r:=by
 have h1:=nI h.1;have h2:=MX h.2;unfold Lu BN;split
 ·omega
 ·rw[Bh,Bp];omega
def LZ (x:Int)(p:Nat):Prop:=(AZ x.natAbs).length<=p
theorem LZ.mul {x y:Int}{p q:Nat}(hx:LZ x p)(hy:LZ y q):LZ (x*y) (p+q):=by
 unfold LZ at*;rw[NL]
 have:=SJ x.natAbs y.natAbs
 omega
theorem LZ.add {x y:Int}{p q:Nat}(hx:LZ x p)(hy:LZ y q):LZ (x+y) (p+q+1):=by
 unfold LZ at*;have h1:=Ib (x+y).natAbs (x.natAbs+y.natAbs) (Int.natAbs_add_le x y);have h2:=Vx x.natAbs y.natAbs;omega
theorem LZ.few {x:Int}{p:Nat}(h:LZ x p)(hp:p<1000000):Ge x:=DV h hp
theorem LZ.num {r:Rat}{k:Nat}(h:rk r k):LZ r.num (3*k):=TQ h.1
theorem LZ.den {r:Rat}{k:Nat}(h:rk r k):LZ (r.den:Int) (3*k):=TQ h.2
theorem tz (a b:Rat):qZ (a.num*b.den+b.num*a.den) ((a.den:Int)*b.den)=a+b:=by
 unfold qZ;have h:¬((a.den:Int)*b.den<0):=by
  rw[<-Fr];omega
 rw[AF h,<-Fr,EJ,Rat.add_def',]
theorem Sk {x y:Int}(hx:x.natAbs<10^9)(hy:y.natAbs<10^9):(x*y).natAbs<10^18:=by
 rw[NL];exact CV (Nat.mul_lt_mul'' hx hy) (by decide)
theorem eJ (a b:Rat)(i j:Nat)(ha:rk a i)(hb:rk b j)(hij:i+j<=10000):AJ C0 167 [rR a,rR b] (rR (a+b)):=by
 refine Ag.walk w1 ri rfl λF=>?_
 have ta:=Tu ha (by omega);have tb:=Tu hb (by omega);have qa:=Yq a ta;have qb:=Yq b tb
 by_cases hq:qk a=true/\qk b=true
 ·obtain⟨h1,h2⟩:=hq
  obtain⟨n1,d1⟩:=TE h1;obtain⟨n2,d2⟩:=TE h2;rw[h1,AG rfl,AG rfl]at qa;rw[h2,AG rfl,AG rfl]at qb;have p1:=Sk n1 (y:=(b.den:Int)) (by omega);have p2:=Sk n2 (y:=(a.den:Int)) (by omega);have p3:=Sk (x:=(a.den:Int)) (y:=(b.den:Int)) (by omega) (by omega);have m1:IntKind.i64.wrap (a.num*(b.den:Int))=a.num*b.den:=wI (by omega) (by omega);have m2:IntKind.i64.wrap (b.num*(a.den:Int))=b.num*a.den:=wI (by omega) (by omega);have m3:IntKind.i64.wrap (a.num*(b.den:Int)+b.num*(a.den:Int))=a.num*b.den+b.num*a.den:=wI (by omega) (by omega);have m4:IntKind.i64.wrap ((a.den:Int)*(b.den:Int))=((a.den*b.den:Nat):Int):=by rw[wI (by omega) (by omega),Fr]
  have p4:a.den*b.den<10^18:=by rw[<-Fr,EJ]at p3;exact p3
  have cf:=wQ (a.num*b.den+b.num*a.den) (a.den*b.den) (by omega) (HJ a.den_pos b.den_pos) (by omega);rw[<-Rat.add_def']at cf;refine sR 0 ?_;refine sR 100 ?_;refine cI qa ?_;refine sR 200 ?_;refine cI qb ?_;refine AC.seq ?_;refine sZ 300 ?_;refine AD kT ?_;refine AM ?_;refine sZ 400 ?_;refine AU (BV m1 m2 m3 m4) ?_;refine cI cf ?_;refine Aj ?_;exact AL rfl AA.out
 ·refine sR 0 ?_
  refine sR 100 ?_;refine cI qa ?_;refine sR 200 ?_;refine cI qb ?_;refine Cz (α:=Nat) (λn=>⟨[(0,rR a),(1,rR b)],[],n⟩) (λ_=>True) ?_ ?_
  ·cases h1:qk a
   ·refine sZ 300 ?_
    refine AD h1 ?_;refine AD kF ?_;refine AM ?_;refine Am ?_;exact⟨rfl,_,trivial,AK⟩
   ·have h2:qk b=false:=by
     cases h2:qk b
     ·rfl
     ·exact Ah ⟨h1,h2⟩ hq
    rw[h2];refine sZ 300 ?_;refine AD h1 ?_;refine AD kT ?_;refine AM ?_;refine Am ?_;exact⟨rfl,_,trivial,AK⟩
  rintro n0 -;clear qa qb hq;have pa:=TZ (BN a) (Xt a) (Xs a) ta;have pb:=TZ (BN b) (Xt b) (Xs b) tb;rw[Xu,mE]at pa pb;have lan:=LZ.num ha;have lad:=LZ.den ha;have lbn:=LZ.num hb;have lbd:=LZ.den hb;have da:=a.den_pos;have db:=b.den_pos;have c1:=Tv a.num b.den (lan.few (by omega)) (lbd.few (by omega));have c2:=Tv b.num a.den (lbn.few (by omega)) (lad.few (by omega));have c3:=tq (a.num*b.den) (b.num*a.den) ((lan.mul lbd).few (by omega)) ((lbn.mul lad).few (by omega));have c4:=Tv (a.den:Int) b.den (lad.few (by omega)) (lbd.few (by omega));have c5:=ig (a.num*b.den+b.num*a.den) ((a.den:Int)*b.den) (by rw[<-Fr];have:=HJ da db;omega) (((lan.mul lbd).add (lbn.mul lad)).few (by omega)) ((lad.mul lbd).few (by omega));rw[tz]at c5;refine sR 500 ?_;refine cI pa ?_;refine sR 600 ?_;refine cI pb ?_;refine AC.seq ?_;refine B6 w1 700 [0,1,2,3,4,5,6,7,8] [9,10,11] (by kernel_rfl) ?_;refine AD kN ?_
  first|refine BY.same _ c1 AI ?_|refine A9.same _ c1 AI ?_
  refine AD kN ?_
  first|refine BY.same _ c2 AI ?_|refine A9.same _ c2 AI ?_
  refine AD kN ?_
  first|refine BY.same _ c3 AI ?_|refine A9.same _ c3 AI ?_
  refine AD kN ?_
  first|refine BY.same _ c4 AI ?_|refine A9.same _ c4 AI ?_
  refine AD kN ?_
  first|refine BY.same _ c5 AI ?_|refine A9.same _ c5 AI ?_
  refine AD kN ?_;refine Aj ?_;exact AL rfl AA.out
theorem lI (c:UInt8):Be c=(!decide ((c.toNat:Int)<48) && !decide ((c.toNat:Int)>57)):=by
 unfold Be;rw[FW,BP,BP];simp only[Bi,IN,Nat.ble_eq];omega
theorem gD {l:List UInt8}{i:Nat}{c:UInt8}(hc:l[i]?=some c)(h:(l.take i).all Be=true):(l.take (i+1)).all Be=Be c:=by
 rw[DW,hc,Jm,h];simp
theorem qH {l:List UInt8}{i:Nat}{c:UInt8}(hc:l[i]?=some c)(h:Be c=false):l.all Be=false:=by
 cases ha:l.all Be
 ·rfl
 ·have:=CS.1 ha c (Ax hc)
  rw[h]at this;cases this
theorem kj (l:List UInt8)(hl:l.length<=1000000000):AJ C0 268 [str (sb l)] (Ap (l.all Be)):=by
 refine Ag.walk w1 tH rfl λF=>?_
 have hsz:=Cd l;refine sR 0 ?_;refine AC.seq ?_;refine sR 100 ?_;refine AC.block ?_;refine AC.loop (α:=Nat×Nat) (λp=>⟨[(0,str (sb l)),(3,i64 (p.1:Int))],[],p.2⟩) (λp=>l.length-p.1) (λp=>p.1<=l.length/\(l.take p.1).all Be=true) (0,_) ⟨BS _,rfl⟩ AK ?_;rintro⟨i,n⟩ F ⟨hi,ha⟩;dsimp only at hi ha⊢;refine AC.seq ?_;refine sZ 200 ?_;refine AU hsz ?_;refine AM ?_
 (refine Bw (λhlt=>?_) (λhlt=>?_))<;>(try simp only[Bi,Bv]at hlt)<;>(try simp only[hlt])
 ·have hi2:i<l.length:=by
   have:=DA hlt
   omega
  obtain⟨c,hc⟩:∃c,l[i]?=some c:=⟨l[i],BE hi2⟩
  have hg:l.getD i 0=c:=by simp[hc]
  have wi:IntKind.i64.wrap ((i:Int)+1)=((i+1:Nat):Int):=wI (by omega) (by omega);have hid:=lI c;have hat:=gD hc ha;have hno:=qH hc;refine Am ?_;refine AC.seq ?_;refine AC.block ?_;refine sZ 400 ?_;refine AU (Ae kN hg) ?_
  by_cases c1:(c.toNat:Int)<48
  ·rw[AX c1]at hid
   have e4:=AX c1;simp only[e4];refine AD kT ?_;refine AM ?_;refine sR 500 ?_;refine Aj ?_;exact AL (by rw[hno hid]) AA.out
  ·rw[Ad c1]at hid
   have e4:=Ad c1;simp only[e4];refine AD (As kF kN hg) ?_
   by_cases c2:(c.toNat:Int)>57
   ·rw[AX c2]at hid⊢
    refine AM ?_;refine sR 500 ?_;refine Aj ?_;exact AL (by rw[hno hid]) AA.out
   ·rw[Ad c2]at hid⊢
    refine AM ?_;refine Am ?_;refine An w1 300 (by kernel_rfl) ?_;refine AU wi ?_;exact⟨(i+1,_),⟨hi2,hat.trans hid⟩,by dsimp only;omega,AK⟩
 ·have hi2:i=l.length:=by
   have:=DL hlt
   omega
  subst hi2;rw[B7 (Ai _)]at ha;refine B8 ?_;refine sR 600 ?_;refine Aj ?_;exact AL (by rw[ha]) AA.out
theorem jd (c:UInt8):(((c.toNat:Nat):Int)==48)=decide (c=48):=by
 rw[FW,D7,decide_eq_true_iff,<-UInt8.toNat_inj];exact⟨λh=>(show c.toNat=48 by omega),λh=>by rw[h];rfl⟩
theorem aN (l:List UInt8)(hl:l.length<=1000000000):AJ C0 224 [str (sb l)] (Ap (C6 l)):=by
 refine Ag.walk w1 rH rfl λF=>?_
 have hsz:=Cd l;have cd:=kj l hl;refine sR 0 ?_;refine AC.seq ?_;refine AC.seq ?_
 match l,hl,hsz,cd with
 | [],_,hsz,_=>
  have e1:((((sb []).size:Nat):Int)==0)=true:=rfl;refine An w1 100 (by kernel_rfl) ?_;refine AU e1 ?_;refine AD kT ?_;refine AM ?_;refine sR 200 ?_;refine Aj ?_;exact AL rfl AA.out
 | [c],hl,hsz,cd=>
  have e1:((((sb [c]).size:Nat):Int)==0)=false:=rfl;have e2:decide ((((sb [c]).size:Nat):Int)>1)=false:=rfl;have ep:C6 [c]=[c].all Be:=by
   unfold C6 Ka
   by_cases h:c=48
   ·subst h;rfl
   ·simp[h]
  rw[ep];refine An w1 100 (by kernel_rfl) ?_;refine AU e1 ?_;refine AD kF ?_;simp only[e2];refine AD kF ?_;refine AM ?_;refine Am ?_;refine sR 300 ?_;refine cI cd ?_;refine Aj ?_;exact AL rfl AA.out
 |c::d::l,hl,hsz,cd=>
  have hs2:(sb (c::d::l)).size=l.length+2:=hsz;have e1:((((sb (c::d::l)).size:Nat):Int)==0)=false:=Bu.2 (by omega);have e2:decide ((((sb (c::d::l)).size:Nat):Int)>1)=true:=AX (by omega);have e3:((((c::d::l).getD (Int.toNat 0) 0).toNat:Int)==48)=decide (c=48):=jd c;have ep:C6 (c::d::l)=if c=48 then false else(c::d::l).all Be:=by
   unfold C6 Ka
   by_cases h:c=48
   ·subst h;simp
   ·simp[h]
  rw[ep];refine An w1 100 (by kernel_rfl) ?_;refine AU e1 ?_;refine AD (Ae kF e2) ?_;refine AD (BV kT e2 e3 kF) ?_
  by_cases h:c=48
  ·rw[AX h,AG h]
   refine AM ?_;refine sR 200 ?_;refine Aj ?_;exact AL rfl AA.out
  ·rw[Ad h,AF h]
   refine AM ?_;refine Am ?_;refine sR 300 ?_;refine cI cd ?_;refine Aj ?_;exact AL rfl AA.out
def Dm (r:Rat):Bool:=decide (600<(Lib.decDigits r.num.natAbs).length)||decide (600<(Lib.decDigits r.den).length)
theorem kS (l:List UInt8):BJ l=(Bz l).length:=by
 have:=K8 l
 unfold Bz;rw[Bb];omega
theorem SQ (l:List UInt8):Bz (Bo l)=B1 l/\BZ (Bo l)=BZ l/\Cv (Bo l)=Cv l/\decide (Bz l=[45,48])=(DJ l&&decide (B1 l=[48])):=by
 cases hb:DJ l
 ·have ed:Bo l=l:=by unfold Bo;rw[hb];rfl
  have en:DJ (Bz l)=false:=by
   unfold Bz;cases l with
   |nil=>rfl
   |cons c l=>
    cases hk:BJ (c::l)with
    |zero=>rfl
    |succ k=>exact hb
  have es:B1 l=Bz l:=by unfold B1 Bo;rw[en];rfl
  rw[ed,es];refine⟨rfl,rfl,rfl,?_⟩;rw[Gl];refine Ad λh=>?_
  rw[h]at en;cases en
 ·cases l with
  |nil=>cases hb
  |cons c m=>
   have hc:c=45:=by simpa[DJ]using hb
   subst hc;have ed:Bo (45::m)=m:=rfl;have e1:BJ (45::m)=BJ m+1:=by
    unfold BJ;rw[PM,AG (by decide),Bp]
   have e2:Bz (45::m)=45::Bz m:=by unfold Bz;rw[e1,List.take_succ_cons]
   have e3:BZ (45::m)=BZ m:=by unfold BZ;rw[e1,Ry]
   have e4:Cv (45::m)=Cv m:=by unfold Cv;rw[e1,Bp];exact C4.2 (by omega)
   have e5:B1 (45::m)=Bz m:=by unfold B1;rw[e2];rfl
   rw[ed,e2,e3,e4,e5];refine⟨rfl,rfl,rfl,?_⟩;rw[Fq];exact C4.2 (by simp)
theorem Pj (l:List UInt8):JG l=((!C6 (B1 l)||(DJ l&&decide (B1 l=[48])))||(Cv l&&(!C6 (BZ l)||decide (BZ l=[48])||decide (BZ l=[49])))):=by
 unfold JG;rw[(SQ l).2.2.2]
theorem me {l:List UInt8}(h:C6 l=true):l≠[]:=(J5 h).1
theorem bW {l:List UInt8}(h:0<l.length):(((l.getD (Int.toNat 0) 0).toNat:Int)==45)=DJ l:=by
 cases l with
 |nil=>cases h
 |cons c l=>exact QH c l
theorem uD (l:List UInt8)(hl:l.length<=100000):AJ C0 165 [str (sb l)] (i64 (CW l)):=by
 refine Ag.walk w1 rf rfl λF=>?_
 have hsz:=Cd l;obtain⟨p1,p2,p3,-⟩:=SQ l;have hdl:(Bo l).length<=l.length:=by
  unfold Bo;split
  ·rw[Dc];omega
  ·exact Ai _
 have hbf:=Pj l;have hchk1:(!C6 (B1 l)||(DJ l&&decide (B1 l=[48])))=true->CW l=1:=λh=>by
  unfold CW;rw[hbf,h,Bool.true_or,AG rfl]
 have hchk2:(Cv l&&(!C6 (BZ l)||decide (BZ l=[48])||decide (BZ l=[49])))=true->CW l=1:=λh=>by
  unfold CW;rw[hbf,h,Bool.or_true,AG rfl]
 have hne:C6 (B1 l)=true->0<l.length:=λh=>by
  cases l with
  |nil=>exact Ah rfl (me h)
  |cons c l=>rw[Bp];omega
 refine sR 0 ?_;refine sR 100 ?_;refine Cz (α:=Nat) (λn=>⟨[(0,str (sb l)),(3,str (sb (Bo l)))],[],n⟩) (λ_=>True) ?_ ?_
 ·rcases Dh l.length with h0|h0
  ·have e0:l=[]:=FF h0
   have e1:decide (((sb []).size:Int)>0)=false:=rfl;have ed:Bo l=l:=by rw[e0];rfl
   rw[ed,e0];refine sZ 200 ?_;refine AU e1 ?_;refine AD kF ?_;refine AM ?_;refine Am ?_;exact⟨rfl,_,trivial,AK⟩
  ·have e0:decide (((sb l).size:Int)>0)=true:=AX (by omega)
   have e1:=bW h0;refine sZ 200 ?_;refine AD e0 ?_;refine AD (As kT e0 e1) ?_;cases hb:DJ l
   ·have ed:Bo l=l:=by unfold Bo;rw[hb];rfl
    rw[ed];refine AM ?_;refine Am ?_;exact⟨rfl,_,trivial,AK⟩
   ·have ed:Bo l=l.drop 1:=by unfold Bo;rw[hb];rfl
    have ee:(sb l).extract (Int.toNat 1) l.length=sb (Bo l):=by
     rw[Ek,B7 (Ai _),ed];rfl
    refine AM ?_;refine An w1 300 (by kernel_rfl) ?_;refine AD (Ae hsz kN) ?_;rw[ee];exact⟨trivial,_,trivial,AK⟩
 rintro n0 -;have cs:=Ts (Bo l) (by omega);have hle:=K8 (Bo l);have hszS:=Cd (Bo l);have hhs:Cv l=decide (BJ (Bo l)<(Bo l).length):=p3.symm;have e10:(sb (Bo l)).extract 0 (BJ (Bo l))=sb (B1 l):=by rw[<-p1,Ek,FG];rfl
 have e11:(sb (Bo l)).extract (BJ (Bo l)+1) (Bo l).length=sb (BZ l):=by rw[<-p2,Ek,B7 (Ai _)];rfl
 have hNl:BJ (Bo l)=(B1 l).length:=by rw[<-p1];exact kS _
 have hDl:(BZ l).length=(Bo l).length-(BJ (Bo l)+1):=by rw[<-p2];unfold BZ;rw[Dc]
 have pp:=λh1 h2=>TZ (Bo l) h1 h2 (by omega)
 unfold O4 Ov at pp;rw[p1,p2,p3]at pp;have edef:CW l=if JG l then 1 else if 600<(B1 l).length\/600<(BZ l).length then 4 else if Cv l=true/\Nat.gcd (dv (B1 l)) (dv (BZ l))≠1 then 1 else 0:=rfl
 rw[hbf]at edef;generalize hN:B1 l=Nn at*;generalize hD:BZ l=Dn at*;generalize hH:Cv l=hv at*;generalize hK:CW l=KnV at*;generalize Bo l=Sn at*;generalize BJ Sn=k at*;clear p1 p2 p3 hbf hN hD hH hK;have cf:=aN Nn (by omega);have cf2:=aN Dn (by omega);have q0:=Em Nn [48];have q1:=Em Dn [48];have q2:=Em Dn [49];refine sR 400 ?_;refine cI cs ?_;refine Cz (α:=Nat) (λn=>⟨[(0,str (sb l)),(3,str (sb Sn)),(4,i64 (k:Int))],[],n⟩) (λ_=>(!C6 Nn||(DJ l&&decide (Nn=[48])))=false) ?_ ?_
 ·refine sZ 500 ?_
  refine AD (Ae hszS kN) ?_;refine AD e10 ?_;cases hp:C6 Nn
  ·rw[hp]at cf
   refine A9.same _ cf AI ?_;refine BO ?_;simp only[Rp];refine AD kT ?_;refine AM ?_;refine sR 600 ?_;refine Aj ?_;exact AL (by rw[hchk1 (by rw[hp];rfl)];rfl) AA.out
  ·rw[hp]at cf
   have hl0:=hne hp;have e1:=bW hl0;refine A9.same _ cf AI ?_;refine BO ?_;simp only[PF];refine AD (As kF hsz e1) ?_;have q0':BI (sb Nn) ⟨#[48]⟩=decide (Nn=[48]):=q0;cases hb:DJ l
   ·refine AD kF ?_
    refine AM ?_;refine Am ?_;exact⟨rfl,_,rfl,AK⟩
   ·refine AD (BV kT kF hszS kN) ?_
    refine AD (BV kT kF e10 q0') ?_
    by_cases h0:Nn=[48]
    ·rw[AX h0]
     refine AM ?_;refine sR 600 ?_;refine Aj ?_;exact AL (by rw[hchk1 (by simp[hp,hb,h0])];rfl) AA.out
    ·rw[Ad h0]
     refine AM ?_;refine Am ?_;exact⟨rfl,_,by simp,AK⟩
 rintro n1 hb1;clear hchk1 hne cf q0;refine Cz (α:=Nat) (λn=>⟨[(0,str (sb l)),(3,str (sb Sn)),(4,i64 (k:Int))],[],n⟩) (λ_=>(hv&&(!C6 Dn||decide (Dn=[48])||decide (Dn=[49])))=false) ?_ ?_
 ·cases hv
  ·have e40:decide ((k:Int)<(Sn.length:Int))=false:=Ad (by have:=DL hhs.symm;omega)
   refine sZ 700 ?_;refine AU (Ae hszS e40) ?_;refine AD kF ?_;refine AM ?_;refine Am ?_;exact⟨rfl,_,rfl,AK⟩
  ·have hkl:=DA hhs.symm
   have e40:decide ((k:Int)<(Sn.length:Int))=true:=AX (by omega);have wk:IntKind.i64.wrap ((k:Int)+1)=((k+1:Nat):Int):=wI (by omega) (by omega);have q1':BI (sb Dn) ⟨#[48]⟩=decide (Dn=[48]):=q1;have q2':BI (sb Dn) ⟨#[49]⟩=decide (Dn=[49]):=q2;refine sZ 700 ?_;refine AU (Ae hszS e40) ?_;refine AD (BV kT wk hszS kN) ?_;simp only[e11];refine NV kT ?_;cases hp:C6 Dn
   ·rw[hp]at cf2
    refine A9.same _ cf2 AI ?_;refine AD kB ?_;refine AD kT ?_;refine AM ?_;refine sR 800 ?_;refine Aj ?_;exact AL (by rw[hchk2 (by simp[hp])];rfl) AA.out
   ·rw[hp]at cf2
    have e12:(sb Sn).extract (IntKind.i64.wrap ((k:Int)+1)).toNat (sb Sn).size=sb Dn:=by rw[wk,hszS,Lx];exact e11
    refine A9.same _ cf2 AI ?_;refine AD kB ?_;simp only[e12,q1']
    by_cases h48:Dn=[48]
    ·rw[AX h48]
     refine AD kT ?_;refine AM ?_;refine sR 800 ?_;refine Aj ?_;exact AL (by rw[hchk2 (by simp[h48])];rfl) AA.out
    ·rw[Ad h48]
     refine AD kB ?_;simp only[e12,q2']
     by_cases h49:Dn=[49]
     ·rw[AX h49]
      refine AM ?_;refine sR 800 ?_;refine Aj ?_;exact AL (by rw[hchk2 (by simp[h49])];rfl) AA.out
     ·rw[Ad h49]
      refine AM ?_;refine Am ?_;exact⟨rfl,_,by simp,AK⟩
 rintro n2 hb2;clear hchk2 cf2 q1 q2 e10 e11 hsz;have hpN:C6 Nn=true:=by
  cases h:C6 Nn
  ·rw[h]at hb1;simp at hb1
  ·rfl
 have hpD:hv=true->C6 Dn=true:=λh0=>by
  cases h:C6 Dn
  ·rw[h,h0]at hb2;simp at hb2
  ·rfl
 rw[hb1,hb2]at edef;rw[AF (by decide)]at edef;have wl1:IntKind.i64.wrap ((Sn.length:Int)-(k:Int))=(Sn.length:Int)-(k:Int):=wI (by omega) (by omega);have wl2:IntKind.i64.wrap ((Sn.length:Int)-(k:Int)-1)=(Sn.length:Int)-(k:Int)-1:=wI (by omega) (by omega);have e91:decide ((Sn.length:Int)-(k:Int)-1>600)=decide (600<Dn.length):=C4.2 (by omega);refine Cz (α:=Nat) (λn=>⟨[(3,str (sb Sn)),(4,i64 (k:Int))],[],n⟩) (λ_=>Nn.length<=600/\Dn.length<=600) ?_ ?_
 ·by_cases g1:600<k
  ·have e9:decide ((k:Int)>600)=true:=AX (by omega)
   rw[AG (.inl (by omega))]at edef;refine sZ 900 ?_;refine AU e9 ?_;refine AD kT ?_;refine AM ?_;refine sR 1000 ?_;refine Aj ?_;exact AL (by rw[edef];rfl) AA.out
  ·have e9:decide ((k:Int)>600)=false:=Ad (by omega)
   refine sZ 900 ?_;refine AU e9 ?_;refine AD (CE kF hszS wl1 wl2 e91) ?_
   by_cases g2:600<Dn.length
   ·rw[AG (.inr g2)]at edef
    rw[AX g2];refine AM ?_;refine sR 1000 ?_;refine Aj ?_;exact AL (by rw[edef];rfl) AA.out
   ·rw[Ad g2]
    refine AM ?_;refine Am ?_;exact⟨rfl,_,⟨by omega,by omega⟩,AK⟩
 rintro n3 ⟨g1,g2⟩;rw[AF (by omega)]at edef;clear e91 wl1 wl2 hb1 hb2;obtain⟨-,dN⟩:=J5 hpN;refine Cz (α:=Nat) (λn=>⟨[],[],n⟩) (λ_=>KnV=0) ?_ ?_
 ·cases hv
  ·have e40:decide ((k:Int)<(Sn.length:Int))=false:=Ad (by have:=DL hhs.symm;omega)
   rw[AF (by simp)]at edef;refine sZ 1100 ?_;refine AU (Ae hszS e40) ?_;refine AM ?_;refine Am ?_;exact⟨rfl,_,edef,AK⟩
  ·have hkl:=DA hhs.symm
   have e40:decide ((k:Int)<(Sn.length:Int))=true:=AX (by omega);obtain⟨-,dD⟩:=J5 (hpD rfl);have pa:=pp (by rw[Jv dN];exact dN) (by rw[Jv dD];exact dD);rw[AG rfl,Mk dN,Mk dD]at pa;have lN:(AZ (dv Nn)).length<1000000:=DV (Kz (CV (GA Nn dN) (NI (by decide) Nn.length))) (by omega);have lD:(AZ (dv Dn)).length<1000000:=DV (Kz (CV (GA Dn dD) (NI (by decide) Dn.length))) (by omega);have cg:AJ C0 175 [rD ((dv Nn:Int)).natAbs,rD ((dv Dn:Int)).natAbs] (.sl false 1 ((AZ (Nat.gcd (dv Nn) (dv Dn))).map Aa)):=XQ (dv Nn) (dv Dn) lN lD;have ht:=X7 (Nat.gcd (dv Nn) (dv Dn));have ed1:Nat.gcd (dv Nn) (dv Dn)≠1->KnV=1:=λh=>by rw[AG ⟨rfl,h⟩]at edef;exact edef
   have ed0:Nat.gcd (dv Nn) (dv Dn)=1->KnV=0:=λh=>by rw[AF (λhh=>hh.2 h)]at edef;exact edef
   clear edef;generalize Nat.gcd (dv Nn) (dv Dn)=gg at*;refine sZ 1100 ?_;refine AU (Ae hszS e40) ?_;refine AM ?_;refine sR 1200 ?_;refine cI pa ?_;refine sR 1300 ?_;refine cI cg ?_;rcases ht with⟨t1,a,ha,t2⟩|⟨t1,t2⟩
   ·have ha':=Do ha
    have t1n:((((AZ gg).map Aa).length:Int) != 1)=false:=by unfold bne;rw[t1];rfl
    have t2n:((a:Int) != 1) = !decide (gg=1):=by unfold bne;rw[t2]
    refine sZ 1400 ?_;refine AU t1n ?_;refine AD kF ?_;refine Br kF ha' ?_;refine AD (Ae kF t2n) ?_
    by_cases hg1:gg=1
    ·rw[AX hg1]
     refine AM ?_;refine Am ?_;exact⟨rfl,_,ed0 hg1,AK⟩
    ·rw[Ad hg1]
     refine AM ?_;refine sR 1500 ?_;refine Aj ?_;exact AL (by rw[ed1 hg1];rfl) AA.out
   ·have edf:=ed1 t2
    have t1n:((((AZ gg).map Aa).length:Int) != 1)=true:=by unfold bne;rw[t1];rfl
    refine sZ 1400 ?_;refine AU t1n ?_;refine AD kT ?_;refine AM ?_;refine sR 1500 ?_;refine Aj ?_;exact AL (by rw[edf];rfl) AA.out
 rintro n4 h0;refine sR 1600 ?_;refine Aj ?_;exact AL (by rw[h0];rfl) AA.out
theorem kh {n k:Nat}(hn:n≠0)(hk:k<10):Lib.decDigits (n*10+k)=Lib.decDigits n++[UInt8.ofNat (48+k)]:=by
 rw[Lib.decDigits,dif_neg (by omega)]
 congr 2
 ·omega
 ·congr 2;omega
theorem XS {c:UInt8}(h:Be c=true):UInt8.ofNat (48+(c.toNat-48))=c:=by
 obtain⟨h1,h2⟩:=K5 h;rw[<-UInt8.toNat_inj,QB _ (by omega)];omega
theorem mi (l:List UInt8)(c:UInt8):dv (l++[c])=dv l*10+(c.toNat-48):=by
 rw[Nu];simp[dv,Gk]
theorem p9:∀(n:Nat) (l:List UInt8),l.length=n->l≠[]->l.all Be=true->l.head? ≠ some 48->dv l≠0/\Lib.decDigits (dv l)=l:=λn=>by
 induction n with
 |zero=>intro l h0 h1;exact Ah (FF h0) h1
 |succ n ih=>
  intro l h0 h1 h2 h3;rcases Ru l with rfl|⟨m,c,rfl⟩
  ·exact Ah rfl h1
  ·rw[Rt]at h0 h1 h2 h3⊢
   rw[Jm,BP]at h2;have hc:Be c=true:=by simpa using h2.2
   obtain⟨c1,c2⟩:=K5 hc;rw[mi]
   by_cases hm:m=[]
   ·subst hm
    have hc48:c≠48:=λh=>h3 (by rw[h];rfl)
    have hcn:c.toNat≠48:=λh=>hc48 (UInt8.toNat_inj.1 h)
    have e0:dv []*10+(c.toNat-48)=c.toNat-48:=by simp[dv,Gk]
    rw[e0];refine⟨by omega,?_⟩;rw[Lib.decDigits,dif_pos (by omega),XS hc];rfl
   ·have hh:m.head? ≠ some 48:=by
     cases m with
     |nil=>exact Ah rfl hm
     |cons a m=>exact h3
    obtain⟨i1,i2⟩:=ih m (by rw[Bh,GS]at h0;omega) hm h2.1 hh;refine⟨by omega,?_⟩;rw[kh i1 (by omega),i2,XS hc]
theorem Se {l:List UInt8}(h:C6 l=true):Lib.decDigits (dv l)=l/\(l≠[48]->dv l≠0):=by
 obtain⟨h1,h2⟩:=J5 h
 by_cases h0:l=[48]
 ·subst h0
  refine⟨?_,λhh=>Ah rfl hh⟩;show Lib.decDigits 0=[48];rw[Lib.decDigits,dif_pos (by decide)];rfl
 ·have h3:l.head? ≠ some 48:=by
   unfold C6 at h;rw[BP,Ad h0,Bool.false_or]at h
   have:=h.2
   simpa using this
  obtain⟨a,b⟩:=p9 _ l rfl h1 h2 h3;exact⟨b,λ_=>a⟩
theorem Xp:∀ {l:List UInt8},BJ l<l.length->l.drop (BJ l)=47::l.drop (BJ l+1)
 | [],h=>by cases h
 |c::l,h=>by
  by_cases hc:c=47
  ·subst hc;rfl
  ·have e1:BJ (c::l)=BJ l+1:=by
    unfold BJ;rw[PM,AG (by simpa using hc),Bp]
   rw[e1,Bp]at h;rw[e1,Ry,Ry];exact Xp (by omega)
def Gj (l:List UInt8):Nat:=if Cv l then dv (BZ l)else 1
def CN (l:List UInt8):Rat:=mkRat (rv (Bz l)) (Gj l)
theorem jt {n:Int}{d:Nat}(hd:d≠0)(h:Nat.gcd n.natAbs d=1):(mkRat n d).num=n/\(mkRat n d).den=d:=by
 obtain⟨q1,q2⟩:=TD (x:=n) hd;rw[h,Nat.div_one]at q1 q2;rw[Q0]at q1;exact⟨q1,q2⟩
theorem QA {l:List UInt8}(h:CW l=0):JG l=false/\(B1 l).length<=600/\(BZ l).length<=600/\(Cv l=true->Nat.gcd (dv (B1 l)) (dv (BZ l))=1):=by
 unfold CW at h;cases hb:JG l
 ·rw[hb,AF (by decide)]at h
  split at h
  ·cases h
  ·rename_i h1
   split at h
   ·cases h
   ·rename_i h2
    refine⟨rfl,by omega,by omega,λh3=>?_⟩;rcases Nat.decEq (Nat.gcd (dv (B1 l)) (dv (BZ l))) 1 with h4|h4
    ·exact Ah ⟨h3,h4⟩ h2
    ·exact h4
 ·rw[hb,AG rfl]at h;cases h
theorem Nt {l:List UInt8}(h:CW l=0):(CN l).num=rv (Bz l)/\(CN l).den=Gj l/\BN (CN l)=l/\(rv (Bz l)).natAbs=dv (B1 l):=by
 obtain⟨h1,h2,h3,h4⟩:=QA h;rw[Pj]at h1;simp only[Iz]at h1;obtain⟨⟨b1,b2⟩,b3⟩:=h1;have p1:C6 (B1 l)=true:=by simpa using b1
 obtain⟨d1,d2⟩:=Se p1;have hab:(rv (Bz l)).natAbs=dv (B1 l):=by
  show(rv (Bz l)).natAbs=dv (Bo (Bz l));unfold rv;split<;>omega
 have hdd:Cv l=true->C6 (BZ l)=true/\BZ l≠[48]/\BZ l≠[49]:=λhs=>by
  rw[hs,Fq]at b3;simp only[Iz]at b3;exact⟨by simpa using b3.1.1,DL b3.1.2,DL b3.2⟩
 have hd0:Gj l≠0:=by
  unfold Gj;cases hs:Cv l
  ·simp
  ·obtain⟨e1,e2,e3⟩:=hdd hs
   simpa using(Se e1).2 e2
 have hg:Nat.gcd (rv (Bz l)).natAbs (Gj l)=1:=by
  rw[hab];unfold Gj;cases hs:Cv l
  ·simp
  ·simpa using h4 hs
 obtain⟨m1,m2⟩:=jt hd0 hg;refine⟨m1,m2,?_,hab⟩;have hi:Lib.itoa (rv (Bz l))=Bz l:=by
  cases hb:DJ (Bz l)
  ·have e1:B1 l=Bz l:=by unfold B1 Bo;rw[hb];rfl
   rw[e1]at d1;have e2:rv (Bz l)=(dv (Bz l):Int):=by unfold rv Bo;rw[hb];rfl
   rw[e2];unfold Lib.itoa;rw[AF (by omega)];exact d1
  ·obtain⟨m,hm⟩:∃m,Bz l=45::m:=by
    cases hn:Bz l with
    |nil=>rw[hn]at hb;cases hb
    |cons c m=>
     rw[hn]at hb;exact⟨m,by rw[show c=45 by simpa[DJ]using hb]⟩
   have e1:B1 l=m:=by unfold B1;rw[hm];rfl
   have hne:B1 l≠[48]:=λh=>by
    have:=(SQ l).2.2.2
    rw[b2,hm]at this;have h2:=DL this;rw[e1]at h;exact h2 (by rw[h])
   have hpos:=d2 hne;rw[e1]at d1 hpos;have e2:rv (Bz l) = -(dv m:Int):=by rw[hm];rfl
   rw[e2];unfold Lib.itoa;rw[AG (by omega),Lz,EJ,d1,hm]
 unfold BN;rw[show(CN l).num=rv (Bz l)from m1,show(CN l).den=Gj l from m2,hi];have hle:=K8 l;cases hs:Cv l
 ·have e1:Gj l=1:=by unfold Gj;rw[hs];rfl
  have e2:=DL (p:=BJ l<l.length) hs;rw[AG e1];unfold Bz;exact B7 (by omega)
 ·obtain⟨e1,e2,e3⟩:=hdd hs
  have e4:Gj l=dv (BZ l):=by unfold Gj;rw[hs];rfl
  have e5:=(Se e1).1;have e6:dv (BZ l)≠1:=λh=>by
   rw[h,Lib.decDigits,dif_pos (by decide)]at e5;exact e3 e5.symm
  rw[e4,AF e6,e5];unfold Bz BZ;rw[<-Xp (DA hs),Ev]
theorem Pe {l:List UInt8}(h:CW l=0):(B1 l).all Be=true/\(Cv l=true->(BZ l).all Be=true):=by
 obtain⟨h1,-,-,-⟩:=QA h;rw[Pj]at h1;simp only[Iz]at h1;obtain⟨⟨b1,-⟩,b3⟩:=h1;refine⟨(J5 (by simpa using b1)).2,λhs=>?_⟩;rw[hs,Fq]at b3;simp only[Iz]at b3;exact(J5 (by simpa using b3.1.1)).2
theorem Mf {l:List UInt8}(h:CW l=0):rk (CN l) 600:=by
 obtain⟨m1,m2,-,m4⟩:=Nt h;obtain⟨-,h2,h3,-⟩:=QA h;obtain⟨p1,p2⟩:=Pe h;have hb:∀k,(10:Nat)^k<=BB^k:=λk=>NI (by decide) k
 refine⟨?_,?_⟩
 ·rw[m1,m4]
  exact BU (Gu (CV (GA _ p1) (hb _))) h2
 ·rw[m2]
  unfold Gj;cases hs:Cv l
  ·exact BU (Gu (n:=1) (k:=1) (by decide)) (by decide)
  ·exact BU (Gu (CV (GA _ (p2 hs)) (hb _))) h3
theorem Qy {l:List UInt8}(h:CW l=0):FR (CN l) (GB l) 600:=by
 obtain⟨m1,m2,-,-⟩:=Nt h;refine⟨⟨Cc _,?_,?_⟩,Mf h⟩
 ·show(AY (rv (Bz l))).z=_
  rw[Dk,m1]
 ·show(if Cv l then dv (BZ l)else 1)=_
  rw[m2];rfl
theorem Qp {l:List UInt8}(hl:l.length<=100000)(h:CW l=0):AJ C0 103 [str (sb l)] (GB l).D:=my l hl (Pe h).1 (Pe h).2
end Go.Ide
