/- The layer of own lemmas and contracts, part 8. -/
import Derived.Test.YtegpdgcahcikoaaGreatDoorY7
import Derived.Test.YtegpdgcahcikoaaGreatDoorY3
set_option linter.unusedVariables false
set_option linter.unusedSimpArgs false
namespace Go.Ide
open Go.Proofs Go.RowKit
set_option maxRecDepth 20000
def Co (b:Nat):Bool:=((decide (97<=b)&&decide (b<=122))||(decide (65<=b)&&decide (b<=90)))||(decide (48<=b)&&decide (b<=57))||b==45||b==95||b==46
def Db (l:List UInt8):Bool:=l.all (λb=>Co b.toNat)&&(decide (1<=l.length)&&decide (l.length<=24))
theorem fH (s:ByteArray)(p:Nat)(hp:p<s.size):s.data.toList[p]?=some (s.get! p):=by
 have hp':p<s.data.size:=hp;rw[JG,Bk hp']
 congr 1
 show _=s.data[p]!;rw[getElem!_pos s.data p hp']
theorem Yy (s:ByteArray)(p:Nat)(h:(s.get! p).toNat<128):Utf8.decode s p=((s.get! p).toNat,1):=by
 unfold Utf8.decode;exact AG h
theorem mG (s:ByteArray)(p:Nat)(h:¬(s.get! p).toNat<128):128<=(Utf8.decode s p).1:=by
 unfold Utf8.decode;dsimp only;simp only[DX];rw[AF h];have hv:128<=Utf8.runeError:=by decide
 repeat' split
 all_goals first|exact hv|(rename_i h1;simp only[ge_iff_le,BO,GX]at h1;dsimp only;omega)
theorem jz (s:ByteArray):AI C0 75 [str s] (Aq (Db s.data.toList)):=by
 refine Ag.walk w1 dw rfl λB=>?_
 have hsz:s.data.toList.length=s.size:=If;refine fR 0 ?_;refine AC.seq ?_;refine AC.seq ?_;refine yy w1 100 [0] 1 rfl (by kernel_rfl) rfl ?_;refine B7 ?_;intro F hF;refine Au ?_;refine AC.block ?_;refine GT (α:=Nat×Nat) (λp=>⟨[(0,str s),(7,.optr 101 2 0 0 0)],[],p.2⟩) (λp=>s.size-p.1) (λp F=>Mj C0 B F 101 2 s p.1/\p.1<=s.size/\(s.data.toList.take p.1).all (λb=>Co b.toNat)=true) (0,3) ⟨hF,BS _,rfl⟩ AK ?_;rintro⟨p,n⟩ F ⟨hIt,hp,hall⟩;dsimp only at hIt hp hall⊢;refine AC.seq ?_;refine yx w1 200 0 [1] rfl (by kernel_rfl) s p ?_;refine And.intro hIt (And.intro (λhlt F hIt=>?_) (λhge=>?_))
 ·refine B7 ?_
  generalize hc:(Utf8.decode s p).1=c;refine AC.seq ?_;refine AM ?_;refine An ?_;refine AC.block ?_;refine fR 300 ?_;refine EU ⟨[(0,str s),(7,.optr 101 2 0 0 0),(4,.prim (.int .i32 c)),(5,Aq ((decide ((c:Int)>=97)&&decide ((c:Int)<=122))||(decide ((c:Int)>=65)&&decide ((c:Int)<=90))))],[],n+30⟩ (Ao w1 400 (by kernel_rfl) ?_) ?_
  ·repeat'(first|(refine And.intro (by exact B8) ?_;refine Au ?_)|((refine Bw (λhb=>?_) (λhb=>?_))<;>(try simp only[Bi,Bu]at hb)<;>(try simp only[hb])<;>(refine Au ?_)))
   all_goals exact AK
  generalize hL:((decide ((c:Int)>=97)&&decide ((c:Int)<=122))||(decide ((c:Int)>=65)&&decide ((c:Int)<=90)))=L;refine EU ⟨[(0,str s),(7,.optr 101 2 0 0 0),(47,Aq ((((!L && !(decide ((c:Int)>=48)&&decide ((c:Int)<=57)))&&((c:Int) != 45))&&((c:Int) != 95))&&((c:Int) != 46)))],[],n+60⟩ (Ao w1 500 (by kernel_rfl) ?_) ?_
  ·repeat'(first|(refine And.intro (by exact B8) ?_;refine Au ?_)|((refine Bw (λhb=>?_) (λhb=>?_))<;>(try simp only[Bi,Bu]at hb)<;>(try simp only[hb])<;>(refine Au ?_)))
   all_goals exact AK
  have hbad:((((!L && !(decide ((c:Int)>=48)&&decide ((c:Int)<=57)))&&((c:Int) != 45))&&((c:Int) != 95))&&((c:Int) != 46)) = !(Co c):=by
   subst hL;rw[Fc];simp only[Co,BO,Bi,JD,Bool.and_eq_false_iff,Ib,bne_iff_ne,ne_eq,Bs];omega
  rw[hbad];refine AM ?_
  (refine Bw (λhb=>?_) (λhb=>?_))<;>(try simp only[Bi,Bu]at hb)<;>(try simp only[hb])
  ·have hbf:Co c=false:=by simpa using hb
   refine fR 600 ?_;refine Ah ?_;refine AL ?_ AA.out;have hb8:Co (s.get! p).toNat=false:=by
    by_cases hlow:(s.get! p).toNat<128
    ·rw[Yy s p hlow]at hc
     rw[show(s.get! p).toNat=c from hc];exact hbf
    ·unfold Co;simp;omega
   have:Db s.data.toList=false:=by
    unfold Db
    have:s.data.toList.all (λb=>Co b.toNat)=false:=by
     rw[List.all_eq_false];exact⟨_,Av (fH s p hlt),by rw[hb8];simp⟩
    rw[this];rfl
   rw[this]
  ·have hbt:Co c=true:=by simpa using hb
   have hclt:c<128:=by
    unfold Co at hbt;simp only[K0,BO,GX,EB]at hbt;omega
   have hlow:(s.get! p).toNat<128:=by
    apply DT;intro h
    have:=mG s p h
    omega
   rw[Yy s p hlow]at hc hIt;refine An ?_;refine⟨(p+1,n+60),⟨hIt,hlt,?_⟩,by dsimp only;omega,AK⟩;rw[Di,fH s p hlt,Jz,hall];simp;rw[show(s.get! p).toNat=c from hc];exact hbt
 ·have hpe:p=s.size:=by omega
  refine B7 ?_;refine AC.seq ?_;refine AM ?_;refine B6 ?_;refine EU ⟨[(2,Aq (decide (1<=(s.size:Int))&&decide ((s.size:Int)<=24)))],[],n+60⟩ (Ao w1 700 (by kernel_rfl) ?_) ?_
  ·repeat'(first|(refine And.intro (by exact B8) ?_;refine Au ?_)|((refine Bw (λhb=>?_) (λhb=>?_))<;>(try simp only[Bi,Bu]at hb)<;>(try simp only[hb])<;>(refine Au ?_)))
   all_goals exact AK
  refine Ah ?_;refine AL ?_ AA.out;have hall':s.data.toList.all (λb=>Co b.toNat)=true:=by rw[<-hall,hpe,<-hsz,DO]
  unfold Db;rw[hall',GY,hsz];have e:(decide (1<=(s.size:Int))&&decide ((s.size:Int)<=24))=(decide (1<=s.size)&&decide (s.size<=24)):=by
   rw[Fc];simp only[BO,GX];omega
  rw[<-e]
def U6:Value->Value->Bool
 | .int .i64 a,.int .i64 b=>a==b
 | .string a,.string b=>a.data.toList==b.data.toList
 | .bool a,.bool b=>a==b
 | .slice none 0 0,.slice none 0 0=>true
 |_,_=>false
theorem mS {a b:Value}(h:U6 a b=true):a=b:=by
 unfold U6 at h;split at h
 ·rw[eq_of_beq h]
 ·rename_i a b
  have:=eq_of_beq h
  congr 1
  exact ByteArray.ext (Array.toList_inj.1 this)
 ·rw[eq_of_beq h]
 ·rfl
 ·cases h
def K3 (f:D->D->Bool):List D->List D->Bool
 | [],[]=>true
 |a::l,b::m=>f a b&&K3 f l m
 |_,_=>false
theorem Qz {f:D->D->Bool}(hf:∀a b,f a b=true->a=b):∀ {l m:List D},K3 f l m=true->l=m
 | [],[],_=>rfl
 |a::l,b::m,h=>by
  simp only[K3,BO]at h;rw[hf a b h.1,Qz hf h.2]
 | [],_::_,h=>by simp[K3]at h
 |_::_,[],h=>by simp[K3]at h
def Nc:Nat->D->D->Bool
 | 0,_,_=>false
 |n+1,a,b=>match a,b with
  | .prim a,.prim b=>U6 a b
  | .agg l,.agg m=>K3 (Nc n) l m
  | .sl x y l,.sl x' y' m=>(x==x')&&Nat.beq y y'&&K3 (Nc n) l m
  |_,_=>false
theorem UV:∀(n:Nat) (a b:D),Nc n a b=true->a=b
 | 0,_,_,h=>by simp[Nc]at h
 |n+1,a,b,h=>by
  unfold Nc at h;split at h
  ·rw[mS h]
  ·rw[Qz (UV n) h]
  ·simp only[BO]at h
   rw[eq_of_beq h.1.1,B3 h.1.2,Qz (UV n) h.2]
  ·cases h
def zN:Nat->Nat->List UInt8
 | 0,_=>[]
 |k+1,u=>match Nat.blt u 10 with
  |true=>[UInt8.ofNat (48+u)]
  |false=>zN k (u/10)++[UInt8.ofNat (48+u%10)]
def SO (t:Nat)(name:String):Option Nat:=match Nat.beq t 122 with
 |true=>match decide (name = "Cmp")with
  |true=>some 240
  |false=>none
 |false=>none
theorem bD (t:Nat)(name:String)(f:Nat)(h:SO t name=some f)(v:Value)(w:World):(method (C0.P.types.size+Made.depth) t v name).run C0.P w=.ok (f,v) w:=by
 unfold SO at h;split at h<;>try(cases h;done)
 rename_i ht;split at h<;>try(cases h;done)
 rename_i hn;obtain rfl:=B3 ht;obtain rfl:=Cz hn;cases h
 kernel_rfl
def yN:Az:=⟨.arr 256 1 false,256,256,true,.agg (Array.replicate 256 (.bool false))⟩
noncomputable def Pg (t:Nat):Option Az:=match Nat.beq t 322 with
 |true=>some yN
 |false=>Pe.get t
theorem VZ:Cm C0.P Pg:=λt i h=>by
 unfold Pg at h;split at h
 ·rename_i ht
  obtain rfl:=B3 ht;cases h
  kernel_rfl
 ·exact gM t i h
set_option maxHeartbeats 2000000
def Be (c:UInt8):Bool:=Nat.ble 48 c.toNat&&Nat.ble c.toNat 57
def HG:D:=.agg ((List.range 256).map λi=>Aq (Nat.ble 48 i&&Nat.ble i 57))
abbrev SU:List UInt8:=[48,49,50,51,52,53,54,55,56,57]
noncomputable def X4:EV:=⟨Pg,MJ.get,Nd.get,λ_=>false,λ_ _=>none,λ_ _=>none,Ks⟩
theorem VN:FF C0 X4:=⟨VZ,Rr,J5,λ_ _ _ h=>by simp[X4]at h,by kernel_rfl,λ_ _ _ h=>by simp[X4]at h,Qm⟩
theorem w4:DR C0 X4:=VN.w
theorem ik:AI C0 304 [str (sb SU)] (.tup [HG,Aq true]):=CE VN 1000 40 (by kernel_rfl)
def VX (o:Option D)(b:Bool):Bool:=match o with
 |some (.prim (.bool c))=>c==b
 |_=>false
theorem kp {o:Option D}{b:Bool}(h:VX o b=true):o=some (Aq b):=by
 unfold VX at h;split at h
 ·rw[EB]at h;subst h;rfl
 ·cases h
theorem gY:((List.range 256).all λc=>VX ((Ga X4 1000 40).1 311 [.pptr HG,.prim (.int .u8 (c:Nat))]) (Nat.ble 48 c&&Nat.ble c 57))=true:=by kernel_rfl
theorem WL (c:UInt8):AI C0 311 [.pptr HG,.prim (.int .u8 (c.toNat:Nat))] (Aq (Be c)):=by
 refine CE VN 1000 40 ?_;have h:=CN.1 gY c.toNat (List.mem_range.2 c.toNat_lt);exact kp h
instance:AV HG:=⟨λc hc=>by
 change c∈(List.range 256).map (λi=>Aq (Nat.ble 48 i&&Nat.ble i 57))at hc;obtain⟨i,_,rfl⟩:=List.mem_map.1 hc;exact .prim _⟩
def GL (l:List UInt8):List UInt8:=(l.reverse.dropWhile Be).reverse
theorem jR (m:List UInt8)(c:UInt8):GL (m++[c])=if Be c then GL m else m++[c]:=by
 unfold GL;rw[List.reverse_append,List.reverse_singleton,List.singleton_append,NW];split
 ·rfl
 ·rw[List.reverse_cons,List.reverse_reverse]
theorem m8 (l:List UInt8):((GL l).dropWhile Be=[])↔l.all Be=true:=by
 constructor
 ·intro h
  have h1:∀m:List UInt8,m.dropWhile Be=[]->m.all Be=true:=λm=>by
   induction m with
   |nil=>intro _;rfl
   |cons c m ih=>
    intro hm;rw[NW]at hm;split at hm
    ·rename_i hc
     rw[FZ,hc,ih hm];rfl
    ·cases hm
  have h2:(l.reverse.dropWhile Be).all Be=true:=by
   have:=h1 _ h
   unfold GL at this
   rwa [List.all_reverse]at this
  have h3:∀m:List UInt8,(m.dropWhile Be).all Be=true->m.all Be=true:=λm=>by
   induction m with
   |nil=>intro _;rfl
   |cons c m ih=>
    intro hm;rw[NW]at hm;split at hm
    ·rename_i hc
     rw[FZ,hc,ih hm];rfl
    ·exact hm
  have:=h3 _ h2
  rwa [List.all_reverse]at this
 ·intro h
  have h1:∀m:List UInt8,m.all Be=true->m.dropWhile Be=[]:=λm=>by
   induction m with
   |nil=>intro _;rfl
   |cons c m ih=>
    intro hm;rw[FZ,BO]at hm;rw[NW,AG hm.1];exact ih hm.2
  have hx:=h1 l.reverse (by rw[List.all_reverse];exact h);unfold GL;rw[hx];rfl
theorem iQ (l:List UInt8)(hl:l.length<=1000000000):AI C0 305 [str (sb l),.pptr HG] (str (sb (l.dropWhile Be))):=by
 refine Ag.walk w1 bq rfl λF=>?_
 have hps:AV HG:=AJ;have hcc:=WL;generalize HG=sd at*;refine sR 0 ?_;refine AC.seq ?_;refine AC.block ?_;refine AC.loop (α:=List UInt8×Nat) (λp=>⟨[(0,str (sb p.1)),(1,.pptr sd)],[],p.2⟩) (λp=>p.1.length) (λp=>p.1.dropWhile Be=l.dropWhile Be/\p.1.length<=l.length) (l,_) ⟨rfl,Af _⟩ AK ?_;rintro⟨m,n⟩ F ⟨h1,h2⟩;dsimp only at h1 h2⊢;refine AC.seq ?_;refine AC.seq ?_;cases m with
 |nil=>
  have e1:decide (((sb []).size:Int)>0)=false:=rfl;refine Ao w1 100 (by kernel_rfl) ?_;refine AT e1 ?_;refine AM ?_;refine B6 ?_;refine sR 400 ?_;refine Ah ?_;exact AL (by rw[<-h1];rfl) AA.out
 |cons c m=>
  have hsz:=Ce (c::m);have e1:decide (((sb (c::m)).size:Int)>0)=true:=AX (by rw[hsz,Bo];omega);have hx:(((sb (c::m)).data.toList.getD ((0:Int)).toNat 0).toNat:Int)=(c.toNat:Int):=rfl;have b1:(0:Int)<((sb (c::m)).size:Int):=by rw[hsz,Bo];omega
  have b2:(1:Int)<=((sb (c::m)).size:Int):=by omega
  have e3:(sb (c::m)).extract ((1:Int)).toNat (sb (c::m)).size=sb m:=by
   rw[Et,hsz,CA (Af _)];rfl
  have cc:=hcc c;refine Ao w1 100 (by kernel_rfl) ?_;refine AT e1 ?_;refine AM ?_;refine An ?_;refine AC.block ?_;refine AC.seq ?_;refine sZ 200 ?_;refine AT hx ?_;refine cI cc ?_;rcases hb:Be c with _|_
  ·refine AM ?_
   refine B6 ?_;refine sR 400 ?_;refine Ah ?_;refine AL ?_ AA.out;rw[<-h1,NW,AF (by rw[hb];simp)]
  ·refine AM ?_
   refine An ?_;refine Ao w1 300 (by kernel_rfl) ?_;refine AT e3 ?_;refine⟨(m,_),⟨?_,?_⟩,?_,AK⟩
   ·rw[<-h1,NW,AG hb]
   ·rw[Bo]at h2;dsimp only;omega
   ·show m.length<m.length+1;omega
theorem gi (l:List UInt8)(hl:l.length<=1000000000):AI C0 306 [str (sb l),.pptr HG] (str (sb (GL l))):=by
 refine Ag.walk w1 br rfl λF=>?_
 have hps:AV HG:=AJ;have hcc:=WL;generalize HG=sd at*;refine sR 0 ?_;refine AC.seq ?_;refine AC.block ?_;refine AC.loop (α:=List UInt8×Nat) (λp=>⟨[(0,str (sb p.1)),(1,.pptr sd)],[],p.2⟩) (λp=>p.1.length) (λp=>GL p.1=GL l/\p.1.length<=l.length) (l,_) ⟨rfl,Af _⟩ AK ?_;rintro⟨m,n⟩ F ⟨h1,h2⟩;dsimp only at h1 h2⊢;refine AC.seq ?_;refine AC.seq ?_;rcases SC m with rfl|⟨m,c,rfl⟩
 ·have e1:decide (((sb []).size:Int)>0)=false:=rfl
  refine Ao w1 100 (by kernel_rfl) ?_;refine AT e1 ?_;refine AM ?_;refine B6 ?_;refine sR 400 ?_;refine Ah ?_;exact AL (by rw[<-h1];rfl) AA.out
 ·rw[SB]at h1 h2⊢
  have hsz:=Ce (m++[c]);rw[Bh,Fu]at hsz h2;have e1:decide (((sb (m++[c])).size:Int)>0)=true:=AX (by rw[hsz];omega);have wk1:IntKind.i64.wrap (((sb (m++[c])).size:Int)-1)=(m.length:Int):=by rw[hsz,wI (by omega) (by omega)];omega
  have hx:(((sb (m++[c])).data.toList.getD (((m.length:Nat):Int)).toNat 0).toNat:Int)=(c.toNat:Int):=by
   show(((m++[c]).getD m.length 0).toNat:Int)=_;simp
  have b1:((m.length:Nat):Int)<((sb (m++[c])).size:Int):=by rw[hsz];omega
  have e3:(sb (m++[c])).extract 0 (((m.length:Nat):Int)).toNat=sb m:=by
   rw[Et];simp
  have cc:=hcc c;have ht:=jR m c;refine Ao w1 100 (by kernel_rfl) ?_;refine AT e1 ?_;refine AM ?_;refine An ?_;refine AC.block ?_;refine AC.seq ?_;refine sZ 200 ?_;refine AT (Aj wk1 hx) ?_;refine cI cc ?_;rcases hb:Be c with _|_
  ·rw[AF (by rw[hb];simp)]at ht
   refine AM ?_;refine B6 ?_;refine sR 400 ?_;refine Ah ?_;exact AL (by rw[<-h1,ht]) AA.out
  ·rw[AG hb]at ht
   refine AM ?_;refine An ?_;refine Ao w1 300 (by kernel_rfl) ?_;refine AT (Aj wk1 e3) ?_;refine⟨(m,_),⟨by rw[<-h1,ht],by dsimp only;omega⟩,?_,AK⟩;dsimp only;rw[Bh,Fu];omega
namespace TrimW
theorem w1:DR C0 X4:=w4
theorem trim_ok (l:List UInt8)(hl:l.length<=1000000000):AI C0 293 [str (sb l),str (sb SU)] (str (sb ((GL l).dropWhile Be))):=by
 refine Ag.walk w1 bp rfl λF=>?_
 have cm:=ik;have c1:=gi l hl;have hlr:(GL l).length<=1000000000:=by
  unfold GL;rw[List.length_reverse];exact BQ (List.dropWhile_sublist _).length_le (by rw[List.length_reverse];exact hl)
 have c2:=iQ (GL l) hlr;have hps:AV HG:=AJ;have eS:=Ev l [];have e2:(((sb SU).size:Int)==1)=false:=rfl;have e4:BJ (sb SU) (sb [])=false:=by rw[Ev];exact Ac (by simp)
 have hfit:Bp true 256 HG:=by
  have h:((List.range 256).map λi=>Aq (Nat.ble 48 i&&Nat.ble i 57)).length=256:=by rw[Ak,List.length_range]
  have:=Bp.agg (ds:=(List.range 256).map λi=>Aq (Nat.ble 48 i&&Nat.ble i 57))
  rw[h]at this;exact this
 refine sR 0 ?_
 by_cases h0:l=[]
 ·subst h0
  have eS':BJ (sb []) (sb [])=true:=by rw[Ev];exact AX rfl
  refine AC.seq ?_;refine sZ 100 ?_;refine AT eS' ?_;refine AD (Aj eS' kT) ?_;refine AM ?_;refine sR 200 ?_;refine Ah ?_;exact AL rfl AA.out
 ·rw[Ac h0]at eS
  refine AC.seq ?_;refine sZ 100 ?_;refine AT eS ?_;refine AD (As eS e4 kF) ?_;refine AD (As eS e4 kF) ?_;refine AM ?_;refine An ?_;refine AC.seq ?_;refine sZ 300 ?_;refine AT e2 ?_;refine AD e2 ?_;refine AD e2 ?_;refine AM ?_;refine An ?_;refine AC.seq ?_;refine sR 500 ?_;refine BD.same _ cm AJ ?_;refine Au ?_;generalize HG=sd at*
  repeat(refine D6 rfl rfl ?_;refine ID (λ_ _=>rfl) ?_)
  refine N0 (And.intro (by repeat'(first|exact hfit|refine And.intro ?_ ?_|exact B8)) ?_);refine Au ?_;refine sR 600 ?_;refine AM ?_;refine sR 700 ?_;refine BD.own _ (MA c1 rfl ?_ AJ (Jl.prim _)) ?_
  ·intro i x y hx hy
   match i with
   | 0=>simp at hx hy;subst hx;subst hy;exact DP.refl _ _
   | 1=>simp at hx hy;subst hx;subst hy;exact DP.ptr rfl rfl rfl rfl
   |i+2=>simp at hx
  rintro d H' n' ⟨rfl,rfl,rfl⟩;refine BN ?_;refine BD.own _ (MA c2 rfl ?_ AJ (Jl.prim _)) ?_
  ·intro i x y hx hy
   match i with
   | 0=>simp at hx hy;subst hx;subst hy;exact DP.refl _ _
   | 1=>simp at hx hy;subst hx;subst hy;exact DP.ptr rfl rfl rfl rfl
   |i+2=>simp at hx
  rintro d H' n' ⟨rfl,rfl,rfl⟩;refine BN ?_;refine Ah ?_;exact AL rfl AA.out
end TrimW
def Gr (a:Nat)(l:List UInt8):Nat:=l.foldl (λa c=>a*10+(c.toNat-48)) a
def dv (l:List UInt8):Nat:=Gr 0 l
theorem Zw (l:List UInt8):∀a,Gr a l=a*10^l.length+dv l:=by
 induction l with
 |nil=>intro a;simp[Gr,dv]
 |cons c l ih=>
  intro a;have h1:∀b,Gr b (c::l)=Gr (b*10+(c.toNat-48)) l:=λb=>rfl
  have h2:dv (c::l)=Gr (0*10+(c.toNat-48)) l:=rfl;rw[h1,h2,ih,ih (0*10+(c.toNat-48)),Bo,CK];rw[Bv,Gt,BU,Bx,BP 10];omega
theorem N8 (l m:List UInt8):dv (l++m)=dv l*10^m.length+dv m:=by
 have:dv (l++m)=Gr (dv l) m:=by unfold dv Gr;rw[List.foldl_append]
 rw[this,Zw]
theorem iM (l:List UInt8):∀a,l.all Be=true->Lib.decFrom a l=some (Gr a l):=by
 induction l with
 |nil=>intro a _;rfl
 |cons c l ih=>
  intro a h;rw[FZ,BO]at h;have hd:Lib.digitVal c=some (c.toNat-48):=by
   have h1:=h.1;unfold Be at h1;rw[BO]at h1;unfold Lib.digitVal;rw[AG ⟨Bg h1.1,Bg h1.2⟩]
  rw[Lib.decFrom,hd];exact ih _ h.2
theorem LH {c:UInt8}(h:Be c=true):48<=c.toNat/\c.toNat<=57:=by
 unfold Be at h;rw[BO]at h;exact⟨Bg h.1,Bg h.2⟩
theorem lC {l:List UInt8}(h0:l≠[])(h:l.all Be=true):Lib.atoi l=some (dv l:Int):=by
 cases l with
 |nil=>exact Ae rfl h0
 |cons c l=>
  have hc:Be c=true:=by rw[FZ,BO]at h;exact h.1
  obtain⟨c1,c2⟩:=LH hc;have e1:(c==45)=false:=by
   rw[Bs];intro hh;subst hh;simp at c1
  have e2:(c==43)=false:=by
   rw[Bs];intro hh;subst hh;simp at c1
  unfold Lib.atoi;dsimp only;rw[e1,e2];simp only[Hx,if_false];unfold Lib.decNat;simp only[List.isEmpty_cons,Hx,if_false];rw[iM _ _ h];rfl
theorem GE (l:List UInt8)(h:l.all Be=true):dv l<10^l.length:=by
 induction l with
 |nil=>decide
 |cons c l ih=>
  rw[FZ,BO]at h;have h1:dv (c::l)=Gr (0*10+(c.toNat-48)) l:=rfl;have h2:=ih h.2;obtain⟨c1,c2⟩:=LH h.1;rw[h1,Zw,Gt,BU,Bo,CK,BP _ 10];have h3:(c.toNat-48)*10^l.length<=9*10^l.length:=CI _ (by omega);omega
def VY (o:Option D)(z:Int):Bool:=match o with
 |some (.agg [.prim (.int .i64 a),.prim (.slice none 0 0)])=>a==z
 |_=>false
theorem kq {o:Option D}{z:Int}(h:VY o z=true):o=some (Cx z):=by
 unfold VY at h;split at h
 ·rw[EB]at h;subst h;rfl
 ·cases h
theorem pQ:((List.range 19).all λk=>VY ((Ga X1 1000 60).1 198 [Cx 10,i64 (k:Nat)]) ((10^k:Nat):Int))=true:=by kernel_rfl
theorem vD (k:Nat)(h:k<19):AI C0 198 [Cx 10,i64 k] (Cx ((10^k:Nat):Int)):=by
 refine CE DV 1000 60 ?_;exact kq (CN.1 pQ k (List.mem_range.2 h))
theorem VD {n:Nat}(h:n<9223372036854775808):Cx (n:Int)=(AW (n:Int)).D:=by
 rw[JY ⟨by omega,by omega⟩];rfl
theorem yR (a b:Nat)(ha:(Ad a).length<1000000)(hb:(Ad b).length<1000000):AI C0 153 [(AW (a:Int)).D,(AW (b:Int)).D] (AW ((a+b:Nat):Int)).D:=by
 have:=Oj (AW (a:Int)) (AW (b:Int)) (Cf _) (Cf _) (H7 ha) (H7 hb)
 have e:EA (AW (a:Int)) (AW (b:Int))=AW ((a+b:Nat):Int):=by
  have h1:=Mm (AW (a:Int)) (AW (b:Int));rw[Dl,Dl]at h1;rw[Ol (MZ _ _) (by rw[h1];omega),h1]
  congr 1
 rw[e]at this;exact this
theorem MO {n k:Nat}(h:n<10^k):(Ad n).length<=k:=Gw (CU h (NZ (by decide) k))
def rv (l:List UInt8):Int:=if DL l then -(dv (Bn l):Int)else dv (Bn l)
theorem pU (k:Nat)(h:k<19):AI C0 198 [Cx 10,i64 k] (AW ((10^k:Nat):Int)).D:=by
 have:=vD k h
 have h2:10^k<9223372036854775808:=DY (FM (by decide) (show k<=18 by omega)) (by decide)
 rwa [VD h2]at this
theorem uv (n:Nat)(h:n<9223372036854775808):AI C0 122 [i64 n] (AW (n:Int)).D:=by
 have:=On (n:Int)
 rwa [VD h]at this
theorem Qq (l:List UInt8)(hd:(Bn l).all Be=true)(hl:l.length<=100000):AI C0 150 [str (sb l)] (AW (rv l)).D:=by
 refine Ag.walk w1 Z6 rfl λF=>?_
 have c1:=gm l (by omega);have c2:=Sc l (by omega);have hml:(Bn l).length<=100000:=by
  unfold Bn;split
  ·rw[Dq];omega
  ·exact hl
 unfold rv;generalize hm0:Bn l=m0 at*;generalize DL l=ng at*;generalize sb l=sl at*;have ez:Cx 0=(AW ((0:Nat):Int)).D:=VD (by decide);have hpm:∀n:Nat,AA (AW (n:Int)).w:=λn=>AJ
 refine sR 0 ?_;refine sR 100 ?_;refine cI c1 ?_;refine sR 200 ?_;refine cI c2 ?_;refine sR 300 ?_;refine Cw (α:=Nat) (λn=>⟨[(2,.optr 0 0 2 0 0),(3,Aq ng),(4,.optr 301 8 2 0 0)],[⟨301,8,120,2,[(AW (dv m0:Int)).D]⟩,⟨0,0,120,2,[Cx 0]⟩],n⟩) (λ_=>True) ?_ ?_
 ·refine AC.block ?_
  refine GT (α:=List UInt8×Nat×Nat) (λp=>⟨[(0,str (sb p.1)),(2,.optr 0 0 2 0 0),(3,Aq ng),(4,.optr 301 8 2 0 0)],[⟨301,8,120,2,[(AW (p.2.1:Int)).D]⟩,⟨0,0,120,2,[Cx 0]⟩],p.2.2⟩) (λp=>p.1.length)
   (λp F'=>F'=F/\p.1.all Be=true/\p.1.length<=m0.length/\p.2.1<10^(m0.length-p.1.length)/\dv m0=p.2.1*10^p.1.length+dv p.1) (m0,0,20) ⟨rfl,hd,Af _,by simp,by simp⟩ (by rw[<-ez];exact AK) ?_
  rintro⟨m,A,n⟩ F' ⟨rfl,h1,h2,h3,h4⟩;dsimp only at h1 h2 h3 h4⊢;refine AC.seq ?_;refine AC.seq ?_
  by_cases hm:m=[]
  ·subst hm
   have e1:decide (((sb []).size:Int)>0)=false:=rfl;have hA:dv m0=A:=by simpa[dv,Gr]using h4
   rw[hA];refine Ao w1 400 (by kernel_rfl) ?_;refine AT e1 ?_;refine AM ?_;refine B6 ?_;exact⟨rfl,_,trivial,AK⟩
  ·have hm1:0<m.length:=List.length_pos_iff.2 hm
   have hsz:=Ce m;obtain⟨k,hk⟩:∃k,k=min 18 m.length:=⟨_,rfl⟩
   have e1:decide (((sb m).size:Int)>0)=true:=AX (by rw[hsz];omega);have ek:min (18:Int) ((sb m).size:Int)=(k:Int):=by rw[hsz];omega
   have b1:(k:Int)<=((sb m).size:Int):=by rw[hsz];omega
   have e22:(sb m).extract 0 ((k:Int)).toNat=sb (m.take k):=by rw[Et];rfl
   have e36:(sb m).extract ((k:Int)).toNat (sb m).size=sb (m.drop k):=by
    rw[Et,hsz,CA (Af _)];rfl
   have htk:(m.take k).all Be=true:=CN.2 λc hc=>CN.1 h1 c (El hc)
   have hdk:(m.drop k).all Be=true:=CN.2 λc hc=>CN.1 h1 c (Jv hc)
   have hlk:(m.take k).length=k:=by rw[Ba];omega
   have hv:=GE _ htk;rw[hlk]at hv;have h18:10^k<=10^18:=FM (by decide) (by omega);have ca:=nO (sb (m.take k)) (dv (m.take k):Int) (by rw[Ce,hlk];omega) (lC (by intro h;change m.take k=[]at h;rw[h]at hlk;simp at hlk;omega) htk);have hval:dv m=dv (m.take k)*10^(m.drop k).length+dv (m.drop k):=by
    conv=>lhs;rw[<-E2 k m]
    exact N8 _ _
   generalize dv (m.take k)=v at*;have hAl:(Ad A).length<=100000:=BQ (MO h3) (by omega);have h10:(Ad (10^k)).length<=19:=MO (k:=19) (Nat.pow_lt_pow_right (by decide) (by omega));have hmul:=LE A (10^k);have cp:=pU k (by omega);have c3:=VT A (10^k) (by omega) (by omega);have cv:=uv v (by omega);have hvl:(Ad v).length<=19:=MO (k:=19) (CU hv (FM (by decide) (by omega)));have c4:=yR (A*10^k) v (by omega) (by omega);refine Ao w1 400 (by kernel_rfl) ?_;refine AT e1 ?_;refine AM ?_;refine An ?_;refine AC.block ?_;refine sZ 500 ?_;refine AT ek ?_;refine sZ 600 ?_;refine AT e22 ?_;refine cI ca ?_;refine AC.seq ?_;refine B5 w1 700 [0,1,2,3,4,5] [6,7,8] (by kernel_rfl) ?_;refine BN ?_;refine BX.same _ (On 10) AJ ?_;refine BN ?_;refine BX.same _ (cp) AJ ?_;refine BN ?_;refine BX.same _ (c3) AJ ?_;refine BN ?_;refine cI cv ?_;refine cI c4 ?_;refine Ao w1 800 (by kernel_rfl) ?_;refine AT e36 ?_;refine⟨(m.drop k,A*10^k+v,_),⟨trivial,hdk,?_,?_,?_⟩,?_,AK⟩
   ·dsimp only;rw[Dq];omega
   ·dsimp only
    rw[Dq,show m0.length-(m.length-k)=(m0.length-m.length)+k by omega,Fw];have h5:(A+1)*10^k<=10^(m0.length-m.length)*10^k:=CI _ h3;rw[Bv]at h5;omega
   ·dsimp only
    rw[h4,hval,Dq];have h6:10^m.length=10^k*10^(m.length-k):=by rw[<-Fw];congr 1;omega
    rw[h6,Bv,Bx];omega
   ·dsimp only;rw[Dq];omega
 rintro n -;have hAl:(Ad (dv m0)).length<=100000:=BQ (MO (GE _ hd)) hml;have cn:=Om (AW (dv m0:Int)) (Cf _) (H7 (by omega));rw[Dl]at cn;have hpn:AA (AW (-(dv m0:Int))).w:=AJ;refine AC.seq ?_;refine sR 900 ?_;cases ng with
 |true=>
  rw[AG rfl];refine AM ?_;refine sR 1000 ?_;refine cI cn ?_;refine Ah ?_;exact AL rfl AA.out
 |false=>
  rw[AF (by simp)];refine AM ?_;refine An ?_;refine sR 1100 ?_;refine Ah ?_;exact AL rfl AA.out
def Kl (l:List UInt8):Bool:=!decide (l=[])&&l.all Be
def C6 (l:List UInt8):Bool:=Kl l&&(decide (l=[48]) || !decide (l.head? = some 48))
def Bz (l:List UInt8):List UInt8:=l.take (BI l)
def BY (l:List UInt8):List UInt8:=l.drop (BI l+1)
def Cr (l:List UInt8):Bool:=decide (BI l<l.length)
def B0 (l:List UInt8):List UInt8:=Bn (Bz l)
def JU (l:List UInt8):Bool:=!C6 (B0 l)||decide (Bz l=[45,48])||(Cr l&&(!C6 (BY l)||decide (BY l=[48])||decide (BY l=[49])))
def CV (l:List UInt8):Nat:=if JU l then 1 else if 600<(B0 l).length\/600<(BY l).length then 4
 else if Cr l=true/\Nat.gcd (dv (B0 l)) (dv (BY l))≠1 then 1 else 0
theorem KK {l:List UInt8}(h:C6 l=true):l≠[]/\l.all Be=true:=by
 unfold C6 Kl at h;rw[BO,BO]at h;exact⟨by have:=h.1.1;simpa using this,h.1.2⟩
theorem So {l:List UInt8}(h:l.all Be=true):DL l=false:=by
 cases l with
 |nil=>rfl
 |cons c l=>
  rw[FZ,BO]at h;obtain⟨c1,c2⟩:=LH h.1;show(c==45)=false;rw[Bs];intro hh;subst hh;simp at c1
theorem KC {l:List UInt8}(h:l.all Be=true):Bn l=l:=by unfold Bn;rw[So h];rfl
theorem M0 {l:List UInt8}(h:l.all Be=true):rv l=(dv l:Int):=by
 unfold rv;rw[So h,KC h];rfl
theorem jd (l:List UInt8)(hl:l.length<=1000000000):AI C0 272 [str (sb l)] (Aq (Kl l)):=by
 refine Ag.walk w1 bl rfl λF=>?_
 have ct:=TrimW.trim_ok l hl;have eS:=Ev l [];have eT:=Ev ((GL l).dropWhile Be) [];have hall:decide ((GL l).dropWhile Be=[])=l.all Be:=by
  rw[Fc,decide_eq_true_iff];exact m8 l
 rw[hall]at eT;unfold Kl;rw[<-eS];generalize hb:BJ (sb l) (sb [])=b at*;refine sR 0 ?_;refine AC.seq ?_;cases b with
 |true=>
  have e1:(!BJ (sb l) (sb []))=false:=by rw[hb];rfl
  refine Ao w1 100 (by kernel_rfl) ?_;refine AT e1 ?_;refine AD e1 ?_;refine Ah ?_;exact AL rfl AA.out
 |false=>
  have e1:(!BJ (sb l) (sb []))=true:=by rw[hb];rfl
  refine Ao w1 100 (by kernel_rfl) ?_;refine AT e1 ?_;refine AD e1 ?_;refine Ni e1 ?_;refine BD.same _ ct AJ ?_;refine AD (Aj e1 eT) ?_;refine Ah ?_;exact AL rfl AA.out
theorem YC (l:List UInt8)(hl:l.length<=1000000000):AI C0 238 [str (sb l)] (Aq (C6 l)):=by
 refine Ag.walk w1 ba rfl λF=>?_
 have cd:=jd l hl;have e0:=Ev l [48];unfold C6;refine sR 0 ?_;refine sR 100 ?_;refine cI cd ?_;rcases hd:Kl l with _|_
 ·refine AD (Aj kT Hx) ?_
  refine AD (Aj kT Hx) ?_;refine Ah ?_;exact AL rfl AA.out
 ·obtain⟨c,m,rfl⟩:∃c m,l=c::m:=by
   cases l with
   |nil=>cases hd
   |cons c m=>exact⟨c,m,rfl⟩
  have hsz:=Ce (c::m);rw[Bo]at hsz;have hx:(((sb (c::m)).data.toList.getD ((0:Int)).toNat 0).toNat:Int)=(c.toNat:Int):=rfl;have b0:(0:Int)<((sb (c::m)).size:Int):=by rw[hsz];omega
  by_cases h0:(c::m)=[48]
  ·rw[AX h0]at e0⊢
   refine AD e0 ?_;refine AD (Aj e0 kT) ?_;refine AD (Aj e0 kT) ?_;refine Ah ?_;exact AL rfl AA.out
  ·rw[Ac h0]at e0⊢
   have e1:((c.toNat:Int) != 48) = !decide (c=48):=by
    rw[Fc];simp only[bne_iff_ne,ne_eq,Bi,Ib];constructor
    ·intro h hc;subst hc;exact h rfl
    ·intro h hc
     apply h
     have:c.toNat=48:=by omega
     exact UInt8.toNat_inj.1 this
   refine AD e0 ?_;refine AD (BW e0 kF hx e1) ?_;refine AD (BW e0 kF hx e1) ?_;refine Ah ?_;exact AL (by simp) AA.out
theorem oe (n:Nat):AI C0 239 [(AW (n:Int)).D] (.tup [i64 (AW (n:Int)).s,Aq (decide (Sm (n:Int)))]):=by
 refine Ag.walk w1 bc rfl λF=>?_
 by_cases hs:Sm (n:Int)
 ·obtain⟨a1,a2⟩:=R5 hs
  dsimp only[GI.D];rw[a1,a2,AX hs];refine sR 0 ?_;refine AC.seq ?_;refine B5 w1 100 [0,1,2,3,4,5] [6] (by kernel_rfl) ?_;refine BN ?_;refine Ah ?_;exact AL rfl AA.out
 ·obtain⟨a1,a2,a3⟩:=VS hs
  dsimp only[GI.D];rw[a1,a2,Ac hs];generalize(Ad n).map AR=l at*;refine sR 0 ?_;refine AC.seq ?_;refine B5 w1 100 [0,1,2,3,4,5] [6] (by kernel_rfl) ?_;refine AT (As (@ne_eq (List D)) a3 ER) ?_;refine Ah ?_;exact AL rfl AA.out
def GG (l:List UInt8):GF:=⟨AW (rv (Bz l)),if Cr l then dv (BY l)else 1⟩
theorem oZ (l:List UInt8)(hl:l.length<=100000)(h1:(B0 l).all Be=true)(h2:Cr l=true->(BY l).all Be=true):AI C0 111 [str (sb l)] (GG l).D:=by
 refine Ag.walk w1 aa rfl λF=>?_
 have cc:=Zu l (by omega);have r1:=Qq (Bz l) h1 (by unfold Bz;rw[Ba];omega);have hpw:AA (AW (rv (Bz l))).w:=AJ;unfold GG;change AI C0 _ _ (.tup [str (sb (Bz l)),str (sb (BY l)),Aq (Cr l)])at cc;rcases hs:Cr l with _|_
 ·rw[hs]at cc
  have wg:=Zk (AW (rv (Bz l)));have hp1:AA (AW ((1:Nat):Int)).w:=AJ;rw[AF (by simp)];dsimp only[GI.D,GF.D]at*;refine sR 0 ?_;refine sR 100 ?_;refine cI cc ?_;refine AC.seq ?_;refine sR 200 ?_;refine AM ?_;refine sR 300 ?_;refine cI r1 ?_;refine cI wg ?_;refine Ah ?_;exact AL rfl AA.out
 ·rw[hs]at cc
  have hd:=h2 hs;have r2:=Qq (BY l) (by rw[KC hd];exact hd) (by unfold BY;rw[Dq];omega);rw[M0 hd]at r2;have hp1:AA (AW (dv (BY l):Int)).w:=AJ;rw[AG rfl];dsimp only[GI.D,GF.D]at*;refine sR 0 ?_;refine sR 100 ?_;refine cI cc ?_;refine AC.seq ?_;refine sR 200 ?_;refine AM ?_;refine An ?_;refine sR 400 ?_;refine cI r1 ?_;refine cI r2 ?_;refine Ah ?_;exact AL rfl AA.out
set_option maxHeartbeats 4000000
theorem uX (g:Nat):((g:Int) != 1)=decide (g≠1):=by
 rw[Fc,bne_iff_ne,decide_eq_true_iff];omega
theorem lH (l:List UInt8)(hl:l.length<=100000):AI C0 182 [str (sb l)] (i64 (CV l)):=by
 refine Ag.walk w1 aI rfl λF=>?_
 have cc:=Zu l (by omega);change AI C0 _ _ (.tup [str (sb (Bz l)),str (sb (BY l)),Aq (Cr l)])at cc;have hnl:(Bz l).length<=100000:=by unfold Bz;rw[Ba];omega
 have hdl:(BY l).length<=100000:=by unfold BY;rw[Dq];omega
 have hsl:(B0 l).length<=100000:=by
  unfold B0 Bn;split
  ·rw[Dq];omega
  ·exact hnl
 have ct:=Sc (Bz l) (by omega);change AI C0 _ _ (str (sb (B0 l)))at ct;have p1:=YC (B0 l) (by omega);have p2:=YC (BY l) (by omega);have en:=Ev (Bz l) [45,48];have e0:=Ev (BY l) [48];have e1:=Ev (BY l) [49];have z1:=Ce (B0 l);have z2:=Ce (BY l);have hbf:∃b,b=JU l:=⟨_,rfl⟩
 obtain⟨bf,hbf⟩:=hbf;unfold CV;rw[<-hbf];unfold JU at hbf;refine sR 0 ?_;refine sR 100 ?_;refine cI cc ?_;refine sR 200 ?_;refine cI ct ?_;refine AC.seq ?_;refine Cw (α:=Nat) (λn=>⟨[(4,str (sb (BY l))),(5,Aq (Cr l)),(6,str (sb (B0 l))),(39,Aq bf)],[],n⟩) (λ_=>True) ?_ ?_
 ·refine rI 300 ?_
  refine cI p1 ?_;rcases hp:C6 (B0 l)with _|_
  ·rw[hp]at hbf
   have hb:bf=true:=by rw[hbf];rfl
   subst hb;simp only[SK];refine AD kT ?_;refine AD kT ?_;exact⟨trivial,_,trivial,AK⟩
  ·rw[hp]at hbf
   simp only[PT]
   by_cases hn:Bz l=[45,48]
   ·rw[AX hn]at en hbf
    have hb:bf=true:=by rw[hbf];rfl
    subst hb;refine AD (Aj kF en) ?_;refine AD (As kF kT en) ?_;exact⟨trivial,_,trivial,AK⟩
   ·rw[Ac hn]at en hbf
    rcases hs:Cr l with _|_
    ·rw[hs]at hbf
     have hb:bf=false:=by rw[hbf];rfl
     subst hb;refine AD (Aj kF en) ?_;refine AD (BW kF kT en hs) ?_;refine AD (BW kF kT en hs) ?_;exact⟨trivial,_,trivial,AK⟩
    ·rw[hs]at hbf
     refine AD (Aj kF en) ?_;refine AD (As kF en hs) ?_;refine Ni hs ?_;refine BD.same _ p2 AJ ?_;refine Au ?_;rcases hq:C6 (BY l)with _|_
     ·rw[hq]at hbf
      have hb:bf=true:=by rw[hbf];rfl
      subst hb;refine AD (As kF kT hq) ?_;refine AD (As kF kT hq) ?_;refine AD (As kF kT hq) ?_;exact⟨trivial,_,trivial,AK⟩
     ·rw[hq]at hbf
      refine AD hq ?_;simp only[PT];refine AD kF ?_
      by_cases h0:BY l=[48]
      ·rw[AX h0]at e0 hbf
       have hb:bf=true:=by rw[hbf];rfl
       subst hb;simp only[e0,imp_self];refine AD kT ?_;refine IA rfl rfl rfl (by simp only[SK]) (by simp) (ID (λ_ _=>rfl) ?_);refine AD kF ?_;exact⟨trivial,_,trivial,AK⟩
      ·rw[Ac h0]at e0 hbf
       simp only[e0];refine AD kF ?_
       by_cases h1:BY l=[49]
       ·rw[AX h1]at e1 hbf
        have hb:bf=true:=by rw[hbf];rfl
        subst hb;simp only[e1];exact⟨trivial,_,trivial,AK⟩
       ·rw[Ac h1]at e1 hbf
        have hb:bf=false:=by rw[hbf];rfl
        subst hb;simp only[e1];exact⟨trivial,_,trivial,AK⟩
 rintro n -;cases bf with
 |true=>
  rw[AG rfl];refine AM ?_;refine sR 400 ?_;refine Ah ?_;exact AL rfl AA.out
 |false=>
  rw[AF (by simp)];have hbf:=hbf.symm;simp only[JD,Bu,Bool.and_eq_false_iff]at hbf;obtain⟨⟨hp,hn⟩,hd⟩:=hbf;refine AM ?_;refine An ?_;have hsd:=(KK hp).2;refine AC.seq ?_;refine Cw (α:=Nat) (λn=>⟨[(4,str (sb (BY l))),(5,Aq (Cr l)),(6,str (sb (B0 l))),(47,Aq (decide (600<(B0 l).length\/600<(BY l).length)))],[],n⟩) (λ_=>True) ?_ ?_
  ·by_cases hA:600<(B0 l).length
   ·have ea:decide (((sb (B0 l)).size:Int)>600)=true:=AX (by rw[z1];omega)
    have eb:decide (600<(B0 l).length\/600<(BY l).length)=true:=AX (Or.inl hA);rw[eb];refine Ao w1 500 (by kernel_rfl) ?_;refine AT ea ?_;refine AD kT ?_;exact⟨trivial,_,trivial,AK⟩
   ·have ea:decide (((sb (B0 l)).size:Int)>600)=false:=Ac (by rw[z1];omega)
    have eb:decide (((sb (BY l)).size:Int)>600)=decide (600<(B0 l).length\/600<(BY l).length):=by
     rw[C4,z2];omega
    refine Ao w1 500 (by kernel_rfl) ?_;refine AT ea ?_;refine AD kF ?_;simp only[eb];exact⟨trivial,_,trivial,AK⟩
  rintro n -
  by_cases hL:600<(B0 l).length\/600<(BY l).length
  ·rw[AX hL,AG hL]
   refine AM ?_;refine sR 600 ?_;refine Ah ?_;exact AL rfl AA.out
  ·rw[Ac hL,AF hL]
   refine AM ?_;refine An ?_;refine AC.seq ?_;refine sR 700 ?_;rcases hs:Cr l with _|_
   ·rw[AF (by simp)]
    refine AM ?_;refine An ?_;refine sR 1100 ?_;refine Ah ?_;exact AL rfl AA.out
   ·rw[hs]at hd
    have hd':=hd.resolve_left (by simp);have hdd:=(KK hd'.1.1).2;have r1:=Qq (B0 l) (by rw[KC hsd];exact hsd) hsl;have r2:=Qq (BY l) (by rw[KC hdd];exact hdd) hdl;rw[M0 hsd]at r1;rw[M0 hdd]at r2;have l1:(Ad (dv (B0 l))).length<=100000:=BQ (MO (GE _ hsd)) hsl;have l2:(Ad (dv (BY l))).length<=100000:=BQ (MO (GE _ hdd)) hdl;have cg:=dS (AW (dv (B0 l):Int)) (AW (dv (BY l):Int)) (Cf _) (Cf _) (H7 (by omega)) (H7 (by omega));rw[Dl,Dl,EQ,EQ]at cg;have cs:=oe (Nat.gcd (dv (B0 l)) (dv (BY l)));obtain⟨g,hg0⟩:∃g,g=Nat.gcd (dv (B0 l)) (dv (BY l)):=⟨_,rfl⟩
    rw[<-hg0]at cg cs;simp only[<-hg0];have hpa:AA (AW (dv (B0 l):Int)).w:=AJ;have hpb:AA (AW (dv (BY l):Int)).w:=AJ;have hpg:AA (AW (g:Int)).w:=AJ;dsimp only[GI.D]at r1 r2 cg cs;refine AM ?_;refine sR 800 ?_;refine cI r1 ?_;refine cI r2 ?_;refine cI cg ?_;refine cI cs ?_;refine Cw (α:=Nat) (λn=>⟨[(63,Aq (decide (g≠1)))],[],n⟩) (λ_=>True) ?_ ?_
    ·by_cases hg:Sm (g:Int)
     ·obtain⟨a1,a2⟩:=R5 hg
      have eg:=uX g;rw[a1,AX hg];refine rI 900 ?_;simp only[PT];refine AD kF ?_;simp only[eg];exact⟨trivial,_,trivial,AK⟩
     ·have eg:decide (g≠1)=true:=AX λh=>hg (by rw[h];exact⟨by decide,by decide⟩)
      rw[eg,Ac hg];refine rI 900 ?_;simp only[SK];refine AD kT ?_;exact⟨trivial,_,trivial,AK⟩
    rintro n -
    by_cases hg:g=1
    ·rw[Ac (λh=>h hg),AF (λh=>h.2 hg)]
     refine AM ?_;refine An ?_;refine sR 1100 ?_;refine Ah ?_;exact AL rfl AA.out
    ·rw[AX hg,AG ⟨trivial,hg⟩]
     refine AM ?_;refine sR 1000 ?_;refine Ah ?_;exact AL rfl AA.out
abbrev RB:Nat:=1000000000
def AY (n:Nat):List Nat:=if _h:n=0 then[]else(n%RB)::AY (n/RB)
termination_by n
decreasing_by exact Hw (D3 _h) (by decide)
def AO:List Nat->Nat
 | []=>0
 |a::l=>a+RB*AO l
def Rd (l:List Nat):Prop:=∀a∈l,a<RB
theorem Gf:AY 0=[]:=by unfold AY;rfl
theorem Im {n:Nat}(h:n≠0):AY n=(n%RB)::AY (n/RB):=by rw[AY,dif_neg h]
theorem Ea (n:Nat):Rd (AY n):=by
 induction n using Nat.strongRecOn with
 |ind n ih=>
  by_cases h:n=0
  ·subst h;rw[Gf];intro a ha;cases ha
  ·rw[Im h]
   intro a ha;rcases A8.1 ha with rfl|ha
   ·exact B1 _ (by decide)
   ·exact ih _ (Hw (D3 h) (by decide)) a ha
theorem D5 (n:Nat):AO (AY n)=n:=by
 induction n using Nat.strongRecOn with
 |ind n ih=>
  by_cases h:n=0
  ·subst h;rw[Gf];rfl
  ·rw[Im h,AO,ih _ (Hw (D3 h) (by decide))]
   exact Eo n RB
theorem JM (l m:List Nat):AO (l++m)=AO l+RB^l.length*AO m:=by
 induction l with
 |nil=>simp[AO]
 |cons a l ih=>
  simp only[Ek,AO,ih,Bo,CK,BL];rw[BP (RB^l.length) RB,Bx,EX]
theorem Rd.tail {a:Nat}{l:List Nat}(h:Rd (a::l)):Rd l:=λb hb=>h b (CD _ hb)
theorem Rd.head {a:Nat}{l:List Nat}(h:Rd (a::l)):a<RB:=h a B9
theorem Rd.append {l m:List Nat}(h:Rd l)(k:Rd m):Rd (l++m):=λa ha=>(List.mem_append.1 ha).elim (h a) (k a)
theorem Rd.take {l:List Nat}(h:Rd l)(n:Nat):Rd (l.take n):=λa ha=>h a (El ha)
theorem F9:∀ {l:List Nat},Rd l->AO l<RB^l.length
 | [],_=>by simp[AO]
 |a::l,h=>by
  have h1:=F9 h.tail;have h2:=h.head;rw[AO,Bo,CK]
  calc a+RB*AO l<RB+RB*AO l:=by omega
   _=RB*(AO l+1):=by rw[BL,EC,Kz]
   _<=RB*RB^l.length:=CY _ h1
   _=_:=BP _ _
theorem WI:∀ {l:List Nat},Rd l->(∀a∈l.getLast?,a≠0)->AY (AO l)=l
 | [],_,_=>Gf
 | [a],h,hl=>by
  have ha:a≠0:=hl a (by simp);have hb:=h.head;rw[show AO [a]=a from by simp[AO],Im ha,Dd hb,HL hb,Gf]
 |a::b::l,h,hl=>by
  have ih:=WI h.tail (λx hx=>hl x (by simpa using hx));have hb:=h.head;have hv:AO (b::l)≠0:=by
   intro h0;rw[h0,Gf]at ih;cases ih
  have e1:AO (a::b::l)%RB=a:=by rw[AO,SL,Dd hb]
  have e2:AO (a::b::l)/RB=AO (b::l):=by
   rw[AO,SG _ _ (by decide),HL hb,BU]
  have hne:AO (a::b::l)≠0:=by
   intro h0;rw[h0]at e2;exact hv (by rw[<-e2];rfl)
  rw[Im hne,e1,e2,ih]
theorem V8:∀(k:Nat),AO (List.replicate k 0)=0
 | 0=>rfl
 |k+1=>by rw[List.replicate_succ,AO,V8 k,EY]
theorem Ij (b:Nat):∀a,b<=a->(AY b).length<=(AY a).length:=by
 induction b using Nat.strongRecOn with
 |ind b ih=>
  intro a h
  by_cases hb:b=0
  ·subst hb;rw[Gf];exact BS _
  ·rw[Im hb,Im (n:=a) (by omega),Bo,Bo]
   exact Nat.succ_le_succ (ih _ (Hw (D3 hb) (by decide)) _ (Nat.div_le_div_right h))
theorem Vx {a b:Nat}(h:(AY a).length<(AY b).length):a<b:=by
 rcases BG a b with h1|h1
 ·exact h1
 ·have:=Ij b a h1;omega
theorem Nv {l:List Nat}{k a:Nat}(h:l[k]?=some a):AO l=AO (l.take k)+RB^k*(a+RB*AO (l.drop (k+1))):=by
 have hk:k<l.length:=(List.getElem?_eq_some_iff.1 h).1
 conv=>lhs;rw[<-E2 k l]
 rw[JM,Ba,E8 (by omega)]
 have:l.drop k=a::l.drop (k+1):=by
  rw[EK hk]
  congr 1
  exact(List.getElem?_eq_some_iff.1 h).2
 rw[this,AO]
theorem V7 {l m:List Nat}{k a b:Nat}(hl:Rd l)(ha:l[k]?=some a)(hb:m[k]?=some b)(hd:l.drop (k+1)=m.drop (k+1))(hab:a<b):AO l<AO m:=by
 have hk:k<l.length:=(List.getElem?_eq_some_iff.1 ha).1;rw[Nv ha,Nv hb,hd];have h1:=F9 (hl.take k);rw[Ba,E8 (by omega)]at h1;generalize AO (m.drop (k+1))=r;have h2:RB^k*(a+RB*r)+RB^k<=RB^k*(b+RB*r):=by
  rw[<-Nat.mul_succ];exact CY _ (by omega)
 omega
theorem Gx {l:List Nat}{i a:Nat}(hi:l.length=i):AO (l++[a])=AO l+RB^i*a:=by rw[JM,hi];simp[AO]
theorem Rd.set {l:List Nat}(h:Rd l){i a:Nat}(ha:a<RB):Rd (l.set i a):=λb hb=>by
 rcases NQ hb with h1|rfl
 ·exact h b h1
 ·exact ha
theorem Su (n:Nat):Rd (List.replicate n 0):=λa ha=>by rw[PP ha];decide
theorem Nr:∀ {l:List Nat} {k o d:Nat},l[k]?=some o->AO (l.set k d)+RB^k*o=AO l+RB^k*d
 |a::l,0,o,d,h=>by
  simp only[SA,BK]at h;subst h;simp only[List.set_cons_zero,AO,MD,JH];omega
 |a::l,k+1,o,d,h=>by
  simp only[Jy]at h;have ih:=Nr (d:=d) h;simp only[List.set_cons_succ,AO];have h1:RB^(k+1)*o=RB*(RB^k*o):=by rw[CK,BP (RB^k) RB,Bx]
  have h2:RB^(k+1)*d=RB*(RB^k*d):=by rw[CK,BP (RB^k) RB,Bx]
  have h3:RB*AO (l.set k d)+RB*(RB^k*o)=RB*AO l+RB*(RB^k*d):=by rw[<-BL,<-BL,ih]
  omega
theorem LB {n k:Nat}(h:n<RB^k):(AY n).length<=k:=by
 induction k generalizing n with
 |zero=>
  have:n=0:=by simpa using h
  subst this;rw[Gf];exact Af _
 |succ k ih=>
  by_cases h0:n=0
  ·subst h0;rw[Gf];exact BS _
  ·rw[Im h0,Bo]
   exact Nat.succ_le_succ (ih (E3 (by rw[BP,<-CK];exact h)))
theorem Ik (n:Nat):n<RB^(AY n).length:=by
 have:=F9 (Ea n)
 rwa [D5]at this
theorem WG (a b:Nat):(AY (a+b)).length<=max (AY a).length (AY b).length+1:=by
 refine LB ?_;have h1:=Ik a;have h2:=Ik b;have m1:RB^(AY a).length<=RB^max (AY a).length (AY b).length:=FM (by decide) (Nat.le_max_left _ _);have m2:RB^(AY b).length<=RB^max (AY a).length (AY b).length:=FM (by decide) (Nat.le_max_right _ _);rw[CK];generalize RB^max (AY a).length (AY b).length=q at*;unfold RB;omega
theorem WH (a b:Nat):(AY (a-b)).length<=(AY a).length:=Ij _ _ (Nat.sub_le _ _)
theorem Sf (a b:Nat):(AY (a*b)).length<=(AY a).length+(AY b).length:=by
 refine LB ?_;rw[Fw];exact Nat.mul_lt_mul'' (Ik a) (Ik b)
theorem Pq {n:Nat}(h0:n≠0)(h:n<RB):AY n=[n]:=by
 rw[Im h0,Dd h,HL h,Gf]
theorem Ul {l:List Nat}{k a:Nat}(hl:l.length=k+1)(ha:l[k]?=some a):AO l=AO (l.take k)+RB^k*a:=by
 rw[Nv ha,HO (by omega)];simp[AO]
theorem vI {l:List Nat}{k a b:Nat}(hl:l.length=k+2)(ha:l[k]?=some a)(hb:l[k+1]?=some b):AO l=AO (l.take k)+RB^k*(a+RB*b):=by
 rw[Nv ha]
 have:l.drop (k+1)=[b]:=by
  rw[EK (by omega),HO (by omega)]
  congr 1
  exact(List.getElem?_eq_some_iff.1 hb).2
 rw[this];simp[AO]
theorem vJ {l:List Nat}{k a b c:Nat}(hl:l.length=k+3)(ha:l[k]?=some a)(hb:l[k+1]?=some b)(hc:l[k+2]?=some c):AO l=AO (l.take k)+RB^k*(a+RB*(b+RB*c)):=by
 rw[Nv ha];have h1:=Ul (l:=l.drop (k+1)) (k:=1) (a:=c) (by rw[Dq];omega) (by rw[HQ,EX];exact hc);have h2:(l.drop (k+1)).take 1=[b]:=by
  rw[EK (by omega)];simp only[List.take_succ_cons,MC]
  congr 1
  exact(List.getElem?_eq_some_iff.1 hb).2
 rw[h1,h2];simp[AO]
structure Kc (P v:List Nat)(m p0 p1 p2 v2 v1:Nat):Prop where
 lP:P.length=m+3
 lv:v.length=m+2
 wP:Rd P
 wv:Rd v
 h0:P[m]?=some p0
 h1:P[m+1]?=some p1
 h2:P[m+2]?=some p2
 g2:v[m]?=some v2
 g1:v[m+1]?=some v1
 top:0<v1
 less:AO P<AO v*RB
namespace Kc
variable {P v:List Nat} {m p0 p1 p2 v2 v1:Nat} (S:Kc P v m p0 p1 p2 v2 v1)
include S
theorem valP:AO P=AO (P.take m)+RB^m*(p0+RB*(p1+RB*p2)):=vJ S.lP S.h0 S.h1 S.h2
theorem valv:AO v=AO (v.take m)+RB^m*(v2+RB*v1):=vI S.lv S.g2 S.g1
theorem lowP:AO (P.take m)<RB^m:=by
 have:=F9 (S.wP.take m)
 rwa [Ba,E8 (by have:=S.lP;omega)]at this
theorem lowv:AO (v.take m)<RB^m:=by
 have:=F9 (S.wv.take m)
 rwa [Ba,E8 (by have:=S.lv;omega)]at this
theorem p0l:p0<RB:=S.wP _ (Av S.h0)
theorem p1l:p1<RB:=S.wP _ (Av S.h1)
theorem p2l:p2<RB:=S.wP _ (Av S.h2)
theorem v1l:v1<RB:=S.wv _ (Av S.g1)
theorem v2l:v2<RB:=S.wv _ (Av S.g2)
theorem below3:AO P<(p0+RB*(p1+RB*p2)+1)*RB^m:=by
 rw[S.valP,Bv,JH,BP (RB^m)]
 have:=S.lowP
 omega
theorem below2:AO P<(p1+RB*p2+1)*RB^(m+1):=by
 have h:=S.below3;have h1:=S.p0l;generalize p1+RB*p2=t at*;have h2:(p0+RB*t+1)*RB^m<=(RB*(t+1))*RB^m:=CI _ (by rw[BL RB t 1];omega);have h3:(t+1)*RB^(m+1)=(RB*(t+1))*RB^m:=by rw[CK,BP (RB^m) RB,<-Bx,BP (t+1) RB]
 omega
theorem abovev:v1*RB^(m+1)<=AO v:=by
 rw[S.valv,CK,BL]
 have:v1*(RB^m*RB)=RB^m*(RB*v1):=by rw[BP v1,Bx]
 omega
theorem abovev2:(v2+RB*v1)*RB^m<=AO v:=by
 rw[S.valv,BP];omega
theorem pos:0<AO v:=CU (HS S.top (Nat.pow_pos (by decide))) S.abovev
theorem p2v1:p2<=v1:=by
 rcases BG v1 p2 with h|h
 ·exfalso
  have e1:RB^(m+2)*p2<=AO P:=by
   rw[S.valP,BL,BL,BL]
   have:RB^(m+2)*p2=RB^m*(RB*(RB*p2)):=by rw[CK,CK,Bx,Bx]
   omega
  have e2:AO v<RB^(m+1)*(v1+1):=by
   have h1:=S.lowv;have h2:=S.v2l;have e3:RB^(m+1)*(v1+1)=RB^m*(RB*v1+RB):=by rw[CK,Bx,BL,EC]
   have e4:RB^m*(v2+RB*v1+1)<=RB^m*(RB*v1+RB):=CY _ (by omega);rw[BL _ _ 1,EC]at e4;rw[S.valv,e3];omega
  have e5:RB^(m+1)*(v1+1)*RB=RB^(m+2)*(v1+1):=by rw[Nat.mul_right_comm,<-CK]
  have e6:RB^(m+2)*(v1+1)<=RB^(m+2)*p2:=CY _ h;have e7:(AO v)*RB<=RB^(m+1)*(v1+1)*RB:=CI _ (J3 e2)
  have:=S.less
  omega
 ·exact h
end Kc
theorem gQ {A P v:List Nat}{q i z x d b c b' c' lo:Nat}(hz:A[i]?=some z)(hx:v[i]?=some x)(hI:AO A+q*AO (v.take i)=AO P+RB^i*(c+b))
  (h1:lo+RB*c'=q*x+c) (h2:d+lo+b=z+RB*b'):AO (A.set i d)+q*AO (v.take (i+1))=AO P+RB^(i+1)*(c'+b'):=by
 have hs:=Nr (d:=d) hz;have hi:i<v.length:=(List.getElem?_eq_some_iff.1 hx).1;rw[FB hx,Gx (i:=i) (by rw[Ba];omega),BL,IY q,CK,Bx];have e:RB^i*(d+q*x+(c+b))=RB^i*(z+RB*(c'+b')):=by congr 1;rw[BL RB];omega
 rw[BL,BL,BL (RB^i) z]at e;omega
theorem gP {A P v:List Nat}{i z x c:Nat}(hz:A[i]?=some z)(hx:v[i]?=some x)(hI:AO A+RB^i*c=AO P+AO (v.take i)):
  AO (A.set i ((z+x+c)%RB))+RB^(i+1)*((z+x+c)/RB)=AO P+AO (v.take (i+1)):=by
 have hs:=Nr (d:=(z+x+c)%RB) hz;have hi:i<v.length:=(List.getElem?_eq_some_iff.1 hx).1;rw[FB hx,Gx (i:=i) (by rw[Ba];omega),CK,Bx];have e:RB^i*((z+x+c)%RB+RB*((z+x+c)/RB))=RB^i*(z+x+c):=by rw[Eo]
 rw[BL,BL,BL (RB^i) z]at e;omega
theorem iN {n k:Nat}(h1:RB^k<=n)(h2:n<RB^(k+1)):(AY n).length=k+1:=by
 have h3:=LB h2;have h4:=DY h1 (Ik n);have h5:=(Nat.pow_lt_pow_iff_right (show 1<RB by decide)).1 h4;omega
theorem Pr:∀(n:Nat) {k a:Nat},(AY n).length=k+1->(AY n)[k]?=some a->a≠0:=λn=>by
 induction n using Nat.strongRecOn with
 |ind n ih=>
  intro k a h1 h2
  by_cases h0:n=0
  ·subst h0;rw[Gf]at h1;cases h1
  ·rw[Im h0]at h1 h2
   rw[Bo]at h1;have h3:=Nat.succ.inj h1;cases k with
   |zero=>
    have h4:AY (n/RB)=[]:=E5 h3;have h5:n/RB=0:=by rw[<-D5 (n/RB),h4];rfl
    have h6:=Eo n RB;rw[h5]at h6;simp at h2;intro h7;subst h7;rw[h2]at h6;omega
   |succ k=>
    rw[Jy]at h2;exact ih _ (Hw (D3 h0) (by decide)) h3 h2
theorem Ss {n k:Nat}(h:(AY n).length=k+1):RB^k<=n:=by
 obtain⟨a,ha⟩:=CR (l:=AY n) (i:=k) (by omega);have h1:=Pr n h ha;have h2:=Ul h ha;rw[D5]at h2;have h3:=CY (RB^k) (show 1<=a by omega);omega
theorem P0 {l:List Nat}{j a:Nat}(h:l[j]?=some a):AO (l.drop j)=a+RB*AO (l.drop (j+1)):=by
 have hj:j<l.length:=(List.getElem?_eq_some_iff.1 h).1;rw[EK hj,(List.getElem?_eq_some_iff.1 h).2];rfl
theorem gc {a q:List Nat}{j x b rest:Nat}(hb:0<b)(hx:a[j]?=some x)(hj:j<q.length)(hI:AO (q.drop (j+1))*b+rest=AO (a.drop (j+1))):
  AO ((q.set j ((rest*RB+x)/b)).drop j)*b+(rest*RB+x)%b=AO (a.drop j)/\(rest*RB+x)%b<b:=by
 refine⟨?_,B1 _ hb⟩;rw[QW hj,P0 hx,<-hI,AO];have e:=EW (rest*RB+x) b;rw[Bv,BL RB,Bx RB,BP RB rest,BP _ b];omega
structure L2 (X:Nat)(v U q:List Nat)(lu lq k:Nat):Prop where
 lU:U.length=lu
 lQ:q.length=lq
 wU:Rd U
 wq:Rd q
 val:RB^k*AO (q.drop k)*AO v+AO U=X
 less:AO (U.drop k)<AO v
theorem jI {X:Nat}{v U q:List Nat}{lu lq j m:Nat}(I:L2 X v U q lu lq (j+1))(hv:v.length=m+2)(wv:Rd v)(v1 v2:Nat)(h2:v[m]?=some v2)(h1:v[m+1]?=some v1)(ht:0<v1)(hj:j+(m+3)<=lu):
  ∃p0 p1 p2,Kc ((U.drop j).take (m+3)) v m p0 p1 p2 v2 v1/\AO (U.drop (j+(m+3)))=0/\AO ((U.drop j).take (m+3))=AO (U.drop j):=by
 obtain⟨lU,lQ,wU,wq,val,less⟩:=I;obtain⟨x,hx⟩:=CR (l:=U) (i:=j) (by omega);have hxl:=wU x (Av hx);have e1:=P0 hx;have hlt:AO (U.drop j)<AO v*RB:=by
  have:RB*(AO (U.drop (j+1))+1)<=RB*AO v:=CY _ less
  rw[BL,BP RB (AO v)]at this;omega
 have hPl:((U.drop j).take (m+3)).length=m+3:=by rw[Ba,Dq];omega
 have e2:AO (U.drop j)=AO ((U.drop j).take (m+3))+RB^(m+3)*AO (U.drop (j+(m+3))):=by
  conv=>lhs;rw[<-E2 (m+3) (U.drop j)]
  rw[JM,hPl,List.drop_drop]
 have hvl:=F9 wv;rw[hv]at hvl;have hz:AO (U.drop (j+(m+3)))=0:=by
  rcases Dk (AO (U.drop (j+(m+3))))with h|h
  ·exact h
  ·exfalso
   have e3:RB^(m+3)*1<=RB^(m+3)*AO (U.drop (j+(m+3))):=CY _ h;have e4:AO v*RB<=RB^(m+2)*RB:=CI _ (J3 hvl);have e5:RB^(m+2)*RB=RB^(m+3):=(CK RB (m+2)).symm;rw[e5]at e4;omega
 rw[hz,EY,DX]at e2;obtain⟨p0,h0⟩:=CR (l:=(U.drop j).take (m+3)) (i:=m) (by omega);obtain⟨p1,h3⟩:=CR (l:=(U.drop j).take (m+3)) (i:=m+1) (by omega);obtain⟨p2,h4⟩:=CR (l:=(U.drop j).take (m+3)) (i:=m+2) (by omega);exact⟨p0,p1,p2,⟨hPl,hv,λa ha=>wU a (Jv (El ha)),wv,h0,h3,h4,h2,h1,ht,by rw[<-e2];exact hlt⟩,hz,e2.symm⟩
theorem io {X:Nat}{v U q P':List Nat}{lu lq j m:Nat}(I:L2 X v U q lu lq (j+1))(hv:0<AO v)(hj:j+(m+3)<=lu)(hjq:j<lq)(hz:AO (U.drop (j+(m+3)))=0)(hP:AO ((U.drop j).take (m+3))=AO (U.drop j))
  (h1:P'.length=m+3) (h2:Rd P') (h3:AO P'=AO ((U.drop j).take (m+3))%AO v) (hd:AO ((U.drop j).take (m+3))/AO v<RB):
  L2 X v (U.take j++(P'++U.drop (j+(m+3)))) (q.set j (AO ((U.drop j).take (m+3))/AO v)) lu lq j:=by
 obtain⟨lU,lQ,wU,wq,val,less⟩:=I;have hA:(U.take j).length=j:=by rw[Ba];omega
 have e0:AO U=AO (U.take j)+RB^j*AO (U.drop j):=by
  conv=>lhs;rw[<-E2 j U]
  rw[JM,hA]
 have e1:AO (P'++U.drop (j+(m+3)))=AO P':=by rw[JM,hz,EY,DX]
 refine⟨?_,by rw[DE];exact lQ,?_,wq.set hd,?_,?_⟩
 ·rw[Bh,Bh,hA,h1,Dq];omega
 ·exact Rd.append (wU.take j) (Rd.append h2 λa ha=>wU a (Jv ha))
 ·rw[QW (by omega),AO,JM,hA,e1,h3,hP]
  rw[e0]at val;have e2:=EW (AO (U.drop j)) (AO v);have e3:RB^(j+1)*AO (q.drop (j+1))*AO v=RB^j*(RB*AO (q.drop (j+1))*AO v):=by
   rw[CK,Bx,Bx,Bx]
  rw[e3]at val;have e4:RB^j*AO (U.drop j)=RB^j*(AO v*(AO (U.drop j)/AO v))+RB^j*(AO (U.drop j)%AO v):=by
   rw[<-BL,e2]
  rw[Bx,Bv,BL,BP (AO (U.drop j)/AO v)];omega
 ·rw[List.drop_left' hA,e1,h3]
  exact B1 _ hv
set_option maxHeartbeats 2000000
abbrev Aa (n:Nat):D:=i64 (n:Int)
def rL (l:List Nat):D:=.sl false 1 (l.map Aa)
def rD (n:Nat):D:=rL (AY n)
theorem OL (l:List Nat):B4 (rL l):=.sl λe he d hd=>by
 obtain⟨a,_,rfl⟩:=List.mem_map.1 he;simp only[D.cells,A8,DW,or_false]at hd;subst hd;exact .prim _
instance  (l:List Nat):AA (rL l):=⟨OL l⟩
instance  (n:Nat):AA (rD n):=⟨OL _⟩
theorem Dp {l:List Nat}{i a:Nat}(h:l[i]?=some a):(l.map Aa)[i]?=some (Aa a):=by rw[A7,h];rfl
theorem My {l:List Nat}{i a:Nat}:(l.map Aa).set i (Aa a)=(l.set i a).map Aa:=List.map_set.symm
theorem vZ (c:Nat):((c:Int)==0)=decide (c=0):=by rw[Fc,EB,decide_eq_true_iff];omega
theorem T6 (m:List Nat):AO (m++[0])=AO m:=by rw[Gx rfl];simp
theorem Zb {m:List Nat}{c:Nat}(h:Rd (m++[c]))(hc:c≠0):AY (AO (m++[c]))=m++[c]:=WI h λa ha=>by
 rw[List.getLast?_append]at ha;simp at ha;rw[<-ha];exact hc
theorem Lj (l:List Nat)(h:Rd l)(hlen:l.length<4000000000):AI C0 214 [rL l] (rD (AO l)):=by
 refine Ag.walk w1 bY rfl λF=>?_
 unfold rL;refine sR 0 ?_;refine AC.seq ?_;refine AC.block ?_;refine AC.loop (α:=List Nat×Nat) (λp=>⟨[(0,.sl false 1 (p.1.map Aa))],[],p.2⟩) (λp=>p.1.length)
  (λp=>AO p.1=AO l/\Rd p.1/\p.1.length<=l.length) (l,_) ⟨rfl,h,Af _⟩ AK ?_
 rintro⟨m,n⟩ F ⟨h1,h2,h3⟩;dsimp only at h1 h2 h3⊢;refine AC.seq ?_;refine AC.seq ?_;rcases SC m with rfl|⟨m,c,rfl⟩
 ·have e1:decide (((0:Nat):Int)>0)=false:=rfl
  refine Ao w1 100 (by kernel_rfl) ?_;refine AT e1 ?_;refine AD e1 ?_;refine AM ?_;refine B6 ?_;refine sR 300 ?_;refine Ah ?_;refine AL (d0:=rL []) ?_ AA.out;rw[<-h1];unfold rD;rw[show AO []=0 from rfl,Gf]
 ·rw[SB]at h1 h2 h3⊢
  have el:((((m++[c]).map Aa).length:Nat):Int)=((m.length+1:Nat):Int):=by rw[Ak,Bh];rfl
  rw[Bh,Fu]at h3;have e1:decide (((m.length+1:Nat):Int)>0)=true:=AX (by omega);have wk:IntKind.i64.wrap (((m.length+1:Nat):Int)-1)=(m.length:Int):=by rw[wI (by omega) (by omega)];omega
  have wraw:IntKind.i64.wrap (((((m++[c]).map Aa).length:Nat):Int)-1)=(m.length:Int):=by rw[el,wk]
  have hx:((m++[c]).map Aa)[m.length]?=some (Aa c):=Dp (by simp);have ec:=vZ c;refine Ao w1 100 (by kernel_rfl) ?_;refine AT (Aj el e1) ?_;refine AD (CF e1 wraw el wk kN) ?_;refine Bq e1 hx ?_;refine AD (CF e1 wraw el wk ec) ?_
  by_cases hc:c=0
  ·rw[AX hc]
   subst hc;have e4:List.take (m.length-0) (List.drop 0 ((m++[0]).map Aa))=m.map Aa:=by simp
   have e5:List.take m.length ((m++[0]).map Aa)=m.map Aa:=by simp
   rw[T6]at h1;refine AM ?_;refine An ?_;refine AC.block ?_;refine Ao w1 200 (by kernel_rfl) ?_;refine AT (CF el wk wraw kN e4) ?_;exact⟨(m,_),⟨h1,λa ha=>h2 a (HP _ ha),by dsimp only;omega⟩,by dsimp only;rw[Bh,Fu];omega,AK⟩
  ·rw[Ac hc]
   refine AM ?_;refine B6 ?_;refine sR 300 ?_;refine Ah ?_;refine AL (d0:=rL (m++[c])) ?_ AA.out;unfold rD;rw[<-h1,Zb h2 hc]
theorem T3 (l:List Nat)(i:Nat)(hlen:l.length<4000000000)(hi:i<4000000000):AI C0 254 [rL l,Aa i] (Aa (l.getD i 0)):=by
 refine Ag.walk w1 sH rfl λF=>?_
 unfold rL;have el:(((l.map Aa).length:Nat):Int)=(l.length:Int):=by rw[Ak]
 refine sR 0 ?_;refine AC.seq ?_;refine AC.seq ?_
 by_cases h:i<l.length
 ·have e1:decide ((i:Int)<(l.length:Int))=true:=AX (by omega)
  obtain⟨a,ha⟩:=CR h;have hx:=Dp ha;have eg:l.getD i 0=a:=by rw[Dj,ha];rfl
  rw[eg];refine Ao w1 100 (by kernel_rfl) ?_;refine AT (Aj el e1) ?_;refine AM ?_;refine sZ 200 ?_;refine AD kN ?_;refine Bq kT hx ?_;refine AD kN ?_;refine Ah ?_;exact AL rfl AA.out
 ·have e1:decide ((i:Int)<(l.length:Int))=false:=Ac (by omega)
  have eg:l.getD i 0=0:=by rw[Dj,De (by omega)];rfl
  rw[eg];refine Ao w1 100 (by kernel_rfl) ?_;refine AT (Aj el e1) ?_;refine AM ?_;refine An ?_;refine sR 300 ?_;refine Ah ?_;exact AL rfl AA.out
theorem Re (a b:Nat)(ha:(AY a).length<4000000000)(hb:(AY b).length<4000000000):AI C0 212 [rD a,rD b] (i64 (Dx a b)):=by
 refine Ag.walk w1 sk rfl λF=>?_
 have hwa:=Ea a;have hwb:=Ea b;have va:=D5 a;have vb:=D5 b;have hlt:=@Vx a b;have hgt:=@Vx b a;unfold rD rL Dx;generalize AY a=la at*;generalize AY b=lb at*;have ea:(((la.map Aa).length:Nat):Int)=(la.length:Int):=by rw[Ak]
 have eb:(((lb.map Aa).length:Nat):Int)=(lb.length:Int):=by rw[Ak]
 refine sR 0 ?_;refine AC.seq ?_;refine sZ 100 ?_;refine AT (Aj ea eb) ?_;refine AM ?_
 (refine Bw (λh10=>?_) (λh10=>?_))<;>(try simp only[Bi,Bu]at h10)<;>(try simp only[h10])
 ·have hne:la.length≠lb.length:=by
   have:(la.length:Int)≠lb.length:=by simpa using h10
   omega
  refine AC.seq ?_;refine sZ 200 ?_;refine AT (Aj ea eb) ?_;refine AM ?_
  (refine Bw (λh15=>?_) (λh15=>?_))<;>(try simp only[Bi,Bu]at h15)<;>(try simp only[h15])
  ·have h1:la.length<lb.length:=by
    have:(la.length:Int)<lb.length:=by simpa using h15
    omega
   rw[AG (by have:=hlt h1;omega)];refine sR 300 ?_;refine Ah ?_;exact AL rfl AA.out
  ·have h1:lb.length<la.length:=by
    have:¬(la.length:Int)<lb.length:=by simpa using h15
    omega
   have h2:=hgt h1;rw[AF (by omega),AG (by omega)];refine An ?_;refine sR 400 ?_;refine Ah ?_;exact AL rfl AA.out
 ·have hl:la.length=lb.length:=by
   have:(la.length:Int)=lb.length:=by simpa using h10
   omega
  clear hlt hgt;refine An ?_;refine AC.seq ?_;refine sZ 500 ?_;refine AT ea ?_;refine AC.block ?_;have w0:IntKind.i64.wrap ((la.length:Int)-1)=(la.length:Int)-1:=wI (by omega) (by omega);rw[w0];refine AC.loop (α:=Nat×Nat) (λp=>⟨[(0,.sl false 1 (la.map Aa)),(1,.sl false 1 (lb.map Aa)),(5,i64 ((p.1:Int)-1))],[],p.2⟩) (λp=>p.1)
   (λp=>p.1<=la.length/\la.drop p.1=lb.drop p.1) (la.length,_) ⟨Af _,by rw[IZ,hl,IZ]⟩ AK ?_
  rintro⟨k,m⟩ F ⟨h1,h2⟩;dsimp only at h1 h2⊢;refine AC.seq ?_;refine sR 600 ?_;refine AM ?_
  (refine Bw (λh20=>?_) (λh20=>?_))<;>(try simp only[Bi,Bu]at h20)<;>(try simp only[h20])
  ·obtain⟨j,rfl⟩:∃j,k=j+1:=⟨k-1,by
    have:(k:Int)-1>=0:=by simpa using h20
    omega⟩
   have wj:((j+1:Nat):Int)-1=(j:Int):=by omega
   obtain⟨x,hx⟩:∃x,la[j]?=some x:=⟨la[j],BE (by omega)⟩
   obtain⟨y,hy⟩:∃y,lb[j]?=some y:=⟨lb[j],BE (by omega)⟩
   have hx':=Dp hx;have hy':=Dp hy;rw[wj];refine An ?_;refine AC.seq ?_;refine AC.block ?_;refine AC.seq ?_;refine AC.seq ?_;refine B5 w1 800 [0,1,2,3,4,5,6,7] [8] (by kernel_rfl) ?_;refine AD kN ?_;refine Bq kT hx' ?_;refine AD kN ?_;refine Bq kT hy' ?_;refine AD kN ?_;refine AD kN ?_;refine AM ?_
   (refine Bw (λh31=>?_) (λh31=>?_))<;>(try simp only[Bi,Bu]at h31)<;>(try simp only[h31])
   ·have hxy:x<y:=by
     have:=Cz h31
     omega
    have:=V7 hwa hx hy h2 hxy
    rw[AG (by omega)];refine sR 900 ?_;refine Ah ?_;exact AL rfl AA.out
   ·have hxy0:¬x<y:=by
     have:=DN h31
     omega
    refine An ?_;refine AC.seq ?_;refine B5 w1 1000 [0,1,2,3,4,5,6,7] [8] (by kernel_rfl) ?_;refine AD kN ?_;refine Bq kT hx' ?_;refine AD kN ?_;refine Bq kT hy' ?_;refine AD kN ?_;refine AD kN ?_;refine AM ?_
    (refine Bw (λh40=>?_) (λh40=>?_))<;>(try simp only[Bi,Bu]at h40)<;>(try simp only[h40])
    ·have hxy:y<x:=by
      have:=Cz h40
      omega
     have:=V7 hwb hy hx h2.symm hxy
     rw[AF (by omega),AG (by omega)];refine sR 1100 ?_;refine Ah ?_;exact AL rfl AA.out
    ·have hxy:x=y:=by
      have:=DN h40
      omega
     subst hxy;have w5:IntKind.i64.wrap ((j:Int)-1)=(j:Int)-1:=wI (by omega) (by omega);refine An ?_;refine Ao w1 700 (by kernel_rfl) ?_;refine AT w5 ?_;have hj:=(List.getElem?_eq_some_iff.1 hx)
     have hj':=(List.getElem?_eq_some_iff.1 hy)
     refine⟨(j,_),⟨by dsimp only;omega,?_⟩,by dsimp only;omega,AK⟩;dsimp only;rw[EK hj.1,EK hj'.1,hj.2,hj'.2,h2]
  ·have hk:k=0:=by
    have:¬((k:Int)-1>=0):=by simpa using h20
    omega
   subst hk;have hab:a=b:=by
    rw[<-va,<-vb]
    have:la=lb:=by simpa using h2
    rw[this]
   subst hab;rw[AF (by omega),AF (by omega)];refine B6 ?_;refine sR 1200 ?_;refine Ah ?_;exact AL rfl AA.out
theorem Sg (l:List Nat)(i:Nat):AO (l.take (i+1))=AO (l.take i)+RB^i*l.getD i 0:=by
 by_cases h:i<l.length
 ·obtain⟨a,ha⟩:=CR h
  rw[FB ha,Gx (i:=i) (by rw[Ba];omega),Dj,ha];rfl
 ·rw[CA (by omega),CA (by omega),Dj,De (by omega)]
  simp
theorem S3 {l:List Nat}(h:Rd l)(i:Nat):l.getD i 0<RB:=by
 by_cases hi:i<l.length
 ·obtain⟨a,ha⟩:=CR hi
  rw[Dj,ha];exact h a (Av ha)
 ·rw[Dj,De (by omega)];decide
theorem XF (l:List Nat)(i:Nat):AO (l.take i)<=AO l:=by
 conv=>rhs;rw[<-E2 i l]
 rw[JM];exact Nat.le_add_right _ _
theorem W1 {a i:Nat}(h:i<(AY a).length):RB^i<=a:=by
 obtain⟨k,hk⟩:∃k,(AY a).length=k+1:=⟨(AY a).length-1,by omega⟩
 exact BQ (FM (by decide) (by omega)) (Ss hk)
structure OW (a b:Nat)(i c:Nat)(out:List Nat):Prop where
 len:out.length=i
 wd:Rd out
 c1:c<=1
 val:AO out+RB^i*c=AO ((AY a).take i)+AO ((AY b).take i)
 can:i=0\/RB^(i-1)<=a+b
theorem kz {a b i c:Nat}{out:List Nat}(I:OW a b i c out)(h:i<(AY a).length\/i<(AY b).length\/0<c):
  OW a b (i+1) (((AY a).getD i 0+(AY b).getD i 0+c)/RB) (out++[((AY a).getD i 0+(AY b).getD i 0+c)%RB])/\(AY a).getD i 0+(AY b).getD i 0+c<2*RB:=by
 obtain⟨len,wd,c1,val,can⟩:=I;have h1:=S3 (Ea a) i;have h2:=S3 (Ea b) i;have hs:(AY a).getD i 0+(AY b).getD i 0+c<2*RB:=by omega
 have e1:=Sg (AY a) i;have e2:=Sg (AY b) i;have ta:=XF (AY a) i;have tb:=XF (AY b) i;rw[D5]at ta tb;refine⟨⟨by rw[Bh,len];rfl,Rd.append wd λx hx=>?_,?_,?_,.inr ?_⟩,hs⟩
 ·simp only[A8,DW,or_false]at hx
  subst hx;exact B1 _ (by decide)
 ·exact Na (E3 (by rw[BP];exact hs))
 ·rw[Gx len,e1,e2,CK,Bx]
  have e:=Eo ((AY a).getD i 0+(AY b).getD i 0+c) RB;generalize(AY a).getD i 0=p at*;generalize(AY b).getD i 0=q at*;have e3:RB^i*((p+q+c)%RB+RB*((p+q+c)/RB))=RB^i*(p+q+c):=by rw[e]
  rw[BL,BL,BL (RB^i) p]at e3;omega
 ·rw[IW]
  rcases h with h|h|h
  ·have:=W1 h;omega
  ·have:=W1 h;omega
  ·have hc:c=1:=by omega
   subst hc;rw[EC]at val;omega
theorem ky {a b i:Nat}{out:List Nat}(I:OW a b i 0 out)(h1:¬i<(AY a).length)(h2:¬i<(AY b).length):out=AY (a+b):=by
 obtain⟨len,wd,c1,val,can⟩:=I;rw[CA (by omega),CA (by omega),D5,D5,EY,DX]at val;rcases SC out with rfl|⟨m,c,rfl⟩
 ·rw[<-val];unfold AY;rfl
 ·rw[SB]at*
  rw[Bh,Fu]at len;have hc:c≠0:=by
   intro hc;subst hc;rcases can with h|h
   ·omega
   ·rw[T6]at val
    have:=F9 (l:=m) λx hx=>wd x (HP _ hx)
    rw[show i-1=m.length by omega]at h;omega
  rw[<-val,Zb wd hc]
theorem vP (a b:Nat)(ha:(AY a).length<1000000)(hb:(AY b).length<1000000):AI C0 221 [rD a,rD b] (rD (a+b)):=by
 refine Ag.walk w1 ri rfl λF=>?_
 have hT:Fz [] [] (rD a) (rD a):=.refl _;change AC C0 F none F _ ⟨DK 0 [.sl false 1 ((AY a).map Aa),.sl false 1 ((AY b).map Aa)],[],0⟩ _;have ea:((((AY a).map Aa).length:Nat):Int)=((AY a).length:Int):=by rw[Ak]
 have eb:((((AY b).map Aa).length:Nat):Int)=((AY b).length:Int):=by rw[Ak]
 have I0:OW a b 0 0 []:=⟨rfl,(λx hx=>Ae hx DW),BS _,by simp[AO],.inl rfl⟩
 refine sR 0 ?_;refine sR 100 ?_;refine sR 200 ?_;refine AC.seq ?_;refine sR 300 ?_;refine AC.block ?_;refine AC.loop (α:=Nat×Nat×List Nat×List D×Nat×Nat) (λp=>⟨[(0,.sl false 1 ((AY a).map Aa)),(1,.sl false 1 ((AY b).map Aa)),(5,Dw 704 p.2.2.2.2.1 1 p.2.2.2.1),(6,Aa p.2.1),(7,Aa p.1)],Dm 704 p.2.2.2.2.1 3 1 p.2.2.2.1,p.2.2.2.2.2⟩)
  (λp=>(max (AY a).length (AY b).length-p.1)*2+p.2.1) (λp=>OW a b p.1 p.2.1 p.2.2.1/\p.2.2.2.1=p.2.2.1.map Aa/\p.1<=max (AY a).length (AY b).length+1) (0,0,[],[],0,_) ⟨I0,rfl,BS _⟩ AK ?_
 rintro⟨i,c,out,L,g,n⟩ F ⟨I,hL,hi⟩;dsimp only at I hL hi⊢;have c1:=I.c1;have hol:=I.len;refine AC.seq ?_;refine Cw (α:=Nat) (λn=>⟨[(0,.sl false 1 ((AY a).map Aa)),(1,.sl false 1 ((AY b).map Aa)),(5,Dw 704 g 1 L),(6,Aa c),(7,Aa i),(22,Aq (decide (i<(AY a).length\/i<(AY b).length\/0<c)))],Dm 704 g 3 1 L,n⟩) (λ_=>True) ?_ ?_
 ·generalize Dw 704 g 1 L=od at*
  generalize Dm 704 g 3 1 L=oh at*
  by_cases h1:i<(AY a).length
  ·have e1:decide ((i:Int)<((AY a).length:Int))=true:=AX (by omega)
   have e:decide (i<(AY a).length\/i<(AY b).length\/0<c)=true:=AX (.inl h1);rw[e];refine Ao w1 400 (by kernel_rfl) ?_;refine AT (Aj ea e1) ?_;refine AD kT ?_;refine AD kT ?_;exact⟨trivial,_,trivial,AK⟩
  ·have e1:decide ((i:Int)<((AY a).length:Int))=false:=Ac (by omega)
   by_cases h2:i<(AY b).length
   ·have e2:decide ((i:Int)<((AY b).length:Int))=true:=AX (by omega)
    have e:decide (i<(AY a).length\/i<(AY b).length\/0<c)=true:=AX (.inr (.inl h2));rw[e];refine Ao w1 400 (by kernel_rfl) ?_;refine AT (Aj ea e1) ?_;refine AD kF ?_;simp only[eb,e2];refine AD kT ?_;exact⟨trivial,_,trivial,AK⟩
   ·have e2:decide ((i:Int)<((AY b).length:Int))=false:=Ac (by omega)
    have e:decide ((c:Int)>0)=decide (i<(AY a).length\/i<(AY b).length\/0<c):=by rw[C4];omega
    rw[<-e];refine Ao w1 400 (by kernel_rfl) ?_;refine AT (Aj ea e1) ?_;refine AD kF ?_;simp only[eb,e2];refine AD kF ?_;exact⟨trivial,_,trivial,AK⟩
 rintro n2 -
 by_cases h:i<(AY a).length\/i<(AY b).length\/0<c
 ·obtain⟨J,hs⟩:=kz I h
  have d1:=T3 (AY a) i (by omega) (by omega);have d2:=T3 (AY b) i (by omega) (by omega);unfold rL at d1 d2;have hmu:∀c',c'<=1->(max (AY a).length (AY b).length<=i->c'=0)->(max (AY a).length (AY b).length-(i+1))*2+c'<(max (AY a).length (AY b).length-i)*2+c:=λc' h1 h2=>by
   rcases BG i (max (AY a).length (AY b).length)with h3|h3
   ·omega
   ·have:=h2 h3;omega
  have hmu2:max (AY a).length (AY b).length<=i->((AY a).getD i 0+(AY b).getD i 0+c)/RB=0:=λh3=>by
   rw[Dj,De (by omega),Dj,De (by omega)];show(0+0+c)/1000000000=0;omega
  have hbnd:i<max (AY a).length (AY b).length+1:=by
   rcases h with h|h|h
   ·omega
   ·omega
   ·rcases BG i (max (AY a).length (AY b).length+1)with h3|h3
    ·exact h3
    ·exfalso
     obtain⟨len,wd,_,val,_⟩:=I;have hc:c=1:=by omega
     subst hc;rw[CA (by omega),CA (by omega),D5,D5,EC]at val;have l1:=Ik a;have l2:=Ik b;have m1:RB^(AY a).length<=RB^max (AY a).length (AY b).length:=FM (by decide) (Nat.le_max_left _ _);have m2:RB^(AY b).length<=RB^max (AY a).length (AY b).length:=FM (by decide) (Nat.le_max_right _ _);have m3:RB^(max (AY a).length (AY b).length+1)<=RB^i:=FM (by decide) h3;rw[CK]at m3;generalize RB^max (AY a).length (AY b).length=Q at*;change Q*1000000000<=_ at m3;omega
  have hmu3:=hmu _ J.c1 hmu2;rw[AX h];generalize hp:(AY a).getD i 0=p at*;generalize hq:(AY b).getD i 0=q at*;have k1:IntKind.i64.wrap ((p:Int)+(q:Int))=((p+q:Nat):Int):=by rw[wI (by omega) (by unfold RB at hs;omega)];omega
  have k2:IntKind.i64.wrap (((p+q:Nat):Int)+(c:Int))=((p+q+c:Nat):Int):=by rw[wI (by omega) (by unfold RB at hs;omega)];omega
  have k3:((p+q+c:Nat):Int).tmod 1000000000=(((p+q+c)%RB:Nat):Int):=rfl;have k4:IntKind.i64.wrap (((p+q+c:Nat):Int).tdiv 1000000000)=(((p+q+c)/RB:Nat):Int):=by
   show IntKind.i64.wrap ((((p+q+c)/1000000000:Nat)):Int)=_;exact wN (by unfold RB at hs;omega)
  have wi:IntKind.i64.wrap ((i:Int)+1)=((i+1:Nat):Int):=wI (by omega) (by omega);generalize(p+q+c)%RB=d at*;generalize(p+q+c)/RB=c' at*;have hlo:L.length<=1000001:=by rw[hL,Ak];omega
  have hmo:L++[Aa d]=(out++[d]).map Aa:=by rw[hL,DA];rfl
  clear hmu hmu2 ea eb hL I;refine AM ?_;refine An ?_;refine AC.seq ?_;refine AC.block ?_;refine sR 600 ?_;refine cI d1 ?_;refine cI d2 ?_;simp only[k1,k2];refine AC.seq ?_;rcases L with _|⟨x,L⟩
  all_goals
   (try simp only[Bo]at hlo)
   dsimp only[In,Io,HX,HY];refine Ao w1 700 (by kernel_rfl) ?_;refine AT k3 ?_;refine Ao w1 800 (by kernel_rfl) ?_;refine AT k4 ?_;refine Ao w1 500 (by kernel_rfl) ?_;refine AT wi ?_
  ·exact⟨(i+1,c',out++[d],[]++[Aa d],_,_),⟨J,hmo,hbnd⟩,hmu3,AK⟩
  ·have htk:List.take (L.length+1) (x::L)=x::L:=by simp
   rw[htk];refine⟨(i+1,c',out++[d],x::L++[Aa d],_,_),⟨J,hmo,hbnd⟩,hmu3,by(dsimp only;rw[N5];exact AK)⟩
 ·rw[Ac h]
  have hc:c=0:=by omega
  subst hc;have hout:=ky I (by omega) (by omega);refine AM ?_;refine B6 ?_;refine sR 900 ?_;refine Ah ?_;refine⟨_,RK _ _ _ _ _,?_,?_⟩
  ·rw[hL];exact OL _
  ·rw[hL,hout];rfl
set_option maxHeartbeats 4000000
theorem vo {env:Ar}{t K g T n:Nat}{l:List D}(he:env.get t=Dw K g 1 l:=by exact rfl):Wk ⟨env,Dm K g T 1 l,n⟩ ⟨[(t,.sl false 1 l)],[],n⟩:=by
 refine⟨?_,⟨?_,trivial⟩,Af _⟩
 ·cases l with
  |nil=>exact .nil
  |cons x l=>exact .drop .nil
 ·dsimp only
  rw[he];exact RK _ _ _ _ _
theorem qU {env:Ar}{t K g n N:Nat}{z:List Nat}{T:Nat}(hl:z.length=N)(he:env.get t=.osl K g 1 0 N:=by exact rfl):Wk ⟨env,[⟨K,g,T,1,z.map Aa⟩],n⟩ ⟨[(t,.sl false 1 (z.map Aa))],[],n⟩:=by
 subst hl;refine⟨.drop .nil,⟨?_,trivial⟩,Af _⟩;dsimp only;rw[he]
 have:=RM K g T 1 (z.map Aa)
 rwa [Ak]at this
theorem iO {a v c:Nat}(ha:a<RB)(hv:v<RB)(hc:c<=1):∃d c',d<RB/\c'<=1/\d+v+c=a+RB*c'/\((c'=0/\(a:Int)-v-c=d)\/(c'=1/\(a:Int)-v-c<0/\(a:Int)-v-c+1000000000=d)):=by
 unfold RB at ha hv⊢
 by_cases h:a<v+c
 ·exact⟨a+1000000000-v-c,1,by omega,by omega,by omega,.inr ⟨rfl,by omega,by omega⟩⟩
 ·exact⟨a-v-c,0,by omega,by omega,by omega,.inl ⟨rfl,by omega⟩⟩
theorem eL (a b:Nat)(hab:b<=a)(ha:(AY a).length<1000000):AI C0 222 [rD a,rD b] (rD (a-b)):=by
 refine Ag.walk w1 rj rfl λF=>?_
 change AC C0 F none F _ ⟨DK 0 [.sl false 1 ((AY a).map Aa),.sl false 1 ((AY b).map Aa)],[],0⟩ _;have hlb:=Ij b a hab;have va:=D5 a;have vb:=D5 b;have wx:=Ea a;have wy:=Ea b;generalize AY a=x at*;generalize AY b=y at*;have ea:(((x.map Aa).length:Nat):Int)=(x.length:Int):=by rw[Ak]
 refine sR 0 ?_;refine sR 100 ?_;refine sR 200 ?_;refine AC.seq ?_;refine sR 300 ?_;refine AC.block ?_;refine AC.loop (α:=Nat×Nat×List Nat×List D×Nat×Nat) (λp=>⟨[(0,.sl false 1 (x.map Aa)),(1,.sl false 1 (y.map Aa)),(5,Dw 1103 p.2.2.2.2.1 1 p.2.2.2.1),(6,Aa p.2.1),(7,Aa p.1)],Dm 1103 p.2.2.2.2.1 3 1 p.2.2.2.1,p.2.2.2.2.2⟩)
  (λp=>x.length-p.1) (λp=>p.1<=x.length/\p.2.1<=1/\p.2.2.1.length=p.1/\Rd p.2.2.1/\AO p.2.2.1+AO (y.take p.1)=AO (x.take p.1)+RB^p.1*p.2.1/\p.2.2.2.1=p.2.2.1.map Aa) (0,0,[],[],0,_) ⟨BS _,BS _,rfl,(λx hx=>Ae hx DW),by simp[AO],rfl⟩ AK ?_
 rintro⟨i,c,out,L,g,n⟩ F ⟨hi,hc,hol,how,hI,hL⟩;dsimp only at hi hc hol how hI hL⊢;refine AC.seq ?_;refine AC.seq ?_
 by_cases h:i<x.length
 ·have e1:decide ((i:Int)<(x.length:Int))=true:=AX (by omega)
  obtain⟨p,hp⟩:=CR h;have hx:=Dp hp;have hpl:=wx p (Av hp);have d2:=T3 y i (by omega) (by omega);unfold rL at d2;have hql:=S3 wy i;have ty:=Sg y i;have tx:AO (x.take (i+1))=AO (x.take i)+RB^i*p:=by rw[FB hp,Gx (i:=i) (by rw[Ba];omega)]
  generalize y.getD i 0=q at*;obtain⟨d,c',hd,hc',hdig,hcase⟩:=iO hpl hql hc;have k1:IntKind.i64.wrap ((p:Int)-(q:Int))=(p:Int)-q:=wI (by unfold RB at*;omega) (by unfold RB at*;omega);have k2:IntKind.i64.wrap ((p:Int)-q-(c:Int))=(p:Int)-q-c:=wI (by unfold RB at*;omega) (by unfold RB at*;omega);have wi:IntKind.i64.wrap ((i:Int)+1)=((i+1:Nat):Int):=wI (by omega) (by omega);have hlo:L.length<=1000001:=by rw[hL,Ak];omega
  have hmo:L++[Aa d]=(out++[d]).map Aa:=by rw[hL,DA];rfl
  have hvn:AO (out++[d])+AO (y.take (i+1))=AO (x.take (i+1))+RB^(i+1)*c':=by
   rw[Gx hol,ty,tx,CK,Bx];have e3:RB^i*(d+q+c)=RB^i*(p+RB*c'):=by rw[hdig]
   rw[BL,BL,BL (RB^i) p]at e3;omega
  have how':Rd (out++[d]):=Rd.append how λx hx=>by
   simp only[A8,DW,or_false]at hx;subst hx;exact hd
  have hol':(out++[d]).length=i+1:=by rw[Bh,hol];rfl
  clear hI hL how;refine Ao w1 400 (by kernel_rfl) ?_;refine AT (Aj ea e1) ?_;refine AM ?_;refine An ?_;refine AC.seq ?_;refine AC.block ?_;refine AC.seq ?_;refine B5 w1 600 [0,1,2,3,4,5,6,7,8] [9,10] (by kernel_rfl) ?_;refine AD kN ?_;refine Bq kT hx ?_;refine AD kN ?_;refine BX.same _ d2 AJ ?_;refine AD (Aj k1 k2) ?_;refine sR 700 ?_;refine Cw (α:=Nat) (λn=>⟨[(0,.sl false 1 (x.map Aa)),(1,.sl false 1 (y.map Aa)),(5,Dw 1103 g 1 L),(6,Aa c'),(7,Aa i),(8,Aa d)],Dm 1103 g 3 1 L,n⟩) (λ_=>True) ?_ ?_
  ·generalize Dw 1103 g 1 L=od at*
   generalize Dm 1103 g 3 1 L=oh at*;refine AC.seq ?_;rcases hcase with⟨rfl,h2⟩|⟨rfl,h2,h3⟩
   ·have e2:decide ((p:Int)-q-c<0)=false:=Ac (by omega)
    rw[h2]at e2;rw[h2];refine Ao w1 800 (by kernel_rfl) ?_;refine AT e2 ?_;refine AM ?_;refine An ?_;exact⟨rfl,_,trivial,AK⟩
   ·have e2:decide ((p:Int)-q-c<0)=true:=AX h2
    have k3:IntKind.i64.wrap ((p:Int)-q-c+1000000000)=(d:Int):=by rw[h3];exact wI (by unfold RB at*;omega) (by unfold RB at*;omega)
    refine Ao w1 800 (by kernel_rfl) ?_;refine AT e2 ?_;refine AM ?_;refine sZ 900 ?_;refine AT k3 ?_;refine rI 1000 ?_;exact⟨rfl,_,trivial,AK⟩
  rintro n3 -;rcases L with _|⟨x0,L⟩
  all_goals
   (try simp only[Bo]at hlo)
   dsimp only[In,Io,HX,HY];refine rI 1100 ?_;refine Ao w1 500 (by kernel_rfl) ?_;refine AT wi ?_
  ·exact⟨(i+1,c',out++[d],[]++[Aa d],_,_),⟨h,hc',hol',how',hvn,hmo⟩,by dsimp only;omega,AK⟩
  ·have htk:List.take (L.length+1) (x0::L)=x0::L:=by simp
   rw[htk];refine⟨(i+1,c',out++[d],x0::L++[Aa d],_,_),⟨h,hc',hol',how',hvn,hmo⟩,by dsimp only;omega,by(dsimp only;rw[N5];exact AK)⟩
 ·have e1:decide ((i:Int)<(x.length:Int))=false:=Ac (by omega)
  have hix:i=x.length:=by omega
  subst hix;rw[CA (by omega),CA (by omega),va,vb]at hI;have hlt:=F9 how;rw[hol]at hlt;have hxl:=F9 wx;rw[va]at hxl;have hov:AO out=a-b:=by
   rcases Dk c with h|h
   ·subst h;rw[EY]at hI;omega
   ·have:c=1:=by omega
    subst this;rw[EC]at hI;omega
  refine Ao w1 400 (by kernel_rfl) ?_;refine AT (Aj ea e1) ?_;refine AM ?_;refine B6 ?_;refine AC.weak ⟨[(5,.sl false 1 L)],[],_⟩ vo ?_;rw[hL];refine sR 1200 ?_;refine BD.same _ (Lj out how (by omega)) AJ ?_;refine BN ?_;refine Ah ?_;exact AL (by rw[hov]) AA.out
theorem U5 (a b:Nat)(hla:(AY a).length<1000000)(hlb:(AY b).length<1000000):AI C0 215 [rD a,rD b] (rD (a*b)):=by
 refine Ag.walk w1 so rfl λF=>?_
 change AC C0 F none F _ ⟨DK 0 [.sl false 1 ((AY a).map Aa),.sl false 1 ((AY b).map Aa)],[],0⟩ _;have va:=D5 a;have vb:=D5 b;have ha:=Ea a;have hb:=Ea b;generalize AY a=x at*;generalize AY b=y at*;subst va;subst vb;have ea:(((x.map Aa).length:Nat):Int)=(x.length:Int):=by rw[Ak]
 have eb:(((y.map Aa).length:Nat):Int)=(y.length:Int):=by rw[Ak]
 have wl:IntKind.i64.wrap ((x.length:Int)+(y.length:Int))=((x.length+y.length:Nat):Int):=by rw[wI (by omega) (by omega)];omega
 have r3:List.replicate (x.length+y.length) (ofV (.int .i64 0))=(List.replicate (x.length+y.length) 0).map Aa:=by rw[Jw];rfl
 refine sR 0 ?_;refine sZ 100 ?_;refine AT (BW ea eb wl kN) ?_;refine AC.seq ?_;refine sR 200 ?_;refine AC.block ?_;refine AC.loop (α:=Nat×List Nat×Nat) (λp=>⟨[(0,.sl false 1 (x.map Aa)),(1,.sl false 1 (y.map Aa)),(5,.osl 105 6 1 0 (x.length+y.length)),(6,i64 p.1)],[⟨105,6,3,1,p.2.1.map Aa⟩],p.2.2⟩) (λp=>x.length-p.1)
  (λp=>p.1<=x.length/\p.2.1.length=x.length+y.length/\Rd p.2.1/\AO p.2.1=AO (x.take p.1)*AO y/\∀k,p.1+y.length<=k->∀d,p.2.1[k]?=some d->d=0) (0,List.replicate (x.length+y.length) 0,_)
  ⟨BS _,by simp,Su _,by simp[AO,V8],λk _ d hd=>PP (Av hd)⟩ (by rw[<-r3];exact AK) ?_
 rintro⟨i,o,m⟩ F ⟨h1,h2,h3,h4,h5⟩;dsimp only at h1 h2 h3 h4 h5⊢;refine AC.seq ?_;refine AC.seq ?_
 by_cases hi:i<x.length
 ·have e1:decide ((i:Int)<(x.length:Int))=true:=AX (by omega)
  obtain⟨p,hp⟩:=CR hi;have hp':=Dp hp;have hpl:p<RB:=ha p (Av hp);have wi:IntKind.i64.wrap ((i:Int)+1)=((i+1:Nat):Int):=wI (by omega) (by omega);have hax:AO (x.take (i+1))=AO (x.take i)+RB^i*p:=by rw[FB hp,Gx (i:=i) (by rw[Ba];omega)]
  refine Ao w1 300 (by kernel_rfl) ?_;refine AT (Aj ea e1) ?_;refine AM ?_;refine An ?_;refine AC.seq ?_;refine AC.block ?_;refine sR 500 ?_;refine AC.seq ?_;refine sR 600 ?_;refine AC.block ?_;refine AC.loop (α:=Nat×Nat×List Nat×Nat) (λq=>⟨[(0,.sl false 1 (x.map Aa)),(1,.sl false 1 (y.map Aa)),(5,.osl 105 6 1 0 (x.length+y.length)),(6,i64 i),(7,Aa q.2.1),(8,i64 q.1)],[⟨105,6,3,1,q.2.2.1.map Aa⟩],q.2.2.2⟩) (λq=>y.length-q.1)
   (λq=>q.1<=y.length/\q.2.1<RB/\q.2.2.1.length=x.length+y.length/\Rd q.2.2.1/\AO q.2.2.1+RB^(i+q.1)*q.2.1=AO (x.take i)*AO y+RB^i*p*AO (y.take q.1)/\∀k,i+y.length<=k->∀d,q.2.2.1[k]?=some d->d=0) (0,0,o,_)
   ⟨BS _,(show 0<RB by decide),h2,h3,by simp[AO,h4],h5⟩ AK ?_
  rintro⟨j,c,q,m2⟩ F ⟨g1,g2,g3,g4,g5,g6⟩;dsimp only at g1 g2 g3 g4 g5 g6⊢;clear h2 h3 h4 h5 r3 wl;refine AC.seq ?_;refine AC.seq ?_
  by_cases hj:j<y.length
  ·have e2:decide ((j:Int)<(y.length:Int))=true:=AX (by omega)
   obtain⟨r,hr⟩:=CR hj;have hr':=Dp hr;have hrl:r<RB:=hb r (Av hr);obtain⟨z,hz⟩:=CR (l:=q) (i:=i+j) (by omega);have hz':=Dp hz;have hzl:z<RB:=g4 z (Av hz);have wj:IntKind.i64.wrap ((j:Int)+1)=((j+1:Nat):Int):=wI (by omega) (by omega);have wij:IntKind.i64.wrap ((i:Int)+(j:Int))=((i+j:Nat):Int):=by rw[wI (by omega) (by omega)];omega
   have hbx:AO (y.take (j+1))=AO (y.take j)+RB^j*r:=by rw[FB hr,Gx (i:=j) (by rw[Ba];omega)]
   have hpr:p*r<=999999999*999999999:=Ig (by unfold RB at hpl;omega) (by unfold RB at hrl;omega);have k0:IntKind.i64.wrap ((p:Int)*(r:Int))=((p*r:Nat):Int):=by rw[<-Fx,wI (by omega) (by omega)]
   have k1:IntKind.i64.wrap ((z:Int)+((p*r:Nat):Int))=((z+p*r:Nat):Int):=by rw[wI (by omega) (by unfold RB at*;omega)];omega
   have k2:IntKind.i64.wrap (((z+p*r:Nat):Int)+(c:Int))=((z+p*r+c:Nat):Int):=by rw[wI (by omega) (by unfold RB at*;omega)];omega
   have hs:=Nr (d:=(z+p*r+c)%RB) hz;have e:=Eo (z+p*r+c) RB;have hq:(z+p*r+c)/RB<RB:=E3 (by unfold RB at*;omega);have hd:(z+p*r+c)%RB<RB:=B1 _ (by decide);have k3:((z+p*r+c:Nat):Int).tmod 1000000000=(((z+p*r+c)%RB:Nat):Int):=rfl;have k4:IntKind.i64.wrap (((z+p*r+c:Nat):Int).tdiv 1000000000)=(((z+p*r+c)/RB:Nat):Int):=by
    show IntKind.i64.wrap ((((z+p*r+c)/1000000000:Nat)):Int)=_;exact wN (by change(z+p*r+c)/RB<=_;unfold RB at hq⊢;omega)
   have hval:AO (q.set (i+j) ((z+p*r+c)%RB))+RB^(i+(j+1))*((z+p*r+c)/RB)=AO (x.take i)*AO y+RB^i*p*AO (y.take (j+1)):=by
    rw[hbx,BL,<-EX (AO (x.take i)*AO y),<-g5];have h6:RB^(i+j)*((z+p*r+c)%RB)+RB^(i+(j+1))*((z+p*r+c)/RB)=RB^i*p*(RB^j*r)+RB^(i+j)*z+RB^(i+j)*c:=by
     have:RB^i*p*(RB^j*r)=RB^(i+j)*(p*r):=by
      rw[Fw,Bx,Bx,IY p]
     rw[this,<-EX i j 1,CK,Bx,<-BL,<-BL,<-BL,e]
     congr 1;omega
    omega
   generalize(z+p*r+c)%RB=d at*;generalize(z+p*r+c)/RB=c' at*;clear hs e g5 hax hbx;refine Ao w1 700 (by kernel_rfl) ?_;refine AT (Aj eb e2) ?_;refine AM ?_;refine An ?_;refine AC.seq ?_;refine AC.block ?_;refine AC.seq ?_;refine B5 w1 900 [0,1,2,3,4,5,6,7,8,9,10,11,12,13,14,15,16] [17,18] (by kernel_rfl) ?_;refine AD (BW wij kN BU hz') ?_;refine Bq kT hp' ?_;refine AD (BW wij kN BU hz') ?_;refine Bq kT hr' ?_;refine AD (As k0 k1 k2) ?_;refine sZ 1000 ?_;refine AD (CF wij kN BU hz' k3) ?_;rw[My];refine Ao w1 1100 (by kernel_rfl) ?_;refine AT k4 ?_;refine Ao w1 800 (by kernel_rfl) ?_;refine AT wj ?_;refine⟨(j+1,c',q.set (i+j) d,_),⟨hj,hq,by dsimp only;rw[DE];exact g3,g4.set hd,hval,λk hk d hd=>?_⟩,by dsimp only;omega,AK⟩;dsimp only at hk hd;rw[Ie (by omega)]at hd;exact g6 k hk d hd
  ·have e2:decide ((j:Int)<(y.length:Int))=false:=Ac (by omega)
   have hj:j=y.length:=by omega
   subst hj;obtain⟨z,hz⟩:=CR (l:=q) (i:=i+y.length) (by omega);have hz0:z=0:=g6 _ (Af _) _ hz;subst hz0;have hz':=Dp hz;have wij:IntKind.i64.wrap ((i:Int)+(y.length:Int))=((i+y.length:Nat):Int):=by rw[wI (by omega) (by omega)];omega
   have wij0:IntKind.i64.wrap ((i:Int)+(((y.map Aa).length:Nat):Int))=((i+y.length:Nat):Int):=by rw[eb];exact wij
   have k1:IntKind.i64.wrap (((0:Nat):Int)+(c:Int))=(c:Int):=by rw[wI (by omega) (by unfold RB at*;omega)];omega
   have hs:=Nr (d:=c) hz;rw[CA (Af _)]at g5;have hval:AO (q.set (i+y.length) c)=AO (x.take (i+1))*AO y:=by
    rw[hax,Bv];omega
   clear hs g5 hax;refine Ao w1 700 (by kernel_rfl) ?_;refine AT (Aj eb e2) ?_;refine AM ?_;refine B6 ?_;refine Ao w1 1200 (by kernel_rfl) ?_;refine AD (EM eb wij kN BU hz' k1) ?_;rw[My];refine Ao w1 400 (by kernel_rfl) ?_;refine AT wi ?_;refine⟨(i+1,q.set (i+y.length) c,_),⟨hi,by dsimp only;rw[DE];exact g3,g4.set g2,hval,λk hk d hd=>?_⟩,by dsimp only;omega,AK⟩;dsimp only at hk hd;rw[Ie (by omega)]at hd;exact g6 k (by omega) d hd
 ·have e1:decide ((i:Int)<(x.length:Int))=false:=Ac (by omega)
  have hi:i=x.length:=by omega
  subst hi;rw[CA (Af _)]at h4;refine Ao w1 300 (by kernel_rfl) ?_;refine AT (Aj ea e1) ?_;refine AM ?_;refine B6 ?_;refine AC.weak ⟨[(5,.sl false 1 (o.map Aa))],[],_⟩ (qU h2) ?_;refine sR 1300 ?_;refine BD.same _ (Lj o h3 (by omega)) AJ ?_;refine BN ?_;refine Ah ?_;exact AL (by rw[h4]) AA.out
theorem Oy (a b:Nat)(h:a/b<=9223372036854775807):IntKind.i64.wrap ((a:Int).tdiv (b:Int))=((a/b:Nat):Int):=by
 rw[<-Int.ofNat_tdiv];exact wN h
theorem Rl (a b:Nat):(a:Int).tmod (b:Int)=((a%b:Nat):Int):=(Int.ofNat_tmod a b).symm
theorem mb {env:Ar}{t K g n N t2:Nat}{z:List Nat}{T:Nat}{d2:D}(hl:z.length=N)(he:env.get t=.osl K g 1 0 N:=by exact rfl)(h2:env.get t2=d2:=by exact rfl):Wk ⟨env,[⟨K,g,T,1,z.map Aa⟩],n⟩ ⟨[(t,.sl false 1 (z.map Aa)),(t2,d2)],[],n⟩:=by
 subst hl;refine⟨.drop .nil,⟨?_,?_,trivial⟩,Af _⟩
 ·dsimp only
  rw[he]
  have:=RM K g T 1 (z.map Aa)
  rwa [Ak]at this
 ·dsimp only
  rw[h2];exact .refl _
theorem mq {r p d:Nat}(h:r*RB+p<d*RB)(hd:d<RB):IntKind.i64.wrap ((r:Int)*1000000000)=((r*RB:Nat):Int)/\IntKind.i64.wrap (((r*RB:Nat):Int)+(p:Int))=((r*RB+p:Nat):Int):=by
 unfold RB at*;refine⟨?_,?_⟩
 ·rw[wI (by omega) (by omega)];omega
 ·rw[wI (by omega) (by omega)];omega
theorem WV (a d:Nat)(hd:0<d)(hdl:d<RB)(hl:(AY a).length<1000000):AI C0 213 [rD a,Aa d] (.tup [rD (a/d),Aa (a%d)]):=by
 refine Ag.walk w1 sn rfl λF=>?_
 change AC C0 F none F _ ⟨DK 0 [.sl false 1 ((AY a).map Aa),Aa d],[],0⟩ _;have va:=D5 a;have wa:=Ea a;generalize AY a=x at*;have ea:(((x.map Aa).length:Nat):Int)=(x.length:Int):=by rw[Ak]
 have wl:IntKind.i64.wrap ((x.length:Int)-1)=(x.length:Int)-1:=wI (by omega) (by omega);have r3:List.replicate x.length (ofV (.int .i64 0))=(List.replicate x.length 0).map Aa:=by rw[Jw];rfl
 have d0:¬(d:Int)=0:=by omega
 refine sR 0 ?_;refine sZ 100 ?_;refine AT (Aj ea kN) ?_;refine sR 200 ?_;refine AC.seq ?_;refine sZ 300 ?_;refine AT (Aj ea wl) ?_;refine AC.block ?_;refine AC.loop (α:=Nat×Nat×List Nat×Nat) (λp=>⟨[(0,.sl false 1 (x.map Aa)),(1,Aa d),(6,.osl 102 4 1 0 x.length),(7,Aa p.2.1),(8,i64 ((p.1:Int)-1))],[⟨102,4,3,1,p.2.2.1.map Aa⟩],p.2.2.2⟩) (λp=>p.1)
  (λp=>p.1<=x.length/\p.2.1<d/\p.2.2.1.length=x.length/\Rd p.2.2.1/\AO (p.2.2.1.drop p.1)*d+p.2.1=AO (x.drop p.1)) (x.length,0,List.replicate x.length 0,_)
  ⟨Af _,hd,by simp,Su _,by simp[AO]⟩ (by rw[<-r3];exact AK) ?_
 rintro⟨k,r,q,m⟩ F ⟨h1,h2,h3,h4,h5⟩;dsimp only at h1 h2 h3 h4 h5⊢;clear ea wl r3;refine AC.seq ?_;refine sR 400 ?_;refine AM ?_
 (refine Bw (λh20=>?_) (λh20=>?_))<;>(try simp only[Bi,Bu]at h20)<;>(try simp only[h20])
 ·obtain⟨j,rfl⟩:∃j,k=j+1:=⟨k-1,by
   have:=Cz h20
   omega⟩
  have wj:((j+1:Nat):Int)-1=(j:Int):=by omega
  obtain⟨p,hp⟩:=CR (l:=x) (i:=j) (by omega);obtain⟨z,hz⟩:=CR (l:=q) (i:=j) (by omega);have hp':=Dp hp;have hz':=Dp hz;have hpl:=wa p (Av hp);obtain⟨J1,J2⟩:=gc hd hp (by omega) h5;have hsb:r*RB+p<d*RB:=by
   have:(r+1)*RB<=d*RB:=CI _ h2
   rw[Bv]at this;omega
  have hql:(r*RB+p)/d<RB:=E3 hsb;obtain⟨k1,k2⟩:=mq hsb hdl;have k3:=Oy (r*RB+p) d (BQ (J3 hql) (by decide));have k4:=Rl (r*RB+p) d;have wi:IntKind.i64.wrap ((j:Int)-1)=(j:Int)-1:=wI (by omega) (by omega);generalize(r*RB+p)/d=e at*;generalize(r*RB+p)%d=r' at*;rw[wj];refine An ?_;refine AC.seq ?_;refine AC.block ?_;refine sZ 600 ?_;refine AD kN ?_;refine Bq kT hp' ?_;refine AD (Aj k1 k2) ?_;refine sZ 700 ?_;refine AD (BW kN BU hz' k3) ?_;rw[My];refine Ao w1 800 (by kernel_rfl) ?_;refine AT k4 ?_;refine Ao w1 500 (by kernel_rfl) ?_;refine AT wi ?_;exact⟨(j,r',q.set j e,_),⟨by dsimp only;omega,J2,by dsimp only;rw[DE];exact h3,h4.set hql,J1⟩,by dsimp only;omega,AK⟩
 ·have hk:k=0:=by
   have:=DN h20
   omega
  subst hk;rw[Fd,Fd,va]at h5;obtain⟨q1,q2⟩:=QC h5 h2;refine B6 ?_;refine AC.weak ⟨[(6,.sl false 1 (q.map Aa)),(7,Aa r)],[],_⟩ (mb h3) ?_;refine sR 900 ?_;refine BD.same _ (Lj q h4 (by omega)) AJ ?_;refine BN ?_;refine Ah ?_;exact AL (by rw[q1,q2]) AA.out
structure JW (U V n2 v1 p1 q r:Nat):Prop where
 eq:q*v1+r=n2
 up:U<(q+1)*V
 cap:n2<=v1*RB+p1
 p1l:p1<RB
namespace JW
variable {U V n2 v1 p1 q r:Nat} (G:JW U V n2 v1 p1 q r)
include G
theorem small (h:RB<=r):q<RB:=by
 rcases BG q RB with h1|h1
 ·exact h1
 ·exfalso
  have h2:=CI v1 h1;have h3:=G.eq;have h4:=G.cap;have h5:=G.p1l;rw[BP RB v1]at h2;omega
theorem qle (hv:0<v1):q<=2*RB:=by
 rcases BG (2*RB) q with h1|h1
 ·exfalso
  have h2:=CI v1 h1;have h3:=G.eq;have h4:=G.cap;have h5:=G.p1l;have h6:RB*1<=RB*v1:=CY _ hv;rw[Nat.succ_mul,Bx,BP RB v1]at h2;rw[BP RB v1]at h6;omega
 ·exact h1
end JW
section
variable {P v:List Nat} {m p0 p1 p2 v2 v1:Nat} (S:Kc P v m p0 p1 p2 v2 v1)
include S
theorem gl:JW (AO P) (AO v) (p1+RB*p2) v1 p1 ((p2*RB+p1)/v1) ((p2*RB+p1)%v1):=by
 have c0:p2*RB+p1=p1+RB*p2:=by rw[BP,Kz]
 rw[c0];have e:=EW (p1+RB*p2) v1;have l:=B1 (p1+RB*p2) S.top;have c1:=BP v1 ((p1+RB*p2)/v1);refine⟨by omega,WA S.below2 S.abovev ?_,?_,S.p1l⟩
 ·rw[Bv];omega
 ·have:=CY RB S.p2v1
  rw[BP v1];omega
theorem gz {q r:Nat}(G:JW (AO P) (AO v) (p1+RB*p2) v1 p1 q r)(h:RB<=q\/r*RB+p0<q*v2):0<q/\JW (AO P) (AO v) (p1+RB*p2) v1 p1 (q-1) (r+v1):=by
 obtain⟨e,u,cp,pl⟩:=G;have hq:0<q:=by
  rcases h with h|h
  ·unfold RB at h;omega
  ·rcases Dk q with h0|h0
   ·subst h0;omega
   ·exact h0
 obtain⟨k,rfl⟩:∃k,q=k+1:=⟨q-1,by omega⟩
 refine⟨hq,⟨?_,?_,cp,pl⟩⟩
 ·rw[IW,<-e,Bv];omega
 ·rw[IW]
  rcases h with h|h
  ·have h1:AO v*RB<=(k+1)*AO v:=by rw[BP];exact CI _ h
   have:=S.less
   omega
  ·have e2:(k+1)*(v2+RB*v1)=(k+1)*v2+RB*((k+1)*v1):=by rw[BL,IY]
   refine We S.below3 S.abovev2 ?_;rw[e2,<-e,BL RB,BP RB r];omega
theorem WB {q r:Nat}(G:JW (AO P) (AO v) (p1+RB*p2) v1 p1 q r)(h:RB<=r\/(q<RB/\q*v2<=r*RB+p0)):q<RB/\q*AO v<=AO P+AO v:=by
 have hqB:q<RB:=by
  rcases h with h|h
  ·exact G.small h
  ·exact h.1
 obtain⟨e,u,cp,pl⟩:=G;have h5:=S.v2l;have hq:q*v2<=r*RB+p0:=by
  rcases h with h|h
  ·have h2:q*v2<=RB*RB:=Ig (by omega) (by omega)
   have h3:RB*RB<=r*RB:=CI _ h;omega
  ·exact h.2
 have e2:q*(v2+RB*v1)=q*v2+RB*(q*v1):=by rw[BL,IY]
 refine⟨hqB,XV (n3:=p0+RB*(p1+RB*p2)) (D:=v2+RB*v1) (P:=RB^m) (B:=RB) (v:=AO (v.take m)) ?_ ?_ S.lowv ?_ (by omega) ?_⟩
 ·rw[S.valP,BP];omega
 ·rw[S.valv,BP];omega
 ·rw[e2,<-e,BL RB,BP RB r]
  omega
 ·have:=S.top
  have h1:=CY RB (show 1<=v1 from this);omega
end
theorem DP.of {H:Hp}{d0 d:D}(h:Fz H [] d0 d):DP H d0 d:=λ_ _ _ _ m hO hN _ hv=>h.rep m hO (λe he b hb _=>hN e he b hb) hv
theorem zV {C:BC}{f:Nat}{ds ds':List D}{Φ:D->Prop}{H:Hp}{n:Nat}(hc:Ag C f ds' Φ)(hl:ds'.length=ds.length)(hv:∀(i:Nat) (a b:D),ds[i]?=some a->ds'[i]?=some b->DP H a b)
  (hp:Ai ds') (hflat:∀d,Φ d->Jl d):Cd C f ds H n (λd' H' n'=>Φ d'/\H'=H/\n'=n+1):=by
 refine⟨hc.1,λF ρ w vs m hfr hg hvs hr=>?_⟩;have hH:Cg H [] H []:=by
  generalize H=H0
  have:∀H1:Hp,Cg H0 [] H1 []:=λH1=>by
   induction H1 with
   |nil=>exact .nil
   |cons e r ih=>exact .drop ih
  exact this H0
 obtain⟨m',hO,hN⟩:=hH.mem m;refine(hc.2 (AN F.X ρ []) w vs m.g (BQ m.gn m.size) (λb hb=>m'.own_lt hb) (by omega) λi x hx=>?_).mono ?_
 ·have hi:i<ds'.length:=(List.getElem?_eq_some_iff.1 hx).1
  have hd0:ds[i]?=some ds[i]:=BE (by omega);exact hp.out x (Av hx) _ _ _ _ _ (hv i _ x hd0 hx C F ρ w m hO (λe he b hb=>hN e he b hb rfl) _ (hr i _ hd0))
 ·rintro e w' ⟨v,d',rfl,hb,hd',rep⟩
  have x:BR ρ (AN F.X ρ H) w ρ (AN F.X ρ H) w':=⟨hb.size,λ_ _ _ h=>h,λb hb' hO=>⟨hO,hb.block b hb'⟩,λb cs T fz hh=>⟨cs,_,by
   rw[hb.block b (Array.getElem?_eq_some_iff.1 hh).1];exact hh,rfl⟩⟩
  exact⟨v,_,H,n+1,ρ,rfl,⟨hd',rfl,rfl⟩,m.same x hb.os hb.tape hb.output hb.block,x,λk g hg'=>hfr k g (by omega),λe he=>DF (hg e he),hflat _ hd' _ _ _ _ _ _ _ rep⟩
def X3 (P v:List Nat)(d:D):Prop:=∃q,d=Aa q/\q<RB/\AO P<(q+1)*AO v/\q*AO v<=AO P+AO v
theorem lM {p2 p1 v1:Nat}(h1:p1<RB)(h2:p2<RB):IntKind.i64.wrap ((p2:Int)*1000000000)=((p2*RB:Nat):Int)/\IntKind.i64.wrap (((p2*RB:Nat):Int)+(p1:Int))=((p2*RB+p1:Nat):Int) /\
  IntKind.i64.wrap (((p2*RB+p1:Nat):Int).tdiv (v1:Int))=(((p2*RB+p1)/v1:Nat):Int):=by
 have h3:=Fy (p2*RB+p1) v1;unfold RB at*;refine⟨?_,?_,?_⟩
 ·rw[wI (by omega) (by omega)];omega
 ·rw[wI (by omega) (by omega)];omega
 ·exact Oy _ _ (by omega)
theorem ig {t r v2 p0:Nat}(ht:t<RB)(hr:r<RB)(h2:v2<RB)(h0:p0<RB):IntKind.i64.wrap ((t:Int)*(v2:Int))=((t*v2:Nat):Int)/\IntKind.i64.wrap ((r:Int)*1000000000)=((r*RB:Nat):Int) /\
  IntKind.i64.wrap (((r*RB:Nat):Int)+(p0:Int))=((r*RB+p0:Nat):Int):=by
 have h3:t*v2<=999999999*999999999:=Ig (by unfold RB at ht;omega) (by unfold RB at h2;omega);unfold RB at*;refine⟨?_,?_,?_⟩
 ·rw[<-Fx,wI (by omega) (by omega)]
 ·rw[wI (by omega) (by omega)];omega
 ·rw[wI (by omega) (by omega)];omega
theorem ov {t v2 r p0:Nat}(h:t<RB):decide (((t*v2:Nat):Int)>((r*RB+p0:Nat):Int))=decide (RB<=t\/r*RB+p0<t*v2):=
 C4.2 ⟨λh1=>.inr (Int.ofNat_lt.1 h1),λh1=>Int.ofNat_lt.2 (h1.resolve_left (Nat.not_le.2 h))⟩
theorem ow {t v2 r p0:Nat}(h:¬(RB<=t\/r*RB+p0<t*v2)):t<RB/\t*v2<=r*RB+p0:=⟨Nat.lt_of_not_le λh1=>h (.inl h1),Nat.le_of_not_lt λh1=>h (.inr h1)⟩
theorem ox {P v:List Nat}{m p0 p1 p2 v2 v1:Nat}(S:Kc P v m p0 p1 p2 v2 v1):∃a1 T q0 r0:Nat,IntKind.i64.wrap ((p2:Int)*1000000000)=(a1:Int)/\IntKind.i64.wrap ((a1:Int)+(p1:Int))=(T:Int) /\
  IntKind.i64.wrap ((T:Int).tdiv (v1:Int))=(q0:Int)/\(T:Int).tmod (v1:Int)=(r0:Int)/\JW (AO P) (AO v) (p1+RB*p2) v1 p1 q0 r0/\r0<RB:=by
 obtain⟨k1,k2,k3⟩:=lM (v1:=v1) S.p1l S.p2l;exact⟨_,_,_,_,k1,k2,k3,Rl _ v1,gl S,Fv (B1 _ S.top) S.v1l⟩
theorem lg {t r v2 p0:Nat}(ht:t<RB)(hr:r<RB)(h2:v2<RB)(h0:p0<RB):∃a1 a2 a3:Nat,IntKind.i64.wrap ((t:Int)*(v2:Int))=(a3:Int)/\IntKind.i64.wrap ((r:Int)*1000000000)=(a1:Int) /\
  IntKind.i64.wrap ((a1:Int)+(p0:Int))=(a2:Int)/\decide ((a3:Int)>(a2:Int))=decide (RB<=t\/r*RB+p0<t*v2):=by
 obtain⟨q1,q2,q3⟩:=ig ht hr h2 h0;exact⟨_,_,_,q1,q2,q3,ov ht⟩
theorem o9 (U v:List Nat)(j m p0 p1 p2 v2 v1:Nat)(S:Kc ((U.drop j).take (m+3)) v m p0 p1 p2 v2 v1)(hj:j+(m+3)<=U.length)(hU:U.length<4000000):Ag C0 216 [rL U,rL v,Aa j] (X3 ((U.drop j).take (m+3)) v):=by
 refine Ag.walk w1 sq rfl λF=>?_
 unfold rL;have hg:∀ {k p:Nat},((U.drop j).take (m+3))[k]?=some p->U[j+k]?=some p:=λ{k p} h=>by
  rw[Em]at h;split at h
  ·rwa [HQ]at h
  ·cases h
 have u0:=Dp (hg S.h0);have u1:=Dp (hg S.h1);have u2:=Dp (hg S.h2);have y1:=Dp S.g1;have y2:=Dp S.g2;have l0:=S.p0l;have l1:=S.p1l;have l2:=S.p2l;have lv1:=S.v1l;have lv2:=S.v2l;have ev:(((v.map Aa).length:Nat):Int)=((m+2:Nat):Int):=by rw[Ak,S.lv]
 have eu:(((U.map Aa).length:Nat):Int)=(U.length:Int):=by rw[Ak]
 have w0:IntKind.i64.wrap ((j:Int)+((m+2:Nat):Int))=((j+(m+2):Nat):Int):=by rw[wI (by omega) (by omega)];omega
 have wa:IntKind.i64.wrap (((j+(m+2):Nat):Int)-1)=((j+(m+1):Nat):Int):=by rw[wI (by omega) (by omega)];omega
 have wb:IntKind.i64.wrap (((j+(m+2):Nat):Int)-2)=((j+m:Nat):Int):=by rw[wI (by omega) (by omega)];omega
 have wc:IntKind.i64.wrap (((m+2:Nat):Int)-1)=((m+1:Nat):Int):=by rw[wI (by omega) (by omega)];omega
 have wd:IntKind.i64.wrap (((m+2:Nat):Int)-2)=(m:Int):=by rw[wI (by omega) (by omega)];omega
 have ra:IntKind.i64.wrap (IntKind.i64.wrap ((j:Int)+((m+2:Nat):Int))-1)=((j+(m+1):Nat):Int):=by rw[w0,wa]
 have rb:IntKind.i64.wrap (IntKind.i64.wrap ((j:Int)+((m+2:Nat):Int))-2)=((j+m:Nat):Int):=by rw[w0,wb]
 obtain⟨a1,T,q0,r0,k1,k2,k3,k4,G0,hr0⟩:=ox S;have v0:¬(v1:Int)=0:=by have:=S.top;omega
 have hvl:=S.lv;refine sR 0 ?_;refine sZ 100 ?_;refine AT ev ?_;refine AC.seq ?_;refine B5 w1 200 [0,1,2,3,4,5,6,7,8,9,10,11,12,13] [14,15] (by kernel_rfl) ?_;refine AD (BW w0 wa ra kN) ?_;refine Bq kT u2 ?_;refine AD (BW w0 wa ra kN) ?_;refine Bq kT u1 ?_;refine AD (EM w0 wa ra kN k1 k2) ?_;refine AC.seq ?_;refine B5 w1 300 [0,1,2,3,4,5,6,7,8,9,10,11,12,13,14] [15] (by kernel_rfl) ?_;refine AD (Aj wc kN) ?_;refine Bq kT y1 ?_;refine AD (Aj wc kN) ?_;refine Bq kT y1 ?_;refine AD (BW wc kN k3 k4) ?_;refine Cw (α:=Nat×Nat) (λp=>⟨[(9,Aa p.1)],[],p.2⟩) (λp=>p.1<RB/\AO ((U.drop j).take (m+3))<(p.1+1)*AO v/\p.1*AO v<=AO ((U.drop j).take (m+3))+AO v) ?_ ?_
 ·refine AC.block ?_
  refine GT (α:=Nat×Nat×Nat) (λp=>⟨[(0,.sl false 1 (U.map Aa)),(1,.sl false 1 (v.map Aa)),(2,Aa j),(7,i64 ((m+2:Nat):Int)),(9,Aa p.1),(10,Aa p.2.1)],[],p.2.2⟩) (λp=>p.1)
   (λp F'=>F'=F/\JW (AO ((U.drop j).take (m+3))) (AO v) (p1+RB*p2) v1 p1 p.1 p.2.1/\p.2.1<RB) (q0,r0,_) ⟨rfl,G0,hr0⟩ AK ?_
  rintro⟨t,r,n⟩ F' ⟨rfl,G,hr⟩;dsimp only at G hr⊢;clear G0 hr0 k1 k2 k3 k4 u1 u2 ra wa;have htl:=G.qle S.top;obtain⟨b,hb⟩:∃b,b=decide (RB<=t\/r*RB+p0<t*v2):=⟨_,rfl⟩
  refine AC.seq ?_;refine Cw (α:=Nat) (λn=>⟨[(0,.sl false 1 (U.map Aa)),(1,.sl false 1 (v.map Aa)),(2,Aa j),(7,i64 ((m+2:Nat):Int)),(9,Aa t),(10,Aa r),(63,Aq b)],[],n⟩) (λ_=>True) ?_ ?_
  ·rcases BG t RB with h|h
   ·have e1:decide ((t:Int)>=1000000000)=false:=Ac (by unfold RB at h;omega)
    obtain⟨a1,a2,a3,q1,q2,q3,q4⟩:=lg h hr lv2 l0;rw[<-hb]at q4;clear hb;rw[<-q4];refine B5 w1 400 [0,1,2,3,4,5,6,7,8,9,10,11,12,13,14,15,16,17,18,19] [20,21] (by kernel_rfl) ?_;refine AD e1 ?_;refine AD (As kF wd kN) ?_;refine Bq kF y2 ?_;refine AD (CF kF w0 wb rb kN) ?_;refine Bq kF u0 ?_;refine AD (BW kF q1 q2 q3) ?_;refine AD kF ?_;exact⟨trivial,_,trivial,AK⟩
   ·have e1:decide ((t:Int)>=1000000000)=true:=AX (by unfold RB at h;omega)
    have e2:b=true:=hb.trans (AX (.inl h));subst e2;refine B5 w1 400 [0,1,2,3,4,5,6,7,8,9,10,11,12,13,14,15,16,17,18,19] [20,21] (by kernel_rfl) ?_;refine AD e1 ?_;refine AD kT ?_;refine AD kT ?_;exact⟨trivial,_,trivial,AK⟩
  rintro n2 -;cases b with
  |true=>
   have hc:=Cz hb.symm;obtain⟨t0,G2⟩:=gz S G hc;have j1:IntKind.i64.wrap ((t:Int)-1)=((t-1:Nat):Int):=by rw[wI (by omega) (by unfold RB at htl;omega)];omega
   have j2:IntKind.i64.wrap ((r:Int)+(v1:Int))=((r+v1:Nat):Int):=by rw[wI (by omega) (by unfold RB at hr lv1;omega)];omega
   clear hc hb;refine AM ?_;refine An ?_;refine AC.block ?_;refine sZ 500 ?_;refine AT j1 ?_;refine sZ 600 ?_;refine AD (Aj wc kN) ?_;refine Bq kT y1 ?_;refine AD j2 ?_;refine AC.seq ?_;rcases BG (r+v1) RB with h|h
   ·have e3:decide (((r+v1:Nat):Int)>=1000000000)=false:=Ac (by unfold RB at h;omega)
    refine Ao w1 700 (by kernel_rfl) ?_;refine AT e3 ?_;refine AM ?_;refine An ?_;exact⟨(t-1,r+v1,_),⟨rfl,G2,h⟩,by dsimp only;omega,AK⟩
   ·have e3:decide (((r+v1:Nat):Int)>=1000000000)=true:=AX (by unfold RB at h;omega)
    obtain⟨g1,g2⟩:=WB S G2 (.inl h);refine Ao w1 700 (by kernel_rfl) ?_;refine AT e3 ?_;refine AM ?_;refine sR 800 ?_;refine Ah ?_;exact⟨_,.refl _,AA.out,t-1,rfl,g1,G2.up,g2⟩
  |false=>
   have hc:=DN hb.symm;obtain⟨g1,g2⟩:=WB S G (.inr (ow hc));clear hc hb;refine AM ?_;refine B6 ?_;exact⟨rfl,⟨t,_⟩,⟨g1,G.up,g2⟩,AK⟩
 rintro⟨q,n⟩ ⟨g1,g2,g3⟩;dsimp only at g1 g2 g3⊢;refine sR 900 ?_;refine Ah ?_;exact⟨_,.refl _,AA.out,q,rfl,g1,g2,g3⟩
def Og (k g k' n:Nat)(env:Ar):Ar->Prop
 | []=>True
 |(t,d)::r=>(d=env.get t\/∃sz i len,env.get t=.osl k g sz i len/\d=.osl k' n sz i len)/\Og k g k' n env r
theorem Og.get {k g k' n:Nat}{env:Ar}:∀ {env':Ar},Og k g k' n env env'->∀t,env'.get t=.any\/env'.get t=env.get t\/∃sz i len,env.get t=.osl k g sz i len/\env'.get t=.osl k' n sz i len
 | [],_,t=>.inl rfl
 |(t0,d)::r,h,t=>by
  simp only[Ar.get];cases hb:Nat.beq t0 t with
  |true=>
   obtain rfl:=B3 hb;rcases h.1 with h1|h1
   ·exact .inr (.inl h1)
   ·exact .inr (.inr h1)
  |false=>exact Og.get h.2 t
section
variable {C:BC} {B F:Ab} {rd:Option Nat} {Q:Exit->Ab->St->Prop}
theorem yz {c:Code}{env:Ar}{k g k' T sz n:Nat}{es:List D}(env':Ar)(he:Og k g k' n env env')(h:AC C B rd F c ⟨env',[⟨k',n,T,sz,es⟩],n+1⟩ Q):AC C B rd F c ⟨env,[⟨k,g,T,sz,es⟩],n⟩ Q:=by
 refine⟨λhB hd ρ a w hs=>?_⟩;obtain⟨ρ',hl,hk,hf⟩:∃ρ':Lk,(∀k1 g1 b,ρ k1 g1=some b->ρ' k1 g1=some b)/\ρ' k' n=ρ k g/\I6 ρ' (n+1):=by
  cases hb:ρ k g with
  |none=>exact⟨ρ,λ_ _ _ h=>h,hs.fresh _ _ (Af _),λk1 g1 h=>hs.fresh _ _ (Nat.le_of_succ_le h)⟩
  |some b=>exact⟨ρ.put k' n b,λk1 g1 b1 h1=>NP (hs.fresh _ _ (Af _)) h1,EJ _ _ _ _,λk1 g1 h1=>by
    unfold Lk.put;split
    ·rename_i hh;omega
    ·exact hs.fresh _ _ (Nat.le_of_succ_le h1)⟩
 have hO:AN F.X ρ' [⟨k',n,T,sz,es⟩]=AN F.X ρ [⟨k,g,T,sz,es⟩]:=funext λb=>propext (by simp[AN,hk])
 have x:BR ρ (AN F.X ρ [⟨k,g,T,sz,es⟩]) w ρ' (AN F.X ρ' [⟨k',n,T,sz,es⟩]) w:=⟨Af _,hl,λb _ hb=>⟨by rw[hO];exact hb,rfl⟩,λ_ cs _ _ h=>⟨cs,_,h,rfl⟩⟩
 refine h.out hB hd ρ' a w ⟨⟨⟨λe he'=>?_,by simp,λe he' b hb=>?_⟩,hs.mem.os,hs.mem.tape,hs.mem.output,hs.mem.size,hs.mem.blk,hs.mem.xlt,hs.mem.g0,hs.mem.gn,hs.mem.gw,λk1 g1 b h1=>hl _ _ _ (hs.mem.lnk _ _ _ h1),hs.mem.shp⟩,hf,λe he'=>?_,λt=>?_,hs.nt,hs.dfr⟩
 ·simp only[A8,DW,or_false]at he'
  subst he';rcases hs.mem.hok.ent ⟨k,g,T,sz,es⟩ (by simp)with⟨h1,h2⟩|⟨b,cs,h1,h2,h3⟩
  ·exact .inl ⟨h1,by rw[show ρ' k' n=ρ k g from hk];exact h2⟩
  ·refine .inr ⟨b,cs,hk.trans h1,h2,?_⟩
   have h4:=h3.mono x;exact⟨h4.len,h4.siz,h4.one,h4.rep⟩
 ·simp only[A8,DW,or_false]at he'
  subst he';exact hs.mem.hok.own ⟨k,g,T,sz,es⟩ (by simp) b (hk.symm.trans hb)
 ·simp only[A8,DW,or_false]at he'
  subst he';exact HM _
 ·have h0:=(hs.env t).mono x
  rcases he.get t with h1|h1|⟨sz',i,len,h1,h2⟩
  ·show AU _ _ _ (env'.get t) _
   rw[h1];exact .any _
  ·show AU _ _ _ (env'.get t) _
   rw[h1];exact h0
  ·show AU _ _ _ (env'.get t) _
   rw[h2];have h5:=hs.env t;change AU _ _ _ (env.get t) _ at h5;rw[h1]at h5;generalize a.tmps.getD t undef=v at*;cases h5 with
   |onil=>exact .onil _ _ _
   |osl hr hb hc hs' hm=>exact .osl (hk.trans hr) hb hc hs' hm
end
theorem xz {b m y:Nat}(hl:(AY b).length=m+1)(hy:(AY b)[m]?=some y):∃f,f=1000000000/(y+1)/\0<f/\f<RB/\(AY (b*f)).length=m+1:=by
 have hy0:=Pr b hl hy;have hyl:y<RB:=Ea b y (Av hy);have hf0:0<1000000000/(y+1):=Nat.div_pos (by unfold RB at hyl;omega) (by omega);have hf1:1000000000/(y+1)<RB:=Hw (by decide) (by omega);have hm:=Nat.div_mul_le_self 1000000000 (y+1);refine⟨_,rfl,hf0,hf1,?_⟩;generalize 1000000000/(y+1)=f at*;refine iN ?_ ?_
 ·exact BQ (Ss hl) (Nat.le_mul_of_pos_right _ hf0)
 ·have h2:=Ul hl hy
  have h3:=F9 ((Ea b).take m);rw[Ba,hl,E8 (by omega)]at h3;rw[D5]at h2;have h4:b<RB^m*(y+1):=by rw[BL,EC];omega
  have h5:b*f<RB^m*(y+1)*f:=SJ h4 hf0;have h6:RB^m*(y+1)*f=RB^m*(f*(y+1)):=by rw[Bx,BP (y+1)]
  have h7:RB^m*(f*(y+1))<=RB^m*RB:=CY _ hm;rw[CK];omega
theorem jL {a b f:Nat}{U v:List Nat}{k lu lq:Nat}(hf:0<f)(hU:AO U=a*f)(hv:AO v=b*f)(wU:Rd U)(lU:U.length=lu){q:List Nat}(hq:q=List.replicate lq 0)(hk:lq<=k)
  (hab:a<RB^k*b):L2 (a*f) v U q lu lq k:=by
 subst hq;refine⟨lU,Id,wU,Su _,?_,?_⟩
 ·rw[HO (by rw[Id];exact hk)]
  rw[show AO []=0 from rfl,EY,Gt,BU,hU]
 ·rcases BG (AO (U.drop k)) (AO v)with h|h
  ·exact h
  ·exfalso
   have e0:AO U=AO (U.take k)+RB^(U.take k).length*AO (U.drop k):=by
    conv=>lhs;rw[<-E2 k U]
    rw[JM]
   have h3:a*f<RB^k*b*f:=SJ hab hf;rw[Bx,<-hv]at h3;rcases BG U.length k with hl|hl
   ·rw[HO (by omega)]at h
    rw[show AO []=0 from rfl]at h;rw[Nat.le_zero.1 h,EY]at h3;omega
   ·rw[Ba,E8 hl]at e0
    have:=CY (RB^k) h
    omega
theorem km {a b f:Nat}{v U q:List Nat}{lu lq:Nat}(hf:0<f)(I:L2 (a*f) v U q lu lq 0)(hv:AO v=b*f):AO q=a/b/\AO U=a%b*f:=by
 obtain⟨lU,lQ,wU,wq,val,less⟩:=I;simp only[MD,JH,Fd]at val less;obtain⟨h1,h2⟩:=QC val less;rw[hv,PU _ _ hf]at h1;rw[hv,PV]at h2;exact⟨h1,h2⟩
theorem pk {P V q N Pn c z W:Nat}(hI:N+q*V=Pn+W*c)(hP:P=Pn+W*z)(hc:c<=z)(hup:P<(q+1)*V):P/V=q/\P%V=N+W*(z-c):=by
 have e:W*z=W*c+W*(z-c):=by rw[<-BL];congr 1;omega
 exact TG (N:=N+W*(z-c)) (by omega) hup
theorem pn {P V q N Pn N2 c c2 z W:Nat}(hI:N+q*V=Pn+W*c)(hP:P=Pn+W*z)(hz:z<c)(hN:N<W)(hdn:q*V<=P+V)(hN2:N2+W*c2=N+V)(hc2:c2<=1)(hN2l:N2<W)(hVW:V<W):
  0<q/\P/V=q-1/\P%V=N2/\(z:Int)-c+c2=0:=by
 obtain⟨e,rfl⟩:∃e,c=z+1+e:=⟨c-z-1,by omega⟩
 have h1:W*(z+1+e)=W*z+W+W*e:=by rw[BL,BL,EC]
 have he:e=0:=by
  rcases Dk e with h|h
  ·exact h
  ·have:=CY W h
   omega
 subst he;rw[EY]at h1;obtain⟨a1,a2,a3⟩:=XK (U:=P) (V:=V) (q:=q) (N:=N) (N3:=N2) (T:=W) (c:=c2) (by omega) hN hdn hN2 hc2 hN2l;refine⟨a1,a2,a3,?_⟩
 have:c2=1:=by
  rcases Dk c2 with h|h
  ·exfalso
   subst h;rcases Dk q with h0|h0
   ·subst h0;omega
   ·obtain⟨k,rfl⟩:∃k,q=k+1:=⟨q-1,by omega⟩
    rw[Bv,JH]at hI hdn;omega
  ·omega
 subst this;omega
def blk (A N:List Nat)(top:Int)(Z:List Nat):List D:=A.map Aa++(N.map Aa++(i64 top::Z.map Aa))
theorem Zq {A N Z:List Nat}{top:Int}{i z:Nat}(h:N[i]?=some z):(blk A N top Z)[A.length+i]?=some (Aa z):=by
 have hi:i<N.length:=(List.getElem?_eq_some_iff.1 h).1;unfold blk;rw[E6 (by rw[Ak];omega),Ak,Kx,GW (by rw[Ak];exact hi)];exact Dp h
theorem Yk {A N Z:List Nat}{top:Int}{i d:Nat}(h:i<N.length):(blk A N top Z).set (A.length+i) (Aa d)=blk A (N.set i d) top Z:=by
 unfold blk;rw[NV _ _ (by rw[Ak];omega),Ak,Kx,List.set_append_left _ _ (by rw[Ak];exact h),My]
theorem Tz {A N Z:List Nat}{top:Int}{n:Nat}(h:N.length=n):(blk A N top Z)[A.length+n]?=some (i64 top):=by
 unfold blk;rw[E6 (by rw[Ak];omega),Ak,Kx,E6 (by rw[Ak];omega),Ak,h,Nat.sub_self];rfl
theorem Xj {A N Z:List Nat}{top t:Int}{n:Nat}(h:N.length=n):(blk A N top Z).set (A.length+n) (i64 t)=blk A N t Z:=by
 unfold blk;rw[NV _ _ (by rw[Ak];omega),Ak,Kx,NV _ _ (by rw[Ak];omega),Ak,h,Nat.sub_self];rfl
theorem Ty {A N Z:List Nat}{t:Nat}:blk A N (t:Int) Z=(A++((N++[t])++Z)).map Aa:=by
 unfold blk;simp[DA]
theorem nB {t x c z:Nat}(ht:t<RB)(hx:x<RB)(hc:c<=RB)(hz:z<RB):∃p lo hi x' d c':Nat,IntKind.i64.wrap ((t:Int)*(x:Int))=(p:Int)/\IntKind.i64.wrap ((p:Int)+(c:Int))=(x':Int)/\((x':Int)).tmod 1000000000=(lo:Int) /\
  IntKind.i64.wrap (((x':Int)).tdiv 1000000000)=(hi:Int)/\IntKind.i64.wrap ((z:Int)-(lo:Int))=(z:Int)-lo/\d<RB/\c'<=RB/\d+t*x+c=z+RB*c' /\
  ((c'=hi/\(z:Int)-lo=d)\/(c'=hi+1/\(z:Int)-lo<0/\IntKind.i64.wrap ((z:Int)-lo+1000000000)=d/\IntKind.i64.wrap ((hi:Int)+1)=((hi+1:Nat):Int))):=by
 have h3:t*x<=999999999*999999999:=Ig (by unfold RB at ht;omega) (by unfold RB at hx;omega);have e:=Eo (t*x+c) 1000000000;have l:=B1 (t*x+c) (show 1000000000>0 by decide);have k0:IntKind.i64.wrap ((t:Int)*(x:Int))=((t*x:Nat):Int):=by rw[<-Fx,wI (by omega) (by omega)]
 unfold RB at*;have k1:IntKind.i64.wrap (((t*x:Nat):Int)+(c:Int))=((t*x+c:Nat):Int):=by rw[wI (by omega) (by omega)];omega
 have k2:((t*x+c:Nat):Int).tmod 1000000000=(((t*x+c)%1000000000:Nat):Int):=Rl _ 1000000000;have k3:IntKind.i64.wrap (((t*x+c:Nat):Int).tdiv 1000000000)=(((t*x+c)/1000000000:Nat):Int):=Oy _ 1000000000 (by omega);generalize t*x=p at*;generalize(p+c)%1000000000=lo at*;generalize(p+c)/1000000000=hi at*;rcases BG z lo with h|h
 ·exact⟨_,_,_,_,z+1000000000-lo,hi+1,k0,k1,k2,k3,wI (by omega) (by omega),by omega,by omega,by omega,.inr ⟨rfl,by omega,by rw[wI (by omega) (by omega)];omega,by rw[wI (by omega) (by omega)];omega⟩⟩
 ·exact⟨_,_,_,_,z-lo,hi,k0,k1,k2,k3,wI (by omega) (by omega),by omega,by omega,by omega,.inl ⟨rfl,by omega⟩⟩
theorem mn {z x c:Nat}(hz:z<RB)(hx:x<RB)(hc:c<=1):∃p s d c':Nat,IntKind.i64.wrap ((z:Int)+(x:Int))=(p:Int)/\IntKind.i64.wrap ((p:Int)+(c:Int))=(s:Int)/\((s:Int)).tmod 1000000000=(d:Int) /\
  IntKind.i64.wrap (((s:Int)).tdiv 1000000000)=(c':Int)/\d<RB/\c'<=1/\d=(z+x+c)%RB/\c'=(z+x+c)/RB:=by
 have e:=Eo (z+x+c) 1000000000;have l:=B1 (z+x+c) (show 1000000000>0 by decide);unfold RB at*;have k0:IntKind.i64.wrap ((z:Int)+(x:Int))=((z+x:Nat):Int):=by rw[wI (by omega) (by omega)];omega
 have k1:IntKind.i64.wrap (((z+x:Nat):Int)+(c:Int))=((z+x+c:Nat):Int):=by rw[wI (by omega) (by omega)];omega
 have k2:((z+x+c:Nat):Int).tmod 1000000000=(((z+x+c)%1000000000:Nat):Int):=Rl _ 1000000000;have k3:IntKind.i64.wrap (((z+x+c:Nat):Int).tdiv 1000000000)=(((z+x+c)/1000000000:Nat):Int):=Oy _ 1000000000 (by omega);exact⟨_,_,_,_,k0,k1,k2,k3,l,by omega,rfl,rfl⟩
set_option maxHeartbeats 2000000
theorem pV:rD 0=.sl false 1 []:=by unfold rD;rw[Gf];rfl
theorem Tm {H:Hp}{K g T:Nat}{l:List Nat}{N:Nat}(hl:l.length=N)(he:Hp.get H K=some ⟨K,g,T,1,l.map Aa⟩:=by exact rfl):Fz H [] (.osl K g 1 0 N) (.sl false 1 (l.map Aa)):=by
 subst hl;have key:∀(j:Nat) (d d':D),(l.map Aa)[0+j]?=some d->(l.map Aa)[j]?=some d'->d=d':=λj d d' h1 h2=>by
  rw[BU]at h1;rw[h1]at h2;exact F3 h2
 refine .osl (e:=⟨K,g,T,1,l.map Aa⟩) he rfl rfl rfl (by simp) (by simp) (λj d d' h1 h2=>by rw[key j d d' h1 h2]) λj d d' q c c' h1 h2 h3 h4=>?_
 rw[key j d d' h1 h2]at h3;rw[h3]at h4;cases h4;exact Fz.refl _
theorem kn (a b:Nat)(hab:a<b)(ha:(AY a).length<1000000)(hb:(AY b).length<1000000):AI C0 157 [rD a,rD b] (.tup [rD (a/b),rD (a%b)]):=by
 rw[HL hab,Dd hab,pV];refine Ag.walk w1 UO rfl λF=>?_
 have cc:=Re a b (by omega) (by omega);have e1:=Yx hab;refine sR 0 ?_;refine AC.seq ?_;refine sR 100 ?_;refine cI cc ?_;rw[e1];refine AM ?_;refine sR 200 ?_;refine Ah ?_;exact⟨_,ay (.nil 1) (.refl _),YE (.sl λe he=>by cases he) (OL _),rfl⟩
theorem my (a b:Nat)(hab:b<=a)(ha:(AY a).length<1000000)(hb:(AY b).length=1)(hb0:b≠0):AI C0 157 [rD a,rD b] (.tup [rD (a/b),rD (a%b)]):=by
 have cc:=Re a b (by omega) (by omega);have e1:=Qb hab;have hbl:b<RB:=by
  have:=Ik b
  rw[hb,Nat.pow_one]at this;exact this
 have hlb:(AY b)[0]?=some b:=by rw[Pq hb0 hbl];rfl
 have hb':=Dp hlb;have cd:=WV a b (D3 hb0) hbl ha;have e3:(((((AY b).map Aa).length:Nat):Int)==1)=true:=by rw[Ak,hb];rfl
 have hml:a%b<RB:=Fv (B1 _ (D3 hb0)) hbl;have hv:AO [a%b]=a%b:=by simp[AO]
 refine Ag.walk w1 UO rfl λF=>?_
 generalize a/b=q at*;generalize a%b=r at*;unfold rD rL at cc cd⊢;change AC C0 F none F _ _ (RZ X1.tt _ (· = .tup [rD q,rD r]));generalize AY a=la at*;generalize AY b=lb at*;refine sR 0 ?_;refine AC.seq ?_;refine sR 100 ?_;refine cI cc ?_;rw[e1];refine AM ?_;refine An ?_;refine AC.seq ?_;refine sZ 300 ?_;refine AT e3 ?_;refine AM ?_;refine sZ 400 ?_;refine AD kN ?_;refine Bq kT hb' ?_;refine AD kN ?_;refine BD.same _ cd AJ ?_;refine BN ?_;refine sR 500 ?_;have hrl:Rd [r]:=λa ha=>by
  simp only[A8,DW,or_false]at ha;subst ha;exact hml
 refine BD.pure [rL [r]] _ ⟨.nn true 1 _,trivial⟩ (Lj [r] hrl (by simp)) AJ ?_;refine BN ?_;refine Ah ?_;exact AL (by rw[hv];rfl) AA.out
theorem xY {H:Hp}{d1 d2 d3 e1 e2 e3:D}(h1:DP H d1 e1)(h2:DP H d2 e2)(h3:DP H d3 e3):∀(i:Nat) (a b:D),[d1,d2,d3][i]?=some a->[e1,e2,e3][i]?=some b->DP H a b
 | 0,_,_,ha,hb=>by cases ha;cases hb;exact h1
 | 1,_,_,ha,hb=>by cases ha;cases hb;exact h2
 | 2,_,_,ha,hb=>by cases ha;cases hb;exact h3
 |_+3,_,_,ha,_=>by cases ha
theorem iY {P v:List Nat}(d:D)(h:X3 P v d):Jl d:=by
 obtain⟨q,rfl,_⟩:=h;exact Jl.prim _
theorem pt {v N Pn:List Nat}{t i c z x:Nat}(hz:N[i]?=some z)(hx:v[i]?=some x)(ht:t<RB)(hxl:x<RB)(hc:c<=RB)(hzl:z<RB)(hI:AO N+t*AO (v.take i)=AO Pn+RB^i*c):
  ∃(p x' lo hi d c':Nat) (e:Int),IntKind.i64.wrap ((t:Int)*(x:Int))=(p:Int)/\IntKind.i64.wrap ((p:Int)+(c:Int))=(x':Int)/\((x':Int)).tmod 1000000000=(lo:Int) /\
  IntKind.i64.wrap (((x':Int)).tdiv 1000000000)=(hi:Int)/\IntKind.i64.wrap ((z:Int)-(lo:Int))=e/\d<RB/\c'<=RB/\AO (N.set i d)+t*AO (v.take (i+1))=AO Pn+RB^(i+1)*c' /\
  ((decide (e<0)=false/\e=(d:Int)/\hi=c')\/(decide (e<0)=true/\IntKind.i64.wrap (e+1000000000)=(d:Int)/\IntKind.i64.wrap ((hi:Int)+1)=(c':Int))):=by
 obtain⟨p,lo,hi,x',d,c',k1,k2,k3,k4,k5,k6,k7,k8,k9⟩:=nB ht hxl hc hzl;have J:=gQ (b:=0) (c':=0) (lo:=t*x+c) (b':=c') (d:=d) (A:=N) (P:=Pn) (v:=v) (q:=t) hz hx hI rfl (by rw[<-k8];exact EX d (t*x) c ▸ rfl);refine⟨p,x',lo,hi,d,c',_,k1,k2,k3,k4,k5,k6,k7,by rw[J,BU],?_⟩;rcases k9 with⟨h1,h2⟩|⟨h1,h2,h3,h4⟩
 ·exact .inl ⟨Ac (by rw[h2];exact Int.not_lt.2 (Int.natCast_nonneg d)),h2,h1.symm⟩
 ·exact .inr ⟨AX h2,h3,by rw[h1];exact h4⟩
theorem pY {v N Nb:List Nat}{i c z x:Nat}(hz:N[i]?=some z)(hx:v[i]?=some x)(hxl:x<RB)(hc:c<=1)(hzl:z<RB)(hI:AO N+RB^i*c=AO Nb+AO (v.take i)):
  ∃(p s d c':Nat),IntKind.i64.wrap ((z:Int)+(x:Int))=(p:Int)/\IntKind.i64.wrap ((p:Int)+(c:Int))=(s:Int)/\((s:Int)).tmod 1000000000=(d:Int) /\
  IntKind.i64.wrap (((s:Int)).tdiv 1000000000)=(c':Int)/\d<RB/\c'<=1/\AO (N.set i d)+RB^(i+1)*c'=AO Nb+AO (v.take (i+1)):=by
 obtain⟨p,s,d,c',k1,k2,k3,k4,k5,k6,rfl,rfl⟩:=mn hzl hxl hc;exact⟨p,s,_,_,k1,k2,k3,k4,k5,k6,gP hz hx hI⟩
theorem jK {U:List Nat}{k:Nat}(h:AO U<RB^k)(hk:k<=U.length):AO (U.take k)=AO U:=by
 have e:AO U=AO (U.take k)+RB^k*AO (U.drop k):=by
  conv=>lhs;rw[<-E2 k U]
  rw[JM,Ba,E8 hk]
 rcases Dk (AO (U.drop k))with h0|h0
 ·rw[h0,EY,DX]at e;exact e.symm
 ·exfalso
  have:=CY (RB^k) h0
  omega
theorem jJ {P v:List Nat}{m p0 p1 p2 v2 v1:Nat}(S:Kc P v m p0 p1 p2 v2 v1):∃Pn,P=Pn++[p2]/\Pn.length=m+2/\Rd Pn/\AO P=AO Pn+RB^(m+2)*p2:=by
 have hl:=S.lP;have e:P=P.take (m+2)++[p2]:=by
  rw[<-FB S.h2,CA (by omega)]
 have hn:(P.take (m+2)).length=m+2:=by rw[Ba];omega
 refine⟨P.take (m+2),e,hn,S.wP.take _,?_⟩
 conv=>lhs;rw[e]
 rw[Gx hn]
theorem bu {P N:List Nat}{m z V:Nat}(hl:N.length=m+2)(hN:Rd N)(hz:z<RB)(hv:AO N+RB^(m+2)*z=AO P%V):(N++[z]).length=m+3/\Rd (N++[z])/\AO (N++[z])=AO P%V:=by
 refine⟨by rw[Bh,hl];rfl,Rd.append hN λa ha=>?_,by rw[Gx hl,hv]⟩;simp only[A8,DW,or_false]at ha;subst ha;exact hz
set_option maxHeartbeats 4000000
theorem ko (a b m:Nat)(hab:b<=a)(ha:(AY a).length<1000000)(hb:(AY b).length=m+2):AI C0 157 [rD a,rD b] (.tup [rD (a/b),rD (a%b)]):=by
 have hlen:=Ij b a hab;have cc:=Re a b (by omega) (by omega);have e1:=Qb hab;obtain⟨y,hy⟩:=CR (l:=AY b) (i:=m+1) (by omega);have yl:y<RB:=Ea b y (Av hy);obtain⟨f,ef,f0,fl,hvl⟩:=xz hb hy;have wf:IntKind.i64.wrap ((1000000000:Int).tdiv ((y+1:Nat):Int))=(f:Int):=by
  rw[ef];exact Oy 1000000000 (y+1) (BQ (Fy _ _) (by decide))
 have wy:IntKind.i64.wrap ((y:Int)+1)=((y+1:Nat):Int):=wI (by omega) (by unfold RB at yl;omega);have lf:AY f=[f]:=Pq (Nat.pos_iff_ne_zero.1 f0) fl;have cv:=U5 b f (by omega) (by rw[lf];exact(by decide:1<1000000));have cu:=U5 a f (by omega) (by rw[lf];exact(by decide:1<1000000));have hu1:=Sf a f;have hu2:=Ij a (a*f) (Nat.le_mul_of_pos_right _ f0);rw[lf]at hu1;change _<=_+1 at hu1;obtain⟨v,hv⟩:∃v,v=AY (b*f):=⟨_,rfl⟩
 have wv:Rd v:=by rw[hv];exact Ea _
 have vv:AO v=b*f:=by rw[hv];exact D5 _
 rw[<-hv]at hvl;obtain⟨U0,hU0⟩:∃U0,U0=AY (a*f):=⟨_,rfl⟩
 have wU0:Rd U0:=by rw[hU0];exact Ea _
 have vU0:AO U0=a*f:=by rw[hU0];exact D5 _
 rw[<-hU0]at hu1 hu2;obtain⟨v1,h1⟩:=CR (l:=v) (i:=m+1) (by omega);obtain⟨v2,h2⟩:=CR (l:=v) (i:=m) (by omega);have v10:v1≠0:=Pr (b*f) (by rw[<-hv];exact hvl) (by rw[<-hv];exact h1);have b0:0<b:=by
  refine D3 λh=>?_
  subst h;rw[Gf]at hb;cases hb
 have vpos:0<AO v:=by rw[vv];exact HS b0 f0
 have hup:=Ik a;have hbge:=Ss hb;unfold rD rL at cc cv cu;rw[lf,<-hv]at cv;rw[lf,<-hU0]at cu;refine Ag.walk w1 UO rfl λF=>?_
 change AC C0 F none F _ ⟨DK 0 [.sl false 1 ((AY a).map Aa),.sl false 1 ((AY b).map Aa)],[],0⟩ _;generalize AY a=la at*;generalize AY b=lb at*;obtain⟨lq,hlq⟩:∃lq,la.length=lq+(m+2):=⟨la.length-(m+2),by omega⟩
 have hy':=Dp hy;have e3:((((lb.map Aa).length:Nat):Int)==1)=false:=by rw[Ak,hb];exact Bs.2 (by omega)
 have elb:(((lb.map Aa).length:Nat):Int)=((m+2:Nat):Int):=by rw[Ak,hb]
 have wlb0:IntKind.i64.wrap (((m+2:Nat):Int)-1)=((m+1:Nat):Int):=by rw[wI (by omega) (by omega)];omega
 have wlb:IntKind.i64.wrap ((((lb.map Aa).length:Nat):Int)-1)=((m+1:Nat):Int):=by rw[elb];exact wlb0
 have ea:(((la.map Aa).length:Nat):Int)=(la.length:Int):=by rw[Ak]
 have ev:(((v.map Aa).length:Nat):Int)=((m+2:Nat):Int):=by rw[Ak,hvl]
 have eu:(((U0.map Aa).length:Nat):Int)=(U0.length:Int):=by rw[Ak]
 have wa1:IntKind.i64.wrap ((la.length:Int)+1)=((la.length+1:Nat):Int):=wI (by omega) (by omega);have wq0:IntKind.i64.wrap (((la.length+1:Nat):Int)-((m+2:Nat):Int))=((lq+1:Nat):Int):=by rw[wI (by omega) (by omega)];omega
 have wq1:IntKind.i64.wrap (((lq+1:Nat):Int)-1)=((lq+1:Nat):Int)-1:=wI (by omega) (by omega);have wraw:IntKind.i64.wrap (IntKind.i64.wrap (((la.length+1:Nat):Int)-((m+2:Nat):Int))-1)=((lq+1:Nat):Int)-1:=by rw[wq0,wq1]
 have r3:List.replicate (lq+1) (ofV (.int .i64 0))=(List.replicate (lq+1) 0).map Aa:=by rw[Jw];rfl
 refine sR 0 ?_;refine AC.seq ?_;refine sR 100 ?_;refine cI cc ?_;rw[e1];refine AM ?_;refine An ?_;refine AC.seq ?_;refine sZ 300 ?_;refine AT e3 ?_;refine AM ?_;refine An ?_;refine sZ 600 ?_;refine AD (BW wlb elb wlb0 kN) ?_;refine Bq kT hy' ?_;refine AD (As wy wf kN) ?_;refine sR 700 ?_;refine BD.pure [rL lb,rL [f]] _ ⟨.refl _,.nn true 1 _,trivial⟩ cv AJ ?_;refine BN ?_;refine sZ 800 ?_;refine AT ev ?_;clear cc e1 e3 elb wlb wlb0 hy' yl hy wy wf hb;refine Cw (α:=Nat×Nat) (λp=>⟨[(0,.sl false 1 (la.map Aa)),(8,.sl true 1 [Aa f]),(9,.sl false 1 (v.map Aa)),(10,i64 ((m+2:Nat):Int)),(11,.osl 904 p.1 1 0 U0.length)],[⟨904,p.1,3,1,U0.map Aa⟩],p.2⟩) (λ_=>True) ?_ ?_
 ·refine rI 900 ?_
  refine BD.pure [rL la,rL [f]] _ ⟨.refl _,.nn true 1 _,trivial⟩ cu AJ ?_;refine BN ?_;exact⟨rfl,⟨_,_⟩,trivial,AK⟩
 rintro⟨g,n2⟩ -;dsimp only;refine Cw (α:=Nat×Nat×List Nat×Nat) (λp=>⟨[(0,.sl false 1 (la.map Aa)),(8,.sl true 1 [Aa f]),(9,.sl false 1 (v.map Aa)),(10,i64 ((m+2:Nat):Int)),(11,.osl p.1 p.2.1 1 0 (la.length+1))],[⟨p.1,p.2.1,3,1,p.2.2.1.map Aa⟩],p.2.2.2⟩) (λp=>p.2.2.1.length=la.length+1/\Rd p.2.2.1/\AO p.2.2.1=a*f) ?_ ?_
 ·refine AC.block ?_
  rcases Nat.eq_or_lt_of_le hu1 with hl|hl
  ·have eN:decide (((la.length+1:Nat):Int)<((la.length+1:Nat):Int))=false:=Ac (by omega)
   rw[hl];refine GT (α:=Nat) (λn=>⟨[(0,.sl false 1 (la.map Aa)),(8,.sl true 1 [Aa f]),(9,.sl false 1 (v.map Aa)),(10,i64 ((m+2:Nat):Int)),(11,.osl 904 g 1 0 (la.length+1))],[⟨904,g,3,1,U0.map Aa⟩],n⟩) (λ_=>0) (λ_ F'=>F'=F) n2 rfl AK ?_;rintro n3 F' rfl;refine AC.seq ?_;refine sZ 1000 ?_;refine AT (As ea wa1 eN) ?_;refine AM ?_;refine B6 ?_;exact⟨rfl,⟨904,g,U0,_⟩,⟨hl,wU0,vU0⟩,AK⟩
  ·have hl2:U0.length=la.length:=by omega
   have eN:decide (((la.length+1:Nat):Int)<((la.length+1:Nat):Int))=false:=Ac (by omega);have eY:decide ((la.length:Int)<((la.length+1:Nat):Int))=true:=AX (by omega);have hap:List.take la.length (U0.map Aa)++[D.prim (Value.int IntKind.i64 0)]=(U0++[0]).map Aa:=by
    rw[CA (by rw[Ak];omega),DA];rfl
   rw[hl2];refine GT (α:=Bool×Nat×Nat) (λp=>match p with
    |(false,_,n)=>⟨[(0,.sl false 1 (la.map Aa)),(8,.sl true 1 [Aa f]),(9,.sl false 1 (v.map Aa)),(10,i64 ((m+2:Nat):Int)),(11,.osl 904 g 1 0 la.length)],[⟨904,g,3,1,U0.map Aa⟩],n⟩
    |(true,g1,n)=>⟨[(0,.sl false 1 (la.map Aa)),(8,.sl true 1 [Aa f]),(9,.sl false 1 (v.map Aa)),(10,i64 ((m+2:Nat):Int)),(11,.osl 1102 g1 1 0 (la.length+1))],[⟨1102,g1,3,1,(U0++[0]).map Aa⟩],n⟩) (λp=>cond p.1 0 1) (λ_ F'=>F'=F) (false,0,n2) rfl AK ?_
   rintro⟨_|_,g1,n3⟩ F' rfl
   ·dsimp only
    refine AC.seq ?_;refine sZ 1000 ?_;refine AT (As ea wa1 eY) ?_;refine AM ?_;refine An ?_;refine AC.block ?_;refine rI 1100 ?_;refine⟨(true,n3+8,n3+10),rfl,(by decide:(0:Nat)<1),?_⟩;dsimp only;rw[hap];exact AK
   ·dsimp only
    refine AC.seq ?_;refine sZ 1000 ?_;refine AT (As ea wa1 eN) ?_;refine AM ?_;refine B6 ?_;refine⟨rfl,⟨1102,g1,U0++[0],_⟩,⟨by rw[Bh,hl2];rfl,Rd.append wU0 λa ha=>?_,by rw[T6];exact vU0⟩,AK⟩;simp only[A8,DW,or_false]at ha;subst ha;decide
 rintro⟨K,gK,U1,n3⟩ ⟨lU1,wU1,vU1⟩;dsimp only at lU1 wU1 vU1⊢;refine yz [(8,.sl true 1 [Aa f]),(9,.sl false 1 (v.map Aa)),(10,i64 ((m+2:Nat):Int)),(11,.osl 1102 n3 1 0 (la.length+1))] ⟨.inl rfl,.inl rfl,.inl rfl,.inr ⟨_,_,_,rfl,rfl⟩,trivial⟩ ?_;clear cu hU0 vU0 wU0 hu1 hu2 cv;refine Cw (α:=Nat×Nat) (λp=>⟨[(8,.sl true 1 [Aa f]),(9,.sl false 1 (v.map Aa)),(10,i64 ((m+2:Nat):Int)),(11,.osl 1102 n3 1 0 (la.length+1)),(12,.osl 1204 p.1 1 0 (lq+1))],[⟨1204,p.1,3,1,(List.replicate (lq+1) 0).map Aa⟩,⟨1102,n3,3,1,U1.map Aa⟩],p.2⟩) (λ_=>True) ?_ ?_
 ·refine Ao w1 1200 (by kernel_rfl) ?_
  refine AT (As wq0 kN r3) ?_;exact⟨trivial,⟨_,_⟩,trivial,by rw[<-r3];exact AK⟩
 rintro⟨g,n2⟩ -;dsimp only;have I0:L2 (a*f) v U1 (List.replicate (lq+1) 0) (la.length+1) (lq+1) (lq+1):=by
  refine jL f0 vU1 vv wU1 lU1 rfl (Af _) ?_
  have:RB^(lq+1)*RB^(m+1)<=RB^(lq+1)*b:=CY _ hbge
  rw[<-Fw,show lq+1+(m+1)=la.length by omega]at this;omega
 clear hup hbge;refine AC.seq ?_;refine sZ 1300 ?_;refine AT wraw ?_;refine AC.block ?_;refine AC.loop (α:=Nat×List Nat×List Nat×Nat) (λp=>⟨[(8,.sl true 1 [Aa f]),(9,.sl false 1 (v.map Aa)),(10,i64 ((m+2:Nat):Int)),(11,.osl 1102 n3 1 0 (la.length+1)),(12,.osl 1204 g 1 0 (lq+1)),(13,i64 ((p.1:Int)-1))],[⟨1204,g,3,1,p.2.2.1.map Aa⟩,⟨1102,n3,3,1,p.2.1.map Aa⟩],p.2.2.2⟩) (λp=>p.1)
  (λp=>p.1<=lq+1/\L2 (a*f) v p.2.1 p.2.2.1 (la.length+1) (lq+1) p.1) (lq+1,U1,List.replicate (lq+1) 0,_) ⟨Af _,I0⟩ AK ?_
 rintro⟨k,u,q,n4⟩ F ⟨hk,I⟩;dsimp only at hk I⊢;clear I0 wq0 wq1 wraw r3 ea eu wU1 vU1 lU1;refine AC.seq ?_;refine sR 1400 ?_;refine AM ?_
 (refine Bw (λh20=>?_) (λh20=>?_))<;>(try simp only[Bi,Bu]at h20)<;>(try simp only[h20])
 ·obtain⟨j,rfl⟩:∃j,k=j+1:=⟨k-1,by
   have:(k:Int)-1>=0:=by simpa using h20
   omega⟩
  have wj:((j+1:Nat):Int)-1=(j:Int):=by omega
  obtain⟨p0,p1,p2,SI,hz,hP⟩:=jI I hvl wv v1 v2 h2 h1 (D3 v10) (by omega);have lu:=I.lU;have cg:=o9 u v j m p0 p1 p2 v2 v1 SI (by omega) (by omega);rw[wj];refine An ?_;refine AC.seq ?_;refine AC.block ?_;refine sR 1600 ?_;refine BD.own _ (zV cg rfl (xY (DP.of (Tm lu)) (DP.of (.refl _)) (DP.of (.refl _))) AJ iY) ?_;rintro d H' n5 ⟨⟨t,rfl,ht1,ht2,ht3⟩,rfl,rfl⟩;refine BN ?_;obtain⟨Pn,eP,lPn,wPn,vPn⟩:=jJ SI;have hA:(u.take j).length=j:=by rw[Ba];omega
  have p2l:=SI.p2l;have hdl:AO ((u.drop j).take (m+3))/AO v<RB:=E3 SI.less;have hU:u.map Aa=blk (u.take j) Pn (p2:Int) (u.drop (j+(m+3))):=by rw[Ty,<-eP,<-fE]
  have J:=λP' h1 h2 h3=>io (P':=P') I vpos (by omega) (by omega) hz hP h1 h2 h3 hdl
  obtain⟨zq,hzq⟩:=CR (l:=q) (i:=j) (by rw[I.lQ];omega);have hzq':=Dp hzq;have wi':IntKind.i64.wrap ((j:Int)-1)=(j:Int)-1:=wI (by omega) (by omega);have wjn:IntKind.i64.wrap ((j:Int)+((m+2:Nat):Int))=((j+(m+2):Nat):Int):=by rw[wI (by omega) (by omega)];omega
  have hVW:=F9 wv;rw[show v.length=m+2 from hvl]at hVW;rw[hU];clear hU cg hP hz SI eP h20 wj I h1 h2 v10;generalize(u.drop j).take (m+3)=P at*;generalize u.take j=A at*;generalize u.drop (j+(m+3))=Z at*;refine sR 1700 ?_;refine AC.seq ?_;refine sR 1800 ?_;refine AC.block ?_;refine AC.loop (α:=Nat×Nat×List Nat×Nat) (λp=>⟨[(8,.sl true 1 [Aa f]),(9,.sl false 1 (v.map Aa)),(10,i64 ((m+2:Nat):Int)),(11,.osl 1102 n3 1 0 (la.length+1)),(12,.osl 1204 g 1 0 (lq+1)),(13,i64 (j:Int)),(14,Aa t),(15,Aa p.2.1),(16,i64 p.1)],[⟨1204,g,3,1,q.map Aa⟩,⟨1102,n3,3,1,blk A p.2.2.1 (p2:Int) Z⟩],p.2.2.2⟩) (λp=>m+2-p.1)
   (λp=>p.1<=m+2/\p.2.1<=RB/\p.2.2.1.length=m+2/\Rd p.2.2.1/\AO p.2.2.1+t*AO (v.take p.1)=AO Pn+RB^p.1*p.2.1) (0,0,Pn,_) ⟨BS _,BS _,lPn,wPn,by simp[AO]⟩ AK ?_
  rintro⟨i,c,N,n6⟩ F ⟨hi,hc,hNl,hNw,hI⟩;dsimp only at hi hc hNl hNw hI⊢;refine AC.seq ?_;refine sR 1900 ?_;refine AM ?_
  (refine Bw (λhlt=>?_) (λhlt=>?_))<;>(try simp only[Bi,Bu]at hlt)<;>(try simp only[hlt])
  ·have hi2:i<m+2:=by
    have:=Cz hlt
    omega
   obtain⟨x,hx⟩:=CR (l:=v) (i:=i) (by omega);have hx':=Dp hx;have hxl:x<RB:=wv x (Av hx);obtain⟨z,hz⟩:=CR (l:=N) (i:=i) (by omega);have hzl:=hNw z (Av hz);have hz':=Zq (A:=A) (Z:=Z) (top:=(p2:Int)) hz;rw[hA]at hz';obtain⟨p,x',lo,hi',d,c',e,k1,k2,k3,k4,k5,dl,cl,hI',hb⟩:=pt hz hx ht1 hxl hc hzl hI;have hset:(blk A N (p2:Int) Z).set (j+i) (Aa d)=blk A (N.set i d) (p2:Int) Z:=by
    have:=Yk (A:=A) (Z:=Z) (top:=(p2:Int)) (i:=i) (d:=d) (N:=N) (by omega)
    rwa [hA]at this
   have wij:IntKind.i64.wrap ((i:Int)+(j:Int))=((j+i:Nat):Int):=by rw[wI (by omega) (by omega)];omega
   have wi:IntKind.i64.wrap ((i:Int)+1)=((i+1:Nat):Int):=wI (by omega) (by omega);clear hI J hVW vPn ht2 ht3 hdl;refine An ?_;refine AC.seq ?_;refine AC.block ?_;refine sZ 2100 ?_;refine AD kN ?_;refine Bq kT hx' ?_;refine AD (As kN k1 k2) ?_;refine sZ 2200 ?_;refine AD (EM wij kN BU hz' k3 k5) ?_;refine sZ 2300 ?_;refine AT k4 ?_;rcases hb with⟨b1,b2,b3⟩|⟨b1,b2,b3⟩
   ·refine AC.seq ?_
    refine sZ 2400 ?_;refine AT b1 ?_;refine AM ?_;refine An ?_;subst b2 b3;refine Ao w1 2700 (by kernel_rfl) ?_;refine AD (BW wij kN BU hz') ?_;rw[hset];refine Ao w1 2000 (by kernel_rfl) ?_;refine AT wi ?_;exact⟨(i+1,hi',N.set i d,_),⟨hi2,cl,by dsimp only;rw[DE];exact hNl,hNw.set dl,hI'⟩,by dsimp only;omega,AK⟩
   ·refine AC.seq ?_
    refine sZ 2400 ?_;refine AT b1 ?_;refine AM ?_;refine sZ 2500 ?_;refine AT b2 ?_;refine Ao w1 2600 (by kernel_rfl) ?_;refine AT b3 ?_;refine Ao w1 2700 (by kernel_rfl) ?_;refine AD (BW wij kN BU hz') ?_;rw[hset];refine Ao w1 2000 (by kernel_rfl) ?_;refine AT wi ?_;exact⟨(i+1,c',N.set i d,_),⟨hi2,cl,by dsimp only;rw[DE];exact hNl,hNw.set dl,hI'⟩,by dsimp only;omega,AK⟩
  ·have hi2:i=m+2:=by
    have:=DN hlt
    omega
   subst hi2;rw[CA (by omega)]at hI;have hNlt:=F9 hNw;rw[hNl]at hNlt;have htop:=Tz (A:=A) (Z:=Z) (top:=(p2:Int)) hNl;have hstop:=Xj (A:=A) (Z:=Z) (top:=(p2:Int)) (t:=(p2:Int)-(c:Int)) hNl;have htop2:=Tz (A:=A) (Z:=Z) (top:=(p2:Int)-(c:Int)) hNl;rw[hA]at htop hstop htop2;have p2l9:p2<1000000000:=p2l;have hc9:c<=1000000000:=hc;have wzc:IntKind.i64.wrap ((p2:Int)-(c:Int))=(p2:Int)-(c:Int):=wI (by omega) (by omega);refine B6 ?_;refine sZ 2800 ?_;refine AD (CF wjn kN BU htop wzc) ?_;rw[hstop];rcases BG p2 c with h|h
   ·have e29:decide ((p2:Int)-(c:Int)<0)=true:=AX (by omega)
    have ht9:t<1000000000:=ht1;have wt:IntKind.i64.wrap ((t:Int)-1)=(t:Int)-1:=wI (by omega) (by omega);refine AC.seq ?_;refine sZ 2900 ?_;refine AD (CF wjn kN BU htop2 e29) ?_;refine AM ?_;refine sZ 3000 ?_;refine AT wt ?_;refine sR 3100 ?_;refine AC.seq ?_;refine sR 3200 ?_;refine AC.block ?_;refine AC.loop (α:=Nat×Nat×List Nat×Nat) (λp=>⟨[(8,.sl true 1 [Aa f]),(9,.sl false 1 (v.map Aa)),(10,i64 ((m+2:Nat):Int)),(11,.osl 1102 n3 1 0 (la.length+1)),(12,.osl 1204 g 1 0 (lq+1)),(13,i64 (j:Int)),(14,i64 ((t:Int)-1)),(19,Aa p.2.1),(20,i64 p.1)],[⟨1204,g,3,1,q.map Aa⟩,⟨1102,n3,3,1,blk A p.2.2.1 ((p2:Int)-(c:Int)) Z⟩],p.2.2.2⟩) (λp=>m+2-p.1)
     (λp=>p.1<=m+2/\p.2.1<=1/\p.2.2.1.length=m+2/\Rd p.2.2.1/\AO p.2.2.1+RB^p.1*p.2.1=AO N+AO (v.take p.1)) (0,0,N,_) ⟨BS _,BS _,hNl,hNw,by simp[AO]⟩ AK ?_
    rintro⟨i,c2,N2,n7⟩ F ⟨hi,hc2,hNl2,hNw2,hI2⟩;dsimp only at hi hc2 hNl2 hNw2 hI2⊢;clear htop hstop;refine AC.seq ?_;refine sR 3300 ?_;refine AM ?_
    (refine Bw (λhlt2=>?_) (λhlt2=>?_))<;>(try simp only[Bi,Bu]at hlt2)<;>(try simp only[hlt2])
    ·have hi2:i<m+2:=by
      have:=Cz hlt2
      omega
     obtain⟨x,hx⟩:=CR (l:=v) (i:=i) (by omega);have hx':=Dp hx;have hxl:x<RB:=wv x (Av hx);obtain⟨z,hz⟩:=CR (l:=N2) (i:=i) (by omega);have hzl:=hNw2 z (Av hz);have hz':=Zq (A:=A) (Z:=Z) (top:=(p2:Int)-(c:Int)) hz;rw[hA]at hz';obtain⟨p,s,d,c',k1,k2,k3,k4,dl,cl,hI'⟩:=pY hz hx hxl hc2 hzl hI2;have hset:(blk A N2 ((p2:Int)-(c:Int)) Z).set (j+i) (Aa d)=blk A (N2.set i d) ((p2:Int)-(c:Int)) Z:=by
      have:=Yk (A:=A) (Z:=Z) (top:=(p2:Int)-(c:Int)) (i:=i) (d:=d) (N:=N2) (by omega)
      rwa [hA]at this
     have wij:IntKind.i64.wrap ((i:Int)+(j:Int))=((j+i:Nat):Int):=by rw[wI (by omega) (by omega)];omega
     have wi:IntKind.i64.wrap ((i:Int)+1)=((i+1:Nat):Int):=wI (by omega) (by omega);clear hI2 hI J hVW vPn ht2 ht3 hdl;refine An ?_;refine AC.seq ?_;refine AC.block ?_;refine AC.seq ?_;refine B5 w1 3500 [0,1,2,3,4,5,6,7,8,9,10,11] [12,13] (by kernel_rfl) ?_;refine AD (BW wij kN BU hz') ?_;refine Bq kT hx' ?_;refine AD (As kN k1 k2) ?_;refine sZ 3600 ?_;refine AD (CF wij kN BU hz' k3) ?_;rw[hset];refine Ao w1 3700 (by kernel_rfl) ?_;refine AT k4 ?_;refine Ao w1 3400 (by kernel_rfl) ?_;refine AT wi ?_;exact⟨(i+1,c',N2.set i d,_),⟨hi2,cl,by dsimp only;rw[DE];exact hNl2,hNw2.set dl,hI'⟩,by dsimp only;omega,AK⟩
    ·have hi2:i=m+2:=by
      have:=DN hlt2
      omega
     subst hi2;rw[CA (by omega)]at hI2;have hNlt2:=F9 hNw2;rw[hNl2]at hNlt2;obtain⟨t0,g1,g2,g3⟩:=pn hI vPn h hNlt ht3 hI2 hc2 hNlt2 hVW;have htop3:=Tz (A:=A) (Z:=Z) (top:=(p2:Int)-(c:Int)) hNl2;have hstop3:=Xj (A:=A) (Z:=Z) (top:=(p2:Int)-(c:Int)) (t:=((0:Nat):Int)) hNl2;rw[hA]at htop3 hstop3;have wfin:IntKind.i64.wrap ((p2:Int)-(c:Int)+(c2:Int))=((0:Nat):Int):=by rw[g3];rfl
     have et:(t:Int)-1=((t-1:Nat):Int):=by omega
     obtain⟨f1,f2,f3⟩:=bu (P:=P) (V:=AO v) hNl2 hNw2 (z:=0) (by decide) (by rw[EY,DX];exact g2.symm);have J1:=J _ f1 f2 f3;rw[g1]at J1;refine B6 ?_;refine Ao w1 3800 (by kernel_rfl) ?_;refine AD (CF wjn kN BU htop3 wfin) ?_;rw[hstop3,Ty,et];refine Ao w1 3900 (by kernel_rfl) ?_;refine AD (As kN BU hzq') ?_;rw[My];refine Ao w1 1500 (by kernel_rfl) ?_;refine AT wi' ?_;exact⟨(j,A++((N2++[0])++Z),q.set j (t-1),_),⟨by dsimp only;omega,J1⟩,by dsimp only;omega,AK⟩
   ·have e29:decide ((p2:Int)-(c:Int)<0)=false:=Ac (by omega)
    obtain⟨g1,g2⟩:=pk hI vPn h ht2;have ezc:(p2:Int)-(c:Int)=((p2-c:Nat):Int):=by omega
    obtain⟨f1,f2,f3⟩:=bu hNl hNw (z:=p2-c) (by omega) g2.symm;have J1:=J _ f1 f2 f3;rw[g1]at J1;refine AC.seq ?_;refine sZ 2900 ?_;refine AD (CF wjn kN BU htop2 e29) ?_;refine AM ?_;refine An ?_;rw[ezc,Ty];refine Ao w1 3900 (by kernel_rfl) ?_;refine AD (As kN BU hzq') ?_;rw[My];refine Ao w1 1500 (by kernel_rfl) ?_;refine AT wi' ?_;exact⟨(j,A++((N++[p2-c])++Z),q.set j t,_),⟨by dsimp only;omega,J1⟩,by dsimp only;omega,AK⟩
 ·have hk:k=0:=by
   have:¬((k:Int)-1>=0):=by simpa using h20
   omega
  subst hk;obtain⟨q1,q2⟩:=km f0 I vv;have wu:=I.wU;have wqq:=I.wq;have lu:=I.lU;have lqq:=I.lQ;have hlt:AO u<RB^(m+2):=by
   have:=I.less
   rw[Fd]at this;have h:=F9 wv;rw[show v.length=m+2 from hvl]at h;omega
  have hta:=jK hlt (by omega);have hll:=LB hlt;rw[q2]at hll hta;have ed:a%b*f/f=a%b:=Nat.mul_div_cancel _ f0;have cd:=WV (a%b*f) f f0 fl (by omega);rw[ed]at cd;clear I;refine B6 ?_;refine AC.weak ⟨[(8,.sl true 1 [Aa f]),(10,i64 ((m+2:Nat):Int)),(11,.sl false 1 (u.map Aa)),(12,.sl false 1 (q.map Aa))],[],_⟩ ⟨.drop (.drop .nil),⟨.refl _,.refl _,Tm lu,Tm lqq,trivial⟩,Af _⟩ ?_;have e5:List.take (m+2) (u.map Aa)=(u.take (m+2)).map Aa:=by
   rw[List.map_take]
  have eu2:(u.map Aa).length=la.length+1:=by rw[Ak];omega
  have ct:=Lj (u.take (m+2)) (wu.take _) (by rw[Ba];omega);rw[hta]at ct;refine AC.seq ?_;refine B5 w1 4000 [0,1,2,3,4,5,6,7,8,9,10,11] [12] (by kernel_rfl) ?_;refine AD (BW kN Nat.sub_zero (@Fd D) e5) ?_;refine BX.same _ ct AJ ?_;have hf0:([Aa f]:List D)[0]?=some (Aa f):=rfl;refine AD kN ?_;refine Bq kT hf0 ?_;refine AD kN ?_;refine BX.same _ cd AJ ?_;refine AD kN ?_;refine sR 4100 ?_;refine BD.same _ (Lj q wqq (by omega)) AJ ?_;refine BN ?_;refine Ah ?_;exact AL (by rw[q1]) AA.out
theorem VW (a b:Nat)(hb:b≠0)(ha:(AY a).length<1000000)(hbl:(AY b).length<1000000):AI C0 157 [rD a,rD b] (.tup [rD (a/b),rD (a%b)]):=by
 rcases BG a b with h|h
 ·exact kn a b h ha hbl
 ·rcases hl:(AY b).length with _|m
  ·have:=Ik b
   rw[hl]at this;simp at this;exact Ae this hb
  ·rcases m with _|m
   ·exact my a b h ha hl hb
   ·exact ko a b m h ha hl
abbrev rZ (z:Int):D:=.agg [Aq (decide (z<0)),rD z.natAbs]
def sg (neg:Bool)(n:Nat):Int:=if neg then -(n:Int)else n
theorem lc {n:Nat}:0<(AY n).length↔n≠0:=by
 constructor
 ·rintro h rfl
  rw[Gf]at h;cases h
 ·intro h
  rw[Im h,Bo];exact Nat.succ_pos _
theorem Xc (n:Nat):decide (((((AY n).map Aa).length:Nat):Int)>0)=decide (n≠0):=by
 have:=@lc n
 rw[Ak];exact C4.2 ⟨λh=>this.1 (by omega),λh=>by have:=this.2 h;omega⟩
theorem xb (neg:Bool)(n:Nat):rZ (sg neg n)=.agg [Aq (neg&&decide (n≠0)),rD n]:=by
 unfold rZ sg;cases neg
 ·simp only[Hx,if_false,HR,EQ]
  rw[Ac (by omega)]
 ·simp only[if_true,GY,MB,EQ]
  congr 3
  exact C4.2 (by omega)
theorem RA (z:Int):sg (decide (z<0)) z.natAbs=z:=by
 unfold sg
 by_cases h:z<0
 ·rw[AX h,AG rfl];omega
 ·rw[Ac h,AF (by decide)];omega
theorem Uj (b:Bool)(n:Nat):B4 (.agg [Aq b,.sl false 1 ((AY n).map Aa)]):=.agg λd hd=>by
 simp only[A8,DW,or_false]at hd;rcases hd with rfl|rfl
 ·exact .prim _
 ·exact OL _
def Gp (z:Int):Prop:=(AY z.natAbs).length<1000000
instance  (b:Bool)(n:Nat):AA (.agg [Aq b,rD n]):=⟨Uj b n⟩
theorem Xo (a b:Nat)(fa:(AY a).length<1000000)(fb:(AY b).length<1000000):AI C0 117 [rD a,rD b] (rD (Nat.gcd a b)):=by
 refine Ag.walk w1 qj rfl λF=>?_
 change AC C0 F none F _ ⟨DK 0 [.sl false 1 ((AY a).map Aa),.sl false 1 ((AY b).map Aa)],[],0⟩ _;refine sR 0 ?_;refine AC.seq ?_;refine AC.block ?_;refine AC.loop (α:=Nat×Nat×Nat) (λp=>⟨[(0,.sl false 1 ((AY p.1).map Aa)),(1,.sl false 1 ((AY p.2.1).map Aa))],[],p.2.2⟩) (λp=>p.2.1)
  (λp=>Nat.gcd p.1 p.2.1=Nat.gcd a b/\(AY p.1).length<1000000/\(AY p.2.1).length<1000000) (a,b,_) ⟨rfl,fa,fb⟩ AK ?_
 rintro⟨x,y,n⟩ F ⟨h1,h2,h3⟩;dsimp only at h1 h2 h3⊢;have et:=Xc y;refine AC.seq ?_;refine sZ 100 ?_;refine AT et ?_
 by_cases hy:y=0
 ·rw[Ac (by simpa using hy)]
  subst hy;refine AM ?_;refine B6 ?_;refine sR 400 ?_;refine Ah ?_;refine AL (d0:=rD x) ?_ AA.out;rw[<-h1,Nat.gcd_zero_right]
 ·rw[AX hy]
  have cd:=VW x y hy h2 h3;refine AM ?_;refine An ?_;refine AC.block ?_;refine sR 200 ?_;refine cI cd ?_;refine rI 300 ?_;refine⟨(y,x%y,_),⟨?_,h3,?_⟩,B1 x (by omega),AK⟩
  ·dsimp only
   rw[<-h1,NU x y,Nat.gcd_rec y x,NU]
  ·exact DY (Ij _ _ (Nat.mod_le x y)) h2
theorem YV (neg:Bool)(l:List Nat)(h:Rd l)(hl:l.length<1000000000):AI C0 211 [Aq neg,rL l] (rZ (sg neg (AO l))):=by
 refine Ag.walk w1 bX rfl λF=>?_
 rw[xb];have ct:=Lj l h (by omega);generalize AO l=n at*;have et:=Xc n;unfold rD at ct⊢;unfold rL at ct⊢;refine sR 0 ?_;refine sR 100 ?_;refine cI ct ?_;refine AC.seq ?_;cases neg
 ·refine Ao w1 200 (by kernel_rfl) ?_
  refine AD et ?_;refine Ah ?_;exact AL (by simp) (Uj _ n)
 ·refine Ao w1 200 (by kernel_rfl) ?_
  refine AD et ?_;refine Ah ?_;exact AL (by simp) (Uj _ n)
theorem LS (neg:Bool)(n:Nat)(h:(AY n).length<1000000000):AI C0 211 [Aq neg,rD n] (rZ (sg neg n)):=by
 have:=YV neg (AY n) (Ea n) h
 rwa [D5]at this
theorem Y8 (z:Int)(h:Gp z):AI C0 219 [rZ z] (rZ (-z)):=by
 have cs:=LS (!decide (z<0)) z.natAbs (Fv h (by decide));have e:rZ (sg (!decide (z<0)) z.natAbs)=rZ (-z):=by
  congr 1
  unfold sg
  by_cases hz:z<0
  ·rw[AX hz];simp;omega
  ·rw[Ac hz];simp;omega
 rw[e]at cs;refine Ag.walk w1 sx rfl λF=>?_
 refine sR 0 ?_;refine sR 100 ?_;refine cI cs ?_;refine Ah ?_;exact AL rfl AA.out
theorem UE (x y:Int)(hx:Gp x)(hy:Gp y):AI C0 162 [rZ x,rZ y] (rZ (x*y)):=by
 have cm:=U5 x.natAbs y.natAbs hx hy;have hl:(AY (x.natAbs*y.natAbs)).length<1000000000:=DY (Sf _ _) (by unfold Gp at hx hy;omega);have cs:=λb=>LS b (x.natAbs*y.natAbs) hl
 have e:sg (decide (x<0) != decide (y<0)) (x.natAbs*y.natAbs)=x*y:=by
  conv=>rhs;rw[<-RA x,<-RA y]
  generalize decide (x<0)=a;generalize decide (y<0)=b;unfold sg;cases a<;>cases b<;>simp[Int.neg_mul,Int.mul_neg]
 rw[<-e];refine Ag.walk w1 rJ rfl λF=>?_
 refine sR 0 ?_;refine AC.seq ?_;refine B5 w1 100 [0,1,2,3,4,5,6,7,8,9] [10,11] (by kernel_rfl) ?_;refine AD kN ?_;refine BX.same _ cm AJ ?_;refine AD kN ?_;refine BD.same _ (cs _) AJ ?_;refine BN ?_;refine Ah ?_;exact AL rfl AA.out
theorem lJ {a b:Nat}(h:b<=a):decide (Dx (a:Int) (b:Int)>=0)=true:=AX (by unfold Dx;split<;>(try split)<;>omega)
theorem lK {a b:Nat}(h:a<b):decide (Dx (a:Int) (b:Int)>=0)=false:=Ac (by unfold Dx;split<;>(try split)<;>omega)
theorem vC (x y:Int)(hx:Gp x)(hy:Gp y):AI C0 161 [rZ x,rZ y] (rZ (x+y)):=by
 refine Ag.walk w1 rH rfl λF=>?_
 unfold Gp at hx hy;cases hs:(decide (x<0)==decide (y<0))
 ·have hs':decide (x<0)≠decide (y<0):=by simpa using hs
  have hs2:(x<0/\¬y<0)\/(¬x<0/\y<0):=by
   by_cases h1:x<0<;>by_cases h2:y<0<;>simp_all
  have cc:=Re x.natAbs y.natAbs (by omega) (by omega);refine sR 0 ?_;refine AC.seq ?_;refine sZ 100 ?_;refine AT hs ?_;refine AM ?_;refine An ?_;refine AC.seq ?_;refine sR 300 ?_;refine cI cc ?_;rcases BG x.natAbs y.natAbs with h|h
  ·have cb:=eL y.natAbs x.natAbs (J3 h) hy
   have cs:=LS (decide (y<0)) (y.natAbs-x.natAbs) (DY (WH _ _) (by omega));have e:sg (decide (y<0)) (y.natAbs-x.natAbs)=x+y:=by
    unfold sg
    by_cases hy0:y<0
    ·rw[AX hy0,AG rfl];omega
    ·rw[Ac hy0,AF (by decide)];omega
   rw[e]at cs;rw[lK h];refine AM ?_;refine An ?_;refine AC.seq ?_;refine B5 w1 500 [0,1,2,3,4,5,6] [7,8] (by kernel_rfl) ?_;refine AD kN ?_;refine BX.same _ cb AJ ?_;refine AD kN ?_;refine BD.same _ cs AJ ?_;refine BN ?_;refine Ah ?_;exact AL rfl AA.out
  ·have cb:=eL x.natAbs y.natAbs h hx
   have cs:=LS (decide (x<0)) (x.natAbs-y.natAbs) (DY (WH _ _) (by omega));have e:sg (decide (x<0)) (x.natAbs-y.natAbs)=x+y:=by
    unfold sg
    by_cases hx0:x<0
    ·rw[AX hx0,AG rfl];omega
    ·rw[Ac hx0,AF (by decide)];omega
   rw[e]at cs;rw[lJ h];refine AM ?_;refine AC.seq ?_;refine B5 w1 400 [0,1,2,3,4,5,6] [7,8] (by kernel_rfl) ?_;refine AD kN ?_;refine BX.same _ cb AJ ?_;refine AD kN ?_;refine BD.same _ cs AJ ?_;refine BN ?_;refine Ah ?_;exact AL rfl AA.out
 ·have hs':decide (x<0)=decide (y<0):=by simpa using hs
  have ca:=vP x.natAbs y.natAbs hx hy;have cs:=LS (decide (x<0)) (x.natAbs+y.natAbs) (DY (WG _ _) (by omega));have e:sg (decide (x<0)) (x.natAbs+y.natAbs)=x+y:=by
   unfold sg
   by_cases hx0:x<0
   ·have hy0:y<0:=Cz (hs'.symm.trans (AX hx0))
    rw[AX hx0,AG rfl];omega
   ·have hy0:¬y<0:=DN (hs'.symm.trans (Ac hx0))
    rw[Ac hx0,AF (by decide)];omega
  rw[e]at cs;refine sR 0 ?_;refine AC.seq ?_;refine sZ 100 ?_;refine AT hs ?_;refine AM ?_;refine AC.seq ?_;refine B5 w1 200 [0,1,2,3,4,5,6] [7,8] (by kernel_rfl) ?_;refine AD kN ?_;refine BX.same _ ca AJ ?_;refine AD kN ?_;refine BD.same _ cs AJ ?_;refine BN ?_;refine Ah ?_;exact AL rfl AA.out
theorem iL (k m:Nat):Es (k+1) m []=Es k (m/10) []++[UInt8.ofNat (48+m%10)]:=by
 rw[<-WM (k+1) m [] (.inr (Nat.succ_pos k))];unfold Es L8
 by_cases h:m/10=0
 ·rw[AG h,AG h];simp
 ·rw[AF h,AF h]
  rw[C3,Bh,Fu,Nat.add_sub_add_right,DZ]
theorem T1:∀(k hi d:Nat),hi≠0->d<10^k->Lib.decDigits (hi*10^k+d)=Lib.decDigits hi++Es k d []
 | 0,hi,d,_,hd=>by
  have h0:d=0:=by simpa using hd
  subst h0;rw[MD,EC,DX];simp[Es,L8]
 |k+1,hi,d,hh,hd=>by
  have e1:hi*10^(k+1)=10*(hi*10^k):=by rw[CK,<-Bx,BP]
  have h1:1<=10^k:=Nat.pow_pos (by decide);have h2:1<=hi*10^k:=HS (D3 hh) h1;have h3:¬hi*10^(k+1)+d<10:=by omega
  have h4:d/10<10^k:=by rw[CK]at hd;omega
  rw[iL,<-DZ,<-T1 k hi (d/10) hh h4];rw[Lib.decDigits,dif_neg h3,e1]
  congr 2
  ·omega
  ·congr 1;omega
theorem rU (hi d:Nat)(h:hi≠0)(hd:d<RB):Lib.decDigits (d+RB*hi)=Lib.decDigits hi++Es 9 d []:=by
 have:=T1 9 hi d h (CU hd (by decide))
 rw[<-this]
 congr 1
 rw[BP,Kz]
theorem OP {l:List Nat}(h:Rd l):(Lib.decDigits (AO l)).length<=9*l.length+1:=by
 have h1:=F9 h;have e:RB^l.length=10^(9*l.length):=by rw[Nat.pow_mul]
 rw[e]at h1;refine MK _ _ (Fv h1 ?_);exact Nat.pow_lt_pow_right (by decide) (HM _)
theorem ZK (neg:Bool)(n:Nat)(h:neg=true->n≠0):Lib.itoa (sg neg n)=if neg then 45::Lib.decDigits n else Lib.decDigits n:=by
 unfold Lib.itoa sg;cases neg
 ·simp only[Hx,if_false]
  rw[AF (by omega)];rfl
 ·have:=h rfl
  simp only[if_true];rw[AG (by omega),MB];rfl
theorem um (neg:Bool)(n:Nat)(h:neg=true->n≠0)(hl:(AY n).length<1000000):AI C0 220 [.agg [Aq neg,rD n]] (str (sb (Lib.itoa (sg neg n)))):=by
 refine Ag.walk w1 rh rfl λF=>?_
 rw[ZK neg n h];change AC C0 F none F _ ⟨DK 0 [.agg [Aq neg,.sl false 1 ((AY n).map Aa)]],[],0⟩ _;have vn:=D5 n;have wn:=Ea n;have tp:=λk a=>Pr n (k:=k) (a:=a)
 generalize AY n=l at*;subst vn;rcases hc:l.length with _|m
 ·have e0:l=[]:=E5 hc
  subst e0;have hn:neg=false:=by cases neg;rfl;exact Ae rfl (h rfl)
  subst hn;have e1:Lib.decDigits (AO [])=[48]:=by unfold Lib.decDigits AO;rw[dif_pos (by decide)];rfl
  rw[AF (by decide),e1];refine sR 0 ?_;refine AC.seq ?_;refine sR 100 ?_;refine AM ?_;refine sR 200 ?_;refine Ah ?_;exact AL rfl AA.out
 ·obtain⟨y,hy⟩:=CR (l:=l) (i:=m) (by omega)
  have yl:=wn y (Av hy);have y0:=tp m y hc hy;have hy':=Dp hy;have el:(((l.map Aa).length:Nat):Int)=((m+1:Nat):Int):=by rw[Ak,hc]
  have et:(((m+1:Nat):Int)==0)=false:=Bs.2 (by omega);have w0:IntKind.i64.wrap (((m+1:Nat):Int)-1)=(m:Int):=by rw[wI (by omega) (by omega)];omega
  have w2:IntKind.i64.wrap (((m+1:Nat):Int)-2)=(m:Int)-1:=by rw[wI (by omega) (by omega)];omega
  have cd:=Pw y 1 (by unfold RB at yl;omega);rw[Yz]at cd;have wr0:IntKind.i64.wrap ((((l.map Aa).length:Nat):Int)-1)=(m:Int):=by rw[el,w0]
  have ed:l.drop m=[y]:=by
   rw[EK (by omega),HO (by omega)];rw[BE (by omega)]at hy;rw[F3 hy]
  refine sR 0 ?_;refine AC.seq ?_;refine sZ 100 ?_;refine AT (Aj el et) ?_;refine AM ?_;refine An ?_;refine sZ 300 ?_;refine AD (BW el w0 wr0 kN) ?_;refine Bq kT hy' ?_;refine AD kN ?_;refine BD.same _ cd AJ ?_;refine BN ?_;have ev:AO (l.drop m)=y:=by rw[ed];simp[AO]
  refine AC.seq ?_;refine sZ 400 ?_;refine AT (Aj el w2) ?_;refine AC.block ?_;refine AC.loop (α:=Nat×Nat) (λp=>⟨[(1,.optr 0 0 2 0 0),(3,str (sb (Lib.decDigits (AO (l.drop p.1))))),(4,i64 ((p.1:Int)-1))],[⟨0,0,160,2,[.agg [Aq neg,.sl false 1 (l.map Aa)]]⟩],p.2⟩) (λp=>p.1)
   (λp=>p.1<=m/\AO (l.drop p.1)≠0) (m,_) ⟨Af _,by dsimp only;rw[ev];exact y0⟩ (by dsimp only;rw[ev];exact AK) ?_
  rintro⟨k,n1⟩ F ⟨h1,h2⟩;dsimp only at h1 h2⊢;clear cd;refine AC.seq ?_;refine sR 500 ?_;refine AM ?_
  (refine Bw (λh20=>?_) (λh20=>?_))<;>(try simp only[Bi,Bu]at h20)<;>(try simp only[h20])
  ·obtain⟨j,rfl⟩:∃j,k=j+1:=⟨k-1,by
    have:(k:Int)-1>=0:=by simpa using h20
    omega⟩
   have wj:((j+1:Nat):Int)-1=(j:Int):=by omega
   obtain⟨d,hd⟩:=CR (l:=l) (i:=j) (by omega);have hd':=Dp hd;have dl:=wn d (Av hd);have c9:=Pw d 9 (by unfold RB at dl;omega);have eD:Lib.decDigits (AO (l.drop (j+1)))++Es 9 d []=Lib.decDigits (AO (l.drop j)):=by rw[P0 hd,rU _ _ h2 dl]
   have hlen:=OP (l:=l.drop j) λa ha=>wn a (Jv ha)
   rw[<-eD,Bh,Dq]at hlen;have h3:AO (l.drop j)≠0:=by
    rw[P0 hd]
    have:0<RB*AO (l.drop (j+1)):=HS (by decide) (D3 h2)
    omega
   have z1:=Ce (Lib.decDigits (AO (l.drop (j+1))));have z2:=OO (Es 9 d []);have wi:IntKind.i64.wrap ((j:Int)-1)=(j:Int)-1:=wI (by omega) (by omega);rw[wj];refine An ?_;refine AC.seq ?_;refine AC.block ?_;refine Ao w1 700 (by kernel_rfl) ?_;refine AD kN ?_;refine Bq kT hd' ?_;refine AD kN ?_;refine BD.same _ c9 AJ ?_;refine BN ?_;rw[Ix,eD];refine Ao w1 600 (by kernel_rfl) ?_;refine AT wi ?_;exact⟨(j,_),⟨by dsimp only;omega,h3⟩,by dsimp only;omega,AK⟩
  ·have hk:k=0:=by
    have:¬((k:Int)-1>=0):=by simpa using h20
    omega
   subst hk;rw[Fd]at h2⊢;have hlen:=OP wn;have z1:=Ce (Lib.decDigits (AO l));have z2:(⟨#[45]⟩:ByteArray).size=1:=rfl;refine B6 ?_;refine AC.seq ?_;refine AC.seq ?_;cases neg
   ·refine rI 800 ?_
    refine AM ?_;refine An ?_;rw[AF (by decide)];refine sR 1000 ?_;refine Ah ?_;exact AL rfl AA.out
   ·refine rI 800 ?_
    refine AM ?_;rw[AG rfl];refine sR 900 ?_;refine Ah ?_;refine AL ?_ AA.out;show str ((⟨([45]:List UInt8).toArray⟩:ByteArray)++⟨(Lib.decDigits (AO l)).toArray⟩)=_;rw[Ix];rfl
theorem cU (z:Int)(h:Gp z):AI C0 220 [rZ z] (str (sb (Lib.itoa z))):=by
 have:=um (decide (z<0)) z.natAbs (λh=>by have:=Cz h;omega) h
 rwa [RA]at this
theorem PK {C:BC}{f:Nat}{ds ds':List D}{Φ:D->Prop}{H:Hp}{n:Nat}(Hf:Hp)(hc:Ag C f ds' Φ)(hH:Cg H Hf H Hf)(hv:EZ H Hf ds ds')
  (hp:Ai ds'):Cd C f ds H n (λd' H' n'=>Φ d'/\H'=Hf/\n'=n+1):=by
 refine⟨hc.1,λF ρ w vs m hfr hg hvs hr=>?_⟩;obtain⟨m',hO,hN⟩:=hH.mem m;obtain⟨l1,l2⟩:=hv.spec;refine(hc.2 (AN F.X ρ Hf) w vs m.g (BQ m.gn m.size) (λb hb=>m'.own_lt hb) (by omega) λi x hx=>?_).mono ?_
 ·have hi:i<ds'.length:=(List.getElem?_eq_some_iff.1 hx).1
  have hd0:ds[i]?=some ds[i]:=BE (by omega);exact hp.out x (Av hx) _ _ _ _ _ ((l2 i _ x hd0 hx).rep m hO hN (hr i _ hd0))
 ·rintro e w' ⟨v,d',rfl,hb,hd',rep⟩
  have hb2:∀(b:Nat) (cs:Array Value) (T:Nat) (fz:Nat×Nat),w.heap[b]?=some (.cells cs T fz)->∃(cs':Array Value) (fz':Nat×Nat),w'.heap[b]?=some (.cells cs' T fz')/\cs'.size=cs.size:=λb cs T fz hh=>⟨cs,_,by
   rw[hb.block b (Array.getElem?_eq_some_iff.1 hh).1];exact hh,rfl⟩
  have x:BR ρ (AN F.X ρ H) w ρ (AN F.X ρ Hf) w':=⟨hb.size,λ_ _ _ h=>h,λb hb' hO2=>⟨λh=>hO2 (hO b h),hb.block b hb'⟩,hb2⟩
  have x':BR ρ (AN F.X ρ Hf) w ρ (AN F.X ρ Hf) w':=⟨hb.size,λ_ _ _ h=>h,λb hb' hO2=>⟨hO2,hb.block b hb'⟩,hb2⟩
  refine⟨v,_,Hf,n+1,ρ,rfl,⟨hd',rfl,rfl⟩,m'.same x' hb.os hb.tape hb.output hb.block,x,λk g hg'=>hfr k g (by omega),λe he=>?_,rep.mono ⟨Af _,λ_ _ _ h=>(by cases h),λb _ hO2=>⟨hO2,rfl⟩,λb cs T fz h=>⟨cs,_,h,rfl⟩⟩⟩;obtain⟨e',h1,h2,h3,_⟩:=hH.names e he
  have:=hg e' h1
  omega
theorem jO {l:List UInt8}{i:Nat}{c:UInt8}(hc:l[i]?=some c)(hi:i<=BI l):(((c.toNat:Nat):Int)==47)=decide (i=BI l):=by
 have e1:(((c.toNat:Nat):Int)==47)=(c==47):=by
  rw[Fc,EB,EB,<-UInt8.toNat_inj];exact⟨λh=>(show c.toNat=47 by omega),λh=>by rw[h];rfl⟩
 rw[e1];unfold BI at hi⊢;clear e1
 induction l generalizing i with
 |nil=>cases hc
 |cons a l ih=>
  rw[PL]at hi⊢;cases i with
  |zero=>
   cases hc
   by_cases h:c=47
   ·subst h;rfl
   ·have h1:(c != 47)=true:=by simpa using h
    have h2:(c==47)=false:=by simpa using h
    rw[AG h1,h2,Bo,Ac (by omega)]
  |succ i=>
   by_cases h:a=47
   ·subst h
    exact Ae hi (by simp)
   ·have h1:(a != 47)=true:=by simpa using h
    rw[AG h1,Bo]at hi⊢;rw[ih hc (by omega)];exact C4.2 (by omega)
theorem Qi (l:List UInt8)(h:l.all Be=true)(hl:l.length<=18):AI C0 210 [str (sb l)] (i64 (dv l:Int)):=by
 refine Ag.walk w1 sj rfl λF=>?_
 have hsz:=Ce l;refine sR 0 ?_;refine sR 100 ?_;refine AC.seq ?_;refine sR 200 ?_;refine AC.block ?_;refine AC.loop (α:=Nat×Nat) (λp=>⟨[(0,str (sb l)),(3,i64 (dv (l.take p.1):Int)),(4,i64 (p.1:Int))],[],p.2⟩) (λp=>l.length-p.1) (λp=>p.1<=l.length) (0,_) (BS _) AK ?_;rintro⟨i,n⟩ F hi;dsimp only at hi⊢;refine AC.seq ?_;refine sZ 300 ?_;refine AT hsz ?_;refine AM ?_
 (refine Bw (λhlt=>?_) (λhlt=>?_))<;>(try simp only[Bi,Bu]at hlt)<;>(try simp only[hlt])
 ·have hi2:i<l.length:=by
   have:=Cz hlt
   omega
  obtain⟨c,hc⟩:∃c,l[i]?=some c:=⟨l[i],BE hi2⟩
  have hcd:Be c=true:=CN.1 h c (Av hc);obtain⟨c1,c2⟩:=LH hcd;have hg:(sb l).data.toList.getD i 0=c:=by
   show(l.toArray.toList).getD i 0=c;simp[hc]
  have hdl:dv (l.take i)<10^17:=by
   have:=GE (l.take i) (CN.2 λa ha=>CN.1 h a (El ha))
   rw[Ba,E8 hi]at this;exact CU this (FM (by decide) (by omega))
  have hnx:dv (l.take (i+1))=dv (l.take i)*10+(c.toNat-48):=by
   rw[Di,hc];show dv (l.take i++[c])=_;rw[N8];simp[dv,Gr]
  have k1:IntKind.i64.wrap (10*(dv (l.take i):Int))=((10*dv (l.take i):Nat):Int):=by rw[wI (by omega) (by omega)];omega
  have k2:IntKind.i64.wrap ((c.toNat:Nat):Int)=((c.toNat:Nat):Int):=wI (by omega) (by omega);have k3:IntKind.i64.wrap (((10*dv (l.take i):Nat):Int)+((c.toNat:Nat):Int))=((10*dv (l.take i)+c.toNat:Nat):Int):=by rw[wI (by omega) (by omega)];omega
  have k4:IntKind.i64.wrap (((10*dv (l.take i)+c.toNat:Nat):Int)-48)=((dv (l.take (i+1)):Nat):Int):=by rw[hnx,wI (by omega) (by omega)];omega
  have wi:IntKind.i64.wrap ((i:Int)+1)=((i+1:Nat):Int):=wI (by omega) (by omega);refine An ?_;refine AC.seq ?_;refine AC.block ?_;refine Ao w1 500 (by kernel_rfl) ?_;refine AT (EM kN hg k1 k2 k3 k4) ?_;refine Ao w1 400 (by kernel_rfl) ?_;refine AT wi ?_;exact⟨(i+1,_),hi2,by dsimp only;omega,AK⟩
 ·have hi2:i=l.length:=by
   have:=DN hlt
   omega
  subst hi2;rw[CA (Af _)];refine B6 ?_;refine sR 600 ?_;refine Ah ?_;exact AL rfl AA.out
theorem T8 (l:List UInt8)(hl:l.length<=1000000000):AI C0 114 [str (sb l)] (i64 (BI l:Int)):=by
 refine Ag.walk w1 qg rfl λF=>?_
 have hsz:=Ce l;refine sR 0 ?_;refine AC.seq ?_;refine sR 100 ?_;refine AC.block ?_;refine AC.loop (α:=Nat×Nat) (λp=>⟨[(0,str (sb l)),(3,i64 (p.1:Int))],[],p.2⟩) (λp=>l.length-p.1) (λp=>p.1<=BI l) (0,_) (BS _) AK ?_;rintro⟨i,n⟩ F hi;dsimp only at hi⊢;have hsl:=LK l;refine AC.seq ?_;refine sZ 200 ?_;refine AT hsz ?_;refine AM ?_
 (refine Bw (λhlt=>?_) (λhlt=>?_))<;>(try simp only[Bi,Bu]at hlt)<;>(try simp only[hlt])
 ·have hi2:i<l.length:=by
   have:=Cz hlt
   omega
  obtain⟨c,hc⟩:∃c,l[i]?=some c:=⟨l[i],BE hi2⟩
  have hg:(sb l).data.toList.getD i 0=c:=by
   show(l.toArray.toList).getD i 0=c;simp[hc]
  have wi:IntKind.i64.wrap ((i:Int)+1)=((i+1:Nat):Int):=wI (by omega) (by omega);have ht:(((c.toNat:Nat):Int)==47)=decide (i=BI l):=jO hc hi;refine An ?_;refine AC.seq ?_;refine AC.block ?_;refine sZ 400 ?_;refine AT (As kN hg ht) ?_
  by_cases he:i=BI l
  ·rw[AX he]
   refine AM ?_;refine sR 500 ?_;refine Ah ?_;exact AL (by rw[he]) AA.out
  ·rw[Ac he]
   refine AM ?_;refine An ?_;refine Ao w1 300 (by kernel_rfl) ?_;refine AT wi ?_;exact⟨(i+1,_),by dsimp only;omega,by dsimp only;omega,AK⟩
 ·have hi2:i=l.length:=by
   have:=DN hlt
   omega
  refine B6 ?_;refine sZ 600 ?_;refine AT hsz ?_;refine Ah ?_;exact AL (by congr 3;omega) AA.out
theorem YN {H Hf:Hp}{K g T:Nat}{l:List Nat}{N:Nat}(hl:l.length=N)(he:Hp.get H K=some ⟨K,g,T,1,l.map Aa⟩:=by exact rfl)(hn:Hp.get Hf K=none:=by exact rfl):Fz H Hf (.osl K g 1 0 N) (.sl false 1 (l.map Aa)):=by
 subst hl;have key:∀(j:Nat) (d d':D),(l.map Aa)[0+j]?=some d->(l.map Aa)[j]?=some d'->d=d':=λj d d' h1 h2=>by
  rw[BU]at h1;rw[h1]at h2;exact F3 h2
 refine .osl (e:=⟨K,g,T,1,l.map Aa⟩) he hn rfl rfl (by simp) (by simp) (λj d d' h1 h2=>by rw[key j d d' h1 h2]) λj d d' q c c' h1 h2 h3 h4=>?_
 rw[key j d d' h1 h2]at h3;rw[h3]at h4;cases h4;exact Fz.refl _
theorem QU (c:UInt8)(l:List UInt8):(((c.toNat:Nat):Int)==45)=DL (c::l):=by
 show _=(c==45);rw[Fc,EB,EB,<-UInt8.toNat_inj];exact⟨λh=>(show c.toNat=45 by omega),λh=>by rw[h];rfl⟩
abbrev NA:Ax:=⟨0,0,160,2,[.agg [Aq false,CM]]⟩
theorem rY {x:List UInt8}(h:9<x.length):dv x=dv (x.take (x.length-9))*RB+dv (x.drop (x.length-9)):=by
 conv=>lhs;rw[<-E2 (x.length-9) x,N8,Dq,show x.length-(x.length-9)=9 by omega]
theorem vE (A B t n v:Nat):(A*B+t)*B^n+v=A*B^(n+1)+(v+B^n*t):=by
 rw[Bv,Bx,CK,BP B,BP t];omega
theorem Wz {x x0:List UInt8}{w:List Nat}(h9:9<x.length)(g1:x.all Be=true)(g2:x.length+w.length*9=x0.length)(g3:Rd w)(g4:dv x0=dv x*RB^w.length+AO w):
  (x.take (x.length-9)).all Be=true/\(x.take (x.length-9)).length+(w++[dv (x.drop (x.length-9))]).length*9=x0.length/\Rd (w++[dv (x.drop (x.length-9))]) /\
  dv x0=dv (x.take (x.length-9))*RB^(w++[dv (x.drop (x.length-9))]).length+AO (w++[dv (x.drop (x.length-9))]):=by
 refine⟨CN.2 λa ha=>CN.1 g1 a (El ha),?_,Rd.append g3 λa ha=>?_,?_⟩
 ·rw[Ba,Bh,Fu];omega
 ·simp only[A8,DW,or_false]at ha
  subst ha
  have:=GE (x.drop (x.length-9)) (CN.2 λa ha=>CN.1 g1 a (Jv ha))
  rwa [Dq,show x.length-(x.length-9)=9 by omega]at this
 ·rw[g4,rY h9,Gx rfl,Bh,Fu]
  exact vE _ _ _ _ _
theorem kZ {x x0:List UInt8}{w:List Nat}(h9:x.length<=9)(g1:x.all Be=true)(g3:Rd w)(g4:dv x0=dv x*RB^w.length+AO w):Rd (w++[dv x])/\AO (w++[dv x])=dv x0:=by
 refine⟨Rd.append g3 λa ha=>?_,?_⟩
 ·simp only[A8,DW,or_false]at ha
  subst ha;exact CU (GE x g1) (FM (by decide) h9)
 ·rw[g4,Gx rfl,BP,Kz]
theorem Yf {w:List Nat}{a:Nat}:List.take w.length (w.map Aa)++[i64 (a:Int)]=(w++[a]).map Aa:=by
 rw[CA (by rw[Ak];exact Af _),DA];rfl
theorem ZY (l:List UInt8)(hd:(Bn l).all Be=true)(hl:l.length<=1000000):AI C0 155 [str (sb l)] (rZ (rv l)):=by
 have er:rv l=sg (DL l) (dv (Bn l)):=rfl;rw[er];refine Ag.walk w1 rA rfl λF=>?_
 have hsz:=Ce l;have hdl:(Bn l).length<=l.length:=by
  unfold Bn;split
  ·rw[Dq];omega
  ·exact Af _
 refine sR 0 ?_;refine Cw (α:=Nat) (λn=>⟨[(0,str (sb l)),(2,.optr 0 0 2 0 0),(3,Aq (DL l))],[NA],n⟩) (λ_=>True) ?_ ?_
 ·cases l with
  |nil=>
   have e0:(sb []).size=0:=rfl;have e1:decide (((0:Nat):Int)>0)=false:=rfl;refine Ao w1 100 (by kernel_rfl) ?_;refine AD (Aj e0 e1) ?_;refine AD (Aj kF e1) ?_;exact⟨trivial,_,trivial,AK⟩
  |cons c l=>
   have hpos:(sb (c::l)).size=l.length+1:=hsz;have e0:decide (((sb (c::l)).size:Int)>0)=true:=AX (by omega);have e1:((((c::l).getD (Int.toNat 0) 0).toNat:Int)==45)=DL (c::l):=QU c l;refine Ao w1 100 (by kernel_rfl) ?_;refine AD e0 ?_;refine AD (As kT e0 e1) ?_;exact⟨trivial,_,trivial,AK⟩
 rintro n0 -;refine Cw (α:=Nat) (λn=>⟨[(0,str (sb (Bn l))),(2,.optr 0 0 2 0 0),(3,Aq (DL l))],[NA],n⟩) (λ_=>True) ?_ ?_
 ·refine sR 200 ?_
  cases hb:DL l
  ·have ed:Bn l=l:=by unfold Bn;rw[hb];rfl
   rw[ed];refine AM ?_;refine An ?_;exact⟨rfl,_,trivial,AK⟩
  ·have ed:Bn l=l.drop 1:=by unfold Bn;rw[hb];rfl
   have hl0:1<=l.length:=by
    cases l with
    |nil=>cases hb
    |cons c l=>rw[Bo];omega
   have ee:(sb l).extract (Int.toNat 1) l.length=sb (Bn l):=by
    rw[Et,CA (Af _),ed];rfl
   refine AM ?_;refine Ao w1 300 (by kernel_rfl) ?_;refine AD (Aj hsz kN) ?_;rw[ee];exact⟨trivial,_,trivial,AK⟩
 rintro n1 -;generalize DL l=neg at*;generalize Bn l=x0 at*;clear er hsz;have hx0:x0.length<=1000000:=BQ hdl hl;clear hdl hl l;refine sR 400 ?_;refine AC.seq ?_;refine AC.block ?_;refine AC.loop (α:=Bool×List UInt8×List Nat×Nat×Nat) (λp=>match p with
  |(false,x,_,_,n)=>⟨[(0,str (sb x)),(2,.optr 0 0 2 0 0),(3,Aq neg),(4,CM)],[NA],n⟩
  |(true,x,w,g,n)=>⟨[(0,str (sb x)),(2,.optr 0 0 2 0 0),(3,Aq neg),(4,.osl 608 g 1 0 w.length)],[⟨608,g,3,1,w.map Aa⟩,NA],n⟩) (λp=>p.2.1.length)
  (λp=>p.2.1.all Be=true/\p.2.1.length+p.2.2.1.length*9=x0.length/\Rd p.2.2.1/\dv x0=dv p.2.1*RB^p.2.2.1.length+AO p.2.2.1/\(p.1=false->p.2.2.1=[]))
  (false,x0,[],0,_) ⟨hd,rfl,(λa ha=>by cases ha),by simp[AO],λ_=>rfl⟩ AK ?_
 rintro⟨t,x,w,g,n2⟩ F ⟨g1,g2,g3,g4,g5⟩;dsimp only at g1 g2 g3 g4 g5;have hsz:=Ce x
 by_cases h9:9<x.length
 ·have ht:decide ((x.length:Int)>9)=true:=AX (by omega)
  have cv:=Qi (x.drop (x.length-9)) (CN.2 λa ha=>CN.1 g1 a (Jv ha)) (by rw[Dq];omega);have wk:IntKind.i64.wrap ((x.length:Int)-9)=((x.length-9:Nat):Int):=by rw[wI (by omega) (by omega)];omega
  have wr:IntKind.i64.wrap (((sb x).size:Int)-9)=((x.length-9:Nat):Int):=by rw[hsz,wk]
  have e1:(sb x).extract (x.length-9) x.length=sb (x.drop (x.length-9)):=by rw[Et,CA (Af _)]
  have e2:(sb x).extract 0 (x.length-9)=sb (x.take (x.length-9)):=by rw[Et,Fd]
  cases t
  ·dsimp only
   obtain rfl:=g5 rfl;refine AC.seq ?_;refine sZ 500 ?_;refine AT (Aj hsz ht) ?_;refine AM ?_;refine An ?_;refine AC.block ?_;refine sZ 600 ?_;refine AD (CF hsz wk wr kN e1) ?_;refine BD.same _ cv AJ ?_;refine BN ?_;have J:=Wz h9 g1 g2 g3 g4;rw[Ft]at J;refine Ao w1 700 (by kernel_rfl) ?_;refine AD (BW hsz wk wr kN) ?_;refine AD e2 ?_;exact⟨(true,x.take (x.length-9),[dv (x.drop (x.length-9))],n2+11,_),⟨J.1,J.2.1,J.2.2.1,J.2.2.2,λh=>by cases h⟩,by dsimp only;rw[Ba];omega,AK⟩
  ·dsimp only
   clear g5;have J:=Wz h9 g1 g2 g3 g4;have ew:(w.map Aa).length=w.length:=Ak _;have el:w.length+1=(w++[dv (x.drop (x.length-9))]).length:=by rw[Bh];rfl
   refine AC.seq ?_;refine sZ 500 ?_;refine AT (Aj hsz ht) ?_;refine AM ?_;refine An ?_;refine AC.block ?_;refine sZ 600 ?_;refine AD (CF hsz wk wr kN e1) ?_;refine BD.same _ cv AJ ?_;refine BN ?_;rw[Yf,el];refine Ao w1 700 (by kernel_rfl) ?_;refine AD (BW hsz wk wr kN) ?_;refine AD e2 ?_;exact⟨(true,x.take (x.length-9),w++[dv (x.drop (x.length-9))],n2+11,_),⟨J.1,J.2.1,J.2.2.1,J.2.2.2,λh=>by cases h⟩,by dsimp only;rw[Ba];omega,AK⟩
 ·have ht:decide ((x.length:Int)>9)=false:=Ac (by omega)
  have cv:=Qi x g1 (by omega);obtain⟨r1,r2⟩:=kZ (by omega) g1 g3 g4;have cs:=YV neg (w++[dv x]) r1 (by rw[Bh,Fu];omega);rw[r2]at cs;cases t
  ·dsimp only
   obtain rfl:=g5 rfl;refine AC.seq ?_;refine sZ 500 ?_;refine AT (Aj hsz ht) ?_;refine AM ?_;refine B6 ?_;refine sR 800 ?_;refine BD.same _ cv AJ ?_;refine BN ?_;refine BD.own _ (PK [NA] cs (.drop (.keep .nil)) ⟨.refl _,YN rfl,trivial⟩ AJ) ?_;rintro d H' n' ⟨rfl,rfl,rfl⟩;refine BN ?_;refine Ah ?_;exact AL rfl AA.out
  ·dsimp only
   clear g5;have ew:(w.map Aa).length=w.length:=Ak _;have el:w.length+1=(w++[dv x]).length:=by rw[Bh];rfl
   refine AC.seq ?_;refine sZ 500 ?_;refine AT (Aj hsz ht) ?_;refine AM ?_;refine B6 ?_;refine sR 800 ?_;refine BD.same _ cv AJ ?_;refine BN ?_;rw[Yf,el];refine BD.own _ (PK [NA] cs (.drop (.keep .nil)) ⟨.refl _,YN rfl,trivial⟩ AJ) ?_;rintro d H' n' ⟨rfl,rfl,rfl⟩;refine BN ?_;refine Ah ?_;exact AL rfl AA.out
def Vn (o:Option D):Bool:=match o with
 |some (.agg [.prim (.bool false),.sl false 1 [.prim (.int .i64 1)]])=>true
 |_=>false
theorem l5 {o:Option D}(h:Vn o=true):o=some (rZ 1):=by
 have h1:AY 1=[1]:=Pq (by decide) (by decide);unfold Vn at h;split at h
 ·show _=some (D.agg [Aq (decide ((1:Int)<0)),rL (AY 1)])
  rw[h1];rfl
 ·cases h
theorem jU:Vn ((Ga X1 1000 60).1 156 [i64 1])=true:=by kernel_rfl
theorem lR:AI C0 156 [i64 1] (rZ 1):=CE DV 1000 60 (l5 jU)
def PF (l:List UInt8):Int:=rv (Bz l)
def O6 (l:List UInt8):Int:=if Cr l then rv (BY l)else 1
instance  (x y:Int):AA (.tup [rZ x,rZ y]):=⟨.tup λd hd=>by
 simp only[A8,DW,or_false]at hd;rcases hd with rfl|rfl
 ·exact AA.out
 ·exact AA.out⟩
theorem T5 (l:List UInt8)(hn:(Bn (Bz l)).all Be=true)(hd:(Bn (BY l)).all Be=true)(hl:l.length<=1000000):AI C0 116 [str (sb l)] (.tup [rZ (PF l),rZ (O6 l)]):=by
 refine Ag.walk w1 qi rfl λF=>?_
 have hsz:=Ce l;have cs:=T8 l (by omega);have hsl:=LK l;have c1:=ZY (Bz l) hn (by unfold Bz;rw[Ba];omega);have c2:=ZY (BY l) hd (by unfold BY;rw[Dq];omega);have cw:=lR;unfold PF O6;refine sR 0 ?_;refine sR 100 ?_;refine sR 200 ?_;refine cI cs ?_;cases hh:Cr l
 ·have he:BI l=l.length:=by
   unfold Cr at hh
   have:=DN hh
   omega
  have e0:(((BI l:Nat):Int)==(l.length:Int))=true:=EB.2 (by omega);have en:Bz l=l:=by unfold Bz;rw[he,CA (Af _)]
  rw[en]at c1⊢;refine AC.seq ?_;refine sZ 300 ?_;refine AT (Aj hsz e0) ?_;refine AM ?_;refine sR 400 ?_;refine cI c1 ?_;refine BD.same _ cw AJ ?_;refine BN ?_;refine Ah ?_;exact AL rfl AA.out
 ·have he:BI l<l.length:=Cz hh
  have e0:(((BI l:Nat):Int)==(l.length:Int))=false:=Bs.2 (by omega);have x1:(sb l).extract 0 (BI l)=sb (Bz l):=by rw[Et,Fd];rfl
  have x2:(sb l).extract (BI l+1) l.length=sb (BY l):=by rw[Et,CA (Af _)];rfl
  have wk:IntKind.i64.wrap (((BI l:Nat):Int)+1)=((BI l+1:Nat):Int):=wI (by omega) (by omega);refine AC.seq ?_;refine sZ 300 ?_;refine AT (Aj hsz e0) ?_;refine AM ?_;refine An ?_;refine AC.seq ?_;refine B5 w1 500 [0,1,2,3,4,5,6,7] [8,9,10] (by kernel_rfl) ?_;refine AD (CF hsz wk kN x1 x2) ?_;refine BX.same _ c1 AJ ?_;refine AD (CF hsz wk kN x1 x2) ?_;refine BD.same _ c2 AJ ?_;refine BN ?_;refine Ah ?_;exact AL rfl AA.out
def BM (r:Rat):List UInt8:=if r.den=1 then Lib.itoa r.num else Lib.itoa r.num++47::Lib.decDigits r.den
def qZ (x y:Int):Rat:=mkRat (if y<0 then -x else x) y.natAbs
theorem Tc {x:Int}{d:Nat}(hd:d≠0):(mkRat x d).num=sg (decide (x<0)) (x.natAbs/Nat.gcd x.natAbs d)/\(mkRat x d).den=d/Nat.gcd x.natAbs d:=by
 rw[mkRat,dif_neg hd,Rat.normalize_eq];refine⟨?_,rfl⟩;dsimp only;have hg:0<Nat.gcd x.natAbs d:=PQ _ (D3 hd);obtain⟨p,hp⟩:=Nat.gcd_dvd_left x.natAbs d;have e1:x.natAbs/Nat.gcd x.natAbs d=p:=by
  refine Nat.div_eq_of_eq_mul_right hg hp
 have e2:x=(Nat.gcd x.natAbs d:Int)*sg (decide (x<0)) p:=by
  have h0:(x.natAbs:Int)=(Nat.gcd x.natAbs d:Int)*(p:Int):=by rw[<-Fx,<-hp]
  unfold sg
  by_cases hx:x<0
  ·rw[AX hx,AG rfl,Int.mul_neg,<-h0];omega
  ·rw[Ac hx,AF (by decide),<-h0];omega
 rw[e1]
 conv=>lhs;arg 1;rw[e2]
 rw[Int.mul_ediv_cancel_left _ (by omega)]
theorem X9 (q:Nat):((((((AY q).map Aa).length:Nat):Int)==1)=true/\∃a,(AY q)[0]?=some a/\(((a:Nat):Int)==1)=decide (q=1))\/((((((AY q).map Aa).length:Nat):Int)==1)=false/\q≠1):=by
 rw[Ak]
 by_cases h:(AY q).length=1
 ·refine .inl ⟨EB.2 (by omega),?_⟩
  obtain⟨a,ha⟩:=CR (l:=AY q) (i:=0) (by omega);refine⟨a,ha,?_⟩;have e:AY q=[a]:=by
   obtain⟨b,hb⟩:=List.length_eq_one_iff.1 h;rw[hb]at ha⊢;cases ha;rfl
  have e2:q=a:=by rw[<-D5 q,e];simp[AO]
  rw[e2];rw[Fc,EB,decide_eq_true_iff];omega
 ·refine .inr ⟨Bs.2 (by omega),λhq=>h ?_⟩
  rw[hq,Pq (by decide) (by decide)];rfl
theorem iX (x y:Int)(hy0:y≠0)(hx:Gp x)(hy:Gp y):AI C0 160 [rZ x,rZ y] (str (sb (BM (qZ x y)))):=by
 refine Ag.walk w1 rG rfl λF=>?_
 unfold qZ;refine sR 0 ?_;refine Cw (α:=Nat) (λn=>⟨[(2,.optr 0 0 2 0 0),(3,.optr 1 1 2 0 0)],[⟨1,1,160,2,[.agg [Aq false,rD y.natAbs]]⟩,⟨0,0,160,2,[rZ (if y<0 then -x else x)]⟩],n⟩) (λ_=>True) ?_ ?_
 ·by_cases h:y<0
  ·have cx:=Y8 x hx
   have cy:=Y8 y hy;have e1:rZ (-y)=.agg [Aq false,rD y.natAbs]:=by
    show D.agg [Aq (decide (-y<0)),rD (-y).natAbs]=_;rw[Ac (by omega),MB]
   rw[e1]at cy;rw[AG h];refine sZ 100 ?_;refine AT (AX h) ?_;refine AM ?_;refine B5 w1 200 [0,1,2] [3,4,5] (by kernel_rfl) ?_;refine AD kN ?_;refine BX.same _ cx AJ ?_;refine AD kN ?_;refine BD.same _ cy AJ ?_;refine BN ?_;exact⟨trivial,_,trivial,AK⟩
  ·have e1:rZ y=.agg [Aq false,rD y.natAbs]:=by
    show D.agg [Aq (decide (y<0)),rD y.natAbs]=_;rw[Ac h]
   rw[AF h];refine sZ 100 ?_;refine AT (Ac h) ?_;refine AM ?_;refine An ?_;refine⟨rfl,5,trivial,?_⟩;rw[<-e1];exact AK
 rintro n0 -;obtain⟨z,hz⟩:∃z,z=(if y<0 then -x else x):=⟨_,rfl⟩
 have hza:z.natAbs=x.natAbs:=by rw[hz];split<;>omega
 obtain⟨d,hd⟩:∃d,d=y.natAbs:=⟨_,rfl⟩
 have hd0:d≠0:=by omega
 unfold Gp at hx hy;rw[<-hza]at hx;rw[<-hd]at hy;rw[<-hz,<-hd];clear hz hza hd hy0;clear x y;have cg:=Xo z.natAbs d hx hy;obtain⟨qn,qd⟩:=Tc (x:=z) hd0;have hg:0<Nat.gcd z.natAbs d:=PQ _ (D3 hd0);have hgl:(AY (Nat.gcd z.natAbs d)).length<1000000:=DY (Ij _ _ (Nat.gcd_le_right _ (D3 hd0))) hy;have c4:=VW z.natAbs (Nat.gcd z.natAbs d) (by omega) hx hgl;have c5:AI C0 157 [rD d,rD (Nat.gcd z.natAbs d)] (.tup [.sl false 1 ((AY (d/Nat.gcd z.natAbs d)).map Aa),rD (d%Nat.gcd z.natAbs d)]):=VW d (Nat.gcd z.natAbs d) (by omega) hy hgl;have hpl:(AY (z.natAbs/Nat.gcd z.natAbs d)).length<1000000:=DY (Ij _ _ (Fy _ _)) hx;have hql:(AY (d/Nat.gcd z.natAbs d)).length<1000000:=DY (Ij _ _ (Fy _ _)) hy;have etx:BM (mkRat z d)=if d/Nat.gcd z.natAbs d=1 then Lib.itoa (sg (decide (z<0)) (z.natAbs/Nat.gcd z.natAbs d))else Lib.itoa (sg (decide (z<0)) (z.natAbs/Nat.gcd z.natAbs d))++47::Lib.decDigits (d/Nat.gcd z.natAbs d):=by
  unfold BM;rw[qn,qd]
 rw[etx];clear etx qn qd hg hgl;generalize z.natAbs/Nat.gcd z.natAbs d=p at*;generalize d/Nat.gcd z.natAbs d=q at*;generalize z.natAbs%Nat.gcd z.natAbs d=r1 at*;generalize d%Nat.gcd z.natAbs d=r2 at*;generalize Nat.gcd z.natAbs d=gg at*;have c6:=LS (decide (z<0)) p (by omega);have hab:(sg (decide (z<0)) p).natAbs=p:=by unfold sg;split<;>omega
 have c7:=cU (sg (decide (z<0)) p) (by unfold Gp;rw[hab];exact hpl);have c8:=LS false q (by omega);have c9:=cU (sg false q) (by unfold Gp;show(AY q).length<1000000;exact hql);have e9:Lib.itoa (sg false q)=Lib.decDigits q:=by rw[ZK false q (by simp)];rfl
 rw[e9]at c9;have l1:=OP (Ea p);rw[D5]at l1;have l2:=OP (Ea q);rw[D5]at l2;have l3:(Lib.itoa (sg (decide (z<0)) p)).length<=(Lib.decDigits p).length+1:=by
  unfold Lib.itoa;split
  ·rw[hab,Bo];exact Af _
  ·rw[show(sg (decide (z<0)) p).toNat=p by omega];omega
 generalize sg (decide (z<0)) p=pz at*;have s1:=Ce (Lib.itoa pz);have s2:=Ce (Lib.decDigits q);have s3:(⟨#[47]⟩:ByteArray).size=1:=rfl;have s4:(sb (Lib.itoa pz)++(⟨#[47]⟩:ByteArray)).size=(sb (Lib.itoa pz)).size+(⟨#[47]⟩:ByteArray).size:=ByteArray.size_append;generalize Lib.itoa pz=t1 at*;generalize Lib.decDigits q=t2 at*;refine sR 300 ?_;refine cI cg ?_;refine sR 400 ?_;refine cI c4 ?_;refine sR 500 ?_;refine cI c5 ?_;refine sR 600 ?_;refine cI c6 ?_;refine cI c7 ?_;have ht:=X9 q;rcases ht with⟨h1,a,ha,h2⟩|⟨h1,h2⟩
 ·have ha':=Dp ha
  refine AC.seq ?_;refine sZ 700 ?_;refine AD h1 ?_;refine Bq kT ha' ?_;refine AD (Aj h1 h2) ?_
  by_cases hq:q=1
  ·rw[AX hq,AG hq]
   refine AM ?_;refine sR 800 ?_;refine Ah ?_;exact AL rfl AA.out
  ·rw[Ac hq,AF hq]
   refine AM ?_;refine An ?_;refine sR 900 ?_;refine BD.same _ c8 AJ ?_;refine BN ?_;refine BD.same _ c9 AJ ?_;refine BN ?_;refine Ah ?_;refine AL ?_ AA.out;show str ((⟨t1.toArray⟩++⟨([47]:List UInt8).toArray⟩:ByteArray)++⟨t2.toArray⟩)=_;rw[Ix,Ix,DZ];rfl
 ·rw[AF h2]
  refine AC.seq ?_;refine sZ 700 ?_;refine AT h1 ?_;refine AD kF ?_;refine AM ?_;refine An ?_;refine sR 900 ?_;refine BD.same _ c8 AJ ?_;refine BN ?_;refine BD.same _ c9 AJ ?_;refine BN ?_;refine Ah ?_;refine AL ?_ AA.out;show str ((⟨t1.toArray⟩++⟨([47]:List UInt8).toArray⟩:ByteArray)++⟨t2.toArray⟩)=_;rw[Ix,Ix,DZ];rfl
set_option maxHeartbeats 2000000
theorem QM (k:Nat)(h:k<10):(UInt8.ofNat (48+k)).toNat=48+k:=by
 rw[UInt8.toNat_ofNat'];omega
theorem ET:∀n:Nat,(Lib.decDigits n).all Be=true/\dv (Lib.decDigits n)=n/\(Lib.decDigits n)≠[]:=λn=>by
 induction n using Nat.strongRecOn with
 |_ n ih=>
  have one:∀k,k<10->Be (UInt8.ofNat (48+k))=true:=λk hk=>by
   unfold Be;rw[QM k hk,BO];exact⟨Nat.ble_eq_true_of_le (by omega),Nat.ble_eq_true_of_le (by omega)⟩
  have vone:∀k,k<10->dv [UInt8.ofNat (48+k)]=k:=λk hk=>by
   show 0*10+((UInt8.ofNat (48+k)).toNat-48)=k;rw[QM k hk];omega
  rw[Lib.decDigits];split
  ·rename_i h
   exact⟨by rw[FZ,one n h];rfl,vone n h,by simp⟩
  ·rename_i h
   obtain⟨h1,h2,h3⟩:=ih (n/10) (by omega);refine⟨by rw[Jz,h1,FZ,one _ (B1 _ (by decide))];rfl,?_,by simp⟩;rw[N8,h2,vone _ (B1 _ (by decide)),Fu];omega
theorem mE {n:Nat}(h:n≠0):∃c l,Lib.decDigits n=c::l/\c≠48:=by
 induction n using Nat.strongRecOn with
 |_ n ih=>
  rw[Lib.decDigits];split
  ·rename_i h1
   refine⟨_,_,rfl,λhh=>?_⟩
   have:=congrArg UInt8.toNat hh
   rw[QM n h1]at this
   have:48+n=48:=this
   omega
  ·rename_i h1
   obtain⟨c,l,e,hc⟩:=ih (n/10) (by omega) (by omega);rw[e];exact⟨c,l++_,rfl,hc⟩
theorem rW {c:UInt8}(h:Be c=true):c≠47/\c≠45:=by
 obtain⟨h1,h2⟩:=LH h;exact⟨λhh=>by subst hh;simp at h1,λhh=>by subst hh;simp at h1⟩
theorem MV (z:Int):DL (Lib.itoa z)=decide (z<0)/\Bn (Lib.itoa z)=Lib.decDigits z.natAbs:=by
 unfold Lib.itoa
 by_cases h:z<0
 ·rw[AG h,AX h]
  exact⟨rfl,rfl⟩
 ·rw[AF h,Ac h,show z.toNat=z.natAbs by omega]
  have h1:=So (ET z.natAbs).1;exact⟨h1,KC (ET z.natAbs).1⟩
theorem ZQ (z:Int):rv (Lib.itoa z)=z:=by
 unfold rv;rw[(MV z).1,(MV z).2,(ET z.natAbs).2.1]
 by_cases h:z<0
 ·rw[AX h,AG rfl];omega
 ·rw[Ac h,AF (by decide)];omega
theorem V2 (z:Int):∀c∈Lib.itoa z,(c != 47)=true:=λc hc=>by
 have hd:∀n,∀c∈Lib.decDigits n,(c != 47)=true:=λn c h=>by
  have:=(rW (CN.1 (ET n).1 c h)).1
  simpa using this
 unfold Lib.itoa at hc;split at hc
 ·rcases A8.1 hc with rfl|h
  ·rfl
  ·exact hd _ c h
 ·exact hd _ c hc
theorem Sb {p:UInt8->Bool}:∀ {l:List UInt8} (m:List UInt8),(∀c∈l,p c=true)->(l++m).takeWhile p=l++m.takeWhile p
 | [],_,_=>rfl
 |a::l,m,h=>by
  rw[Ek,PL,AG (h a B9),Sb m λc hc=>h c (CD _ hc)];rfl
theorem Nz (r:Rat):BI (BM r)=(Lib.itoa r.num).length:=by
 unfold BI BM;split
 ·have:=Sb (p:=(· != 47)) [] (V2 r.num)
  rw[C3]at this;rw[this];simp
 ·rw[Sb (p:=(· != 47)) _ (V2 r.num)]
  simp
theorem OT (r:Rat):Bz (BM r)=Lib.itoa r.num:=by
 unfold Bz;rw[Nz];unfold BM;split
 ·exact CA (Af _)
 ·exact List.take_left' rfl
theorem Mh (r:Rat):BY (BM r)=if r.den=1 then[]else Lib.decDigits r.den:=by
 unfold BY;rw[Nz];unfold BM;split
 ·exact HO (Nat.le_succ _)
 ·rw[List.drop_append]
  rw[HO (Nat.le_succ _),Kx];rfl
theorem Qh (r:Rat):Cr (BM r) = !decide (r.den=1):=by
 unfold Cr;rw[Nz];unfold BM
 by_cases h:r.den=1
 ·rw[AG h,AX h,Ac (by omega)];rfl
 ·rw[AF h,Ac h,Bh,Bo,AX (by omega)];rfl
theorem Yb (r:Rat):PF (BM r)=r.num:=by unfold PF;rw[OT,ZQ]
theorem m9 (r:Rat):O6 (BM r)=r.den:=by
 unfold O6;rw[Qh,Mh]
 by_cases h:r.den=1
 ·rw[AX h,h];rfl
 ·rw[Ac h,AF h,AG (show(!false)=true from rfl),M0 (ET _).1,(ET _).2.1]
theorem Ya (r:Rat):(Bn (Bz (BM r))).all Be=true:=by rw[OT,(MV _).2];exact(ET _).1
theorem YZ (r:Rat):(Bn (BY (BM r))).all Be=true:=by
 rw[Mh];split
 ·rfl
 ·rw[KC (ET _).1];exact(ET _).1
theorem ZJ (z:Int):Lib.itoa z≠[]:=by
 unfold Lib.itoa;split
 ·simp
 ·exact(ET _).2.2
theorem cZ (r:Rat):BM r≠[]:=by
 unfold BM;split
 ·exact ZJ _
 ·simp
theorem UG (r:Rat):DL (BM r)=decide (r.num<0):=by
 rw[<-(MV r.num).1];unfold BM;split
 ·rfl
 ·have:=ZJ r.num
  cases h:Lib.itoa r.num with
  |nil=>exact Ae h this
  |cons c l=>rfl
theorem Yc (r:Rat):decide (BM r=[48])=decide (r.num=0):=by
 refine C4.2 ⟨λh=>?_,λh=>?_⟩
 ·have h1:=Yb r
  rw[h]at h1;rw[<-h1];decide
 ·have:r.den=1:=by
   have:=r.reduced
   rw[h]at this;simpa using this
  unfold BM;rw[AG this,h];show Lib.decDigits 0=[48];rw[Lib.decDigits,dif_pos (by decide)];rfl
abbrev rR (r:Rat):D:=str (sb (BM r))
def L7 (r:Rat):Prop:=(BM r).length<=1000000
theorem bx (r:Rat)(hl:L7 r):AI C0 144 [rR r] (i64 (Gq r)):=by
 refine Ag.walk w1 qr rfl λF=>?_
 have hsz:=Ce (BM r);unfold L7 at hl;have ez:=Ev (BM r) [48];rw[Yc]at ez;have en:=UG r;refine sR 0 ?_;refine AC.seq ?_;refine AC.seq ?_;have ez2:BJ (sb (BM r)) ⟨#[48]⟩=decide (r.num=0):=ez;have hne:=cZ r;refine Ao w1 100 (by kernel_rfl) ?_;refine AT ez2 ?_
 by_cases h0:r.num=0
 ·rw[AX h0]
  refine AM ?_;refine sR 200 ?_;refine Ah ?_;exact AL (by unfold Gq;rw[h0];rfl) AA.out
 ·rw[Ac h0]
  have hpos:0<(BM r).length:=List.length_pos_iff.2 hne;have e0:decide (((sb (BM r)).size:Int)>0)=true:=AX (by omega);have e1:((((BM r).getD (Int.toNat 0) 0).toNat:Int)==45)=decide (r.num<0):=by
   rw[<-en];cases ht:BM r with
   |nil=>exact Ae ht hne
   |cons c l=>exact QU c l
  refine AM ?_;refine An ?_;refine AC.seq ?_;refine sZ 300 ?_;refine AD e0 ?_;refine AD (As kT e0 e1) ?_
  by_cases hn:r.num<0
  ·rw[AX hn]
   refine AM ?_;refine sR 400 ?_;refine Ah ?_;exact AL (by unfold Gq;congr 3;omega) AA.out
  ·rw[Ac hn]
   refine AM ?_;refine An ?_;refine sR 500 ?_;refine Ah ?_;exact AL (by unfold Gq;congr 3;omega) AA.out
theorem Zg {r:Rat}(h:r.num<0):(BM r).drop 1=BM (-r)/\(BM (-r)).length+1=(BM r).length:=by
 have e:Lib.itoa r.num=45::Lib.itoa (-r.num):=by
  unfold Lib.itoa;rw[AG h,AF (by omega),show(-r.num).toNat=r.num.natAbs by omega]
 have e2:BM r=45::BM (-r):=by
  unfold BM;rw[Rat.neg_den,Rat.neg_num,e];split<;>rfl
 rw[e2];exact⟨rfl,rfl⟩
def DC (r:Rat):Rat:=if r.num<0 then -r else r
theorem QI (r:Rat):(DC r).num=r.num.natAbs/\(DC r).den=r.den:=by
 unfold DC;split
 ·rw[Rat.neg_num,Rat.neg_den];exact⟨by omega,rfl⟩
 ·exact⟨by omega,rfl⟩
def qk (r:Rat):Bool:=!decide (20<(BM r).length) && !(decide (9<BI (BM (DC r)))||decide (10<(BM (DC r)).length-BI (BM (DC r))))
theorem kw (r:Rat):(BM (DC r)).length<=(BM r).length:=by
 unfold DC;split
 ·rename_i h
  have:=(Zg h).2
  omega
 ·exact Af _
theorem S5 (r:Rat):Lib.itoa (DC r).num=Lib.decDigits r.num.natAbs:=by
 rw[(QI r).1];unfold Lib.itoa;rw[AF (by omega)];rfl
theorem Td {r:Rat}(h:qk r=true):r.num.natAbs<10^9/\r.den<10^9:=by
 unfold qk at h;simp only[BO,Bi,JD,Ib]at h;obtain⟨h1,h2,h3⟩:=h;have hs:=Nz (DC r);rw[S5]at hs;have hd:=Mh (DC r);rw[(QI r).2]at hd;have hdl:(BY (BM (DC r))).length=(BM (DC r)).length-(BI (BM (DC r))+1):=by unfold BY;rw[Dq]
 have d1:=GE _ (ET r.num.natAbs).1;have d2:=GE _ (ET r.den).1;rw[(ET _).2.1]at d1 d2;refine⟨CU d1 (FM (by decide) (by omega)),?_⟩
 by_cases h1:r.den=1
 ·rw[h1];decide
 ·rw[AF h1]at hd
  rw[hd]at hdl;exact CU d2 (FM (by decide) (by omega))
theorem Za (r:Rat)(hl:L7 r):AI C0 158 [rR r] (.tup [i64 (if qk r then r.num else 0),i64 (if qk r then(r.den:Int)else 0),Aq (qk r)]):=by
 refine Ag.walk w1 rE rfl λF=>?_
 have hsz:=Ce (BM r);unfold L7 at hl;have hne:=cZ r;have hpos:0<(BM r).length:=List.length_pos_iff.2 hne;refine sR 0 ?_;refine sR 100 ?_;refine AC.seq ?_;refine AC.seq ?_
 by_cases h20:20<(BM r).length
 ·have e2:decide (((BM r).length:Int)>20)=true:=AX (by omega)
  have eq:qk r=false:=by unfold qk;rw[AX h20];rfl
  rw[eq];refine Ao w1 200 (by kernel_rfl) ?_;refine AT (Aj hsz e2) ?_;refine AM ?_;refine sR 300 ?_;refine Ah ?_;exact AL rfl AA.out
 ·have e2:decide (((BM r).length:Int)>20)=false:=Ac (by omega)
  have eq:qk r = !(decide (9<BI (BM (DC r)))||decide (10<(BM (DC r)).length-BI (BM (DC r)))):=by unfold qk;rw[Ac h20];rfl
  have en:=UG r;refine Ao w1 200 (by kernel_rfl) ?_;refine AT (Aj hsz e2) ?_;refine AM ?_;refine An ?_;refine Cw (α:=Nat) (λn=>⟨[(5,rR r),(6,Aq (decide (r.num<0)))],[],n⟩) (λ_=>True) ?_ ?_
  ·have e0:decide (((sb (BM r)).size:Int)>0)=true:=AX (by omega)
   have e1:((((BM r).getD (Int.toNat 0) 0).toNat:Int)==45)=decide (r.num<0):=by
    rw[<-en];cases ht:BM r with
    |nil=>exact Ae ht hne
    |cons c l=>exact QU c l
   refine Ao w1 400 (by kernel_rfl) ?_;refine AD e0 ?_;refine AD (As kT e0 e1) ?_;exact⟨trivial,_,trivial,AK⟩
  rintro n0 -;refine Cw (α:=Nat) (λn=>⟨[(5,rR (DC r)),(6,Aq (decide (r.num<0)))],[],n⟩) (λ_=>True) ?_ ?_
  ·refine sR 500 ?_
   by_cases h:r.num<0
   ·obtain⟨t1,t2⟩:=Zg h
    have ea:DC r = -r:=by unfold DC;rw[AG h]
    have ee:(sb (BM r)).extract (Int.toNat 1) (BM r).length=sb (BM (DC r)):=by
     rw[ea,Et,CA (Af _),<-t1];rfl
    rw[AX h];refine AM ?_;refine Ao w1 600 (by kernel_rfl) ?_;refine AD (Aj hsz kN) ?_;rw[ee];exact⟨trivial,_,trivial,AK⟩
   ·have ea:DC r=r:=by unfold DC;rw[AF h]
    rw[Ac h,ea];refine AM ?_;refine An ?_;exact⟨rfl,_,trivial,AK⟩
  rintro n1 -;have hal:=kw r;have hsa:=Nz (DC r);rw[S5]at hsa;have hn:=OT (DC r);rw[S5]at hn;have hd:=Mh (DC r);rw[(QI r).2]at hd;have hh:=Qh (DC r);rw[(QI r).2]at hh;unfold Cr at hh;have hle:=LK (BM (DC r));have cs:=T8 (BM (DC r)) (by omega);have hszA:=Ce (BM (DC r));clear hsz hne hpos e2 en;generalize hT:BM (DC r)=T at*;have eR:rR (DC r)=str (sb T):=by rw[<-hT]
  rw[eR];clear hT eR;refine sR 700 ?_;refine cI cs ?_;have w8:IntKind.i64.wrap ((T.length:Int)-(BI T:Int))=((T.length-BI T:Nat):Int):=by rw[wI (by omega) (by omega)];omega
  have eb:decide (((T.length-BI T:Nat):Int)>10)=decide (10<T.length-BI T):=C4.2 (by omega)
  by_cases h9:9<BI T
  ·have e8:decide ((BI T:Int)>9)=true:=AX (by omega)
   rw[AX h9]at eq;have eq2:qk r=false:=eq;rw[eq2];refine AC.seq ?_;refine sZ 800 ?_;refine AT e8 ?_;refine AD kT ?_;refine AM ?_;refine sR 900 ?_;refine Ah ?_;exact AL rfl AA.out
  have e8:decide ((BI T:Int)>9)=false:=Ac (by omega);rw[Ac h9]at eq
  by_cases h10:10<T.length-BI T
  ·rw[AX h10]at eq eb
   have eq2:qk r=false:=eq;rw[eq2];refine AC.seq ?_;refine sZ 800 ?_;refine AT e8 ?_;refine AD (BW kF hszA w8 eb) ?_;refine AM ?_;refine sR 900 ?_;refine Ah ?_;exact AL rfl AA.out
  rw[Ac h10]at eq eb;have eq2:qk r=true:=eq;rw[eq2];refine AC.seq ?_;refine sZ 800 ?_;refine AT e8 ?_;refine AD (BW kF hszA w8 eb) ?_;refine AM ?_;refine An ?_;have hd1:=ET r.num.natAbs;have hd2:=ET r.den;have c1:=Qi (Lib.decDigits r.num.natAbs) hd1.1 (by omega);rw[hd1.2.1]at c1;have e10:(sb T).extract 0 (BI T)=sb (Lib.decDigits r.num.natAbs):=by
   rw[Et,Fd,<-hn];rfl
  refine sZ 1000 ?_;refine AD (Aj hszA kN) ?_;refine AD e10 ?_;refine BD.same _ c1 AJ ?_;refine BN ?_;refine Cw (α:=Nat) (λn=>⟨[(6,Aq (decide (r.num<0))),(8,i64 (r.num.natAbs:Int)),(9,i64 (r.den:Int))],[],n⟩) (λ_=>True) ?_ ?_
  ·by_cases hden:r.den=1
   ·rw[AX hden]at hh
    have e11:decide ((BI T:Int)<(T.length:Int))=false:=Ac (by have:=DN (p:=BI T<T.length) hh;omega);rw[hden];refine sZ 1100 ?_;refine AT (Aj hszA e11) ?_;refine AM ?_;refine An ?_;exact⟨rfl,_,trivial,AK⟩
   ·rw[Ac hden]at hh
    rw[AF hden]at hd;have hlt:=Cz (p:=BI T<T.length) hh;have e11:decide ((BI T:Int)<(T.length:Int))=true:=AX (by omega);have wk:IntKind.i64.wrap (((BI T:Nat):Int)+1)=((BI T+1:Nat):Int):=wI (by omega) (by omega);have e12:(sb T).extract (BI T+1) T.length=sb (Lib.decDigits r.den):=by
     rw[Et,CA (Af _),<-hd];rfl
    have hdl:(Lib.decDigits r.den).length<=18:=by
     rw[<-hd];unfold BY;rw[Dq];omega
    have c2:=Qi (Lib.decDigits r.den) hd2.1 hdl;rw[hd2.2.1]at c2;refine sZ 1100 ?_;refine AT (Aj hszA e11) ?_;refine AM ?_;refine Ao w1 1200 (by kernel_rfl) ?_;refine AD (As hszA wk kN) ?_;refine AD e12 ?_;refine BD.same _ c2 AJ ?_;refine BN ?_;exact⟨trivial,_,trivial,AK⟩
  rintro n2 -;obtain⟨b1,b2⟩:=Td eq2;refine Cw (α:=Nat) (λn=>⟨[(8,i64 r.num),(9,i64 (r.den:Int))],[],n⟩) (λ_=>True) ?_ ?_
  ·refine sR 1300 ?_
   by_cases h:r.num<0
   ·have wn:IntKind.i64.wrap (0-(r.num.natAbs:Int))=r.num:=by rw[wI (by omega) (by omega)];omega
    rw[AX h];refine AM ?_;refine Ao w1 1400 (by kernel_rfl) ?_;refine AT wn ?_;exact⟨trivial,_,trivial,AK⟩
   ·have en:(r.num.natAbs:Int)=r.num:=by omega
    rw[Ac h,en];refine AM ?_;refine An ?_;exact⟨rfl,_,trivial,AK⟩
  rintro n3 -;refine sR 1500 ?_;refine Ah ?_;exact AL rfl AA.out
theorem kM (b:Bool)(n:Nat):(sg b n).natAbs=n:=by unfold sg;split<;>omega
theorem xe (z:Int)(d:Nat)(hz:z.natAbs<=4000000000000000000)(hd0:0<d)(hd:d<=4000000000000000000):AI C0 159 [i64 z,i64 (d:Int)] (rR (mkRat z d)):=by
 refine Ag.walk w1 rF rfl λF=>?_
 have hg:0<Nat.gcd z.natAbs d:=PQ _ hd0;have hgl:Nat.gcd z.natAbs d<=d:=Nat.gcd_le_right _ hd0;obtain⟨qn,qd⟩:=Tc (x:=z) (d:=d) (by omega);have etx:BM (mkRat z d)=if d/Nat.gcd z.natAbs d=1 then Lib.itoa (mkRat z d).num else Lib.itoa (mkRat z d).num++47::Lib.decDigits (d/Nat.gcd z.natAbs d):=by
  unfold BM;rw[qd]
 have q1:z.tdiv (Nat.gcd z.natAbs d:Nat)=(mkRat z d).num:=by
  rw[qn];obtain⟨p,hp⟩:=Nat.gcd_dvd_left z.natAbs d;have e1:z.natAbs/Nat.gcd z.natAbs d=p:=Nat.div_eq_of_eq_mul_right hg hp;have e2:z=(Nat.gcd z.natAbs d:Int)*sg (decide (z<0)) p:=by
   have h0:(z.natAbs:Int)=(Nat.gcd z.natAbs d:Int)*(p:Int):=by rw[<-Fx,<-hp]
   unfold sg
   by_cases hx:z<0
   ·rw[AX hx,AG rfl,Int.mul_neg,<-h0];omega
   ·rw[Ac hx,AF (by decide),<-h0];omega
  rw[e1]
  conv=>lhs;arg 1;rw[e2]
  rw[Int.mul_tdiv_cancel_left _ (by omega)]
 have q2:(d:Int).tdiv (Nat.gcd z.natAbs d:Nat)=((d/Nat.gcd z.natAbs d:Nat):Int):=rfl;have q5:(mkRat z d).num.natAbs<=4000000000000000000:=by
  rw[qn];rw[kM];exact BQ (Fy _ _) hz
 have q4:d/Nat.gcd z.natAbs d<=4000000000000000000:=BQ (Fy _ _) hd;have hx:0<d/Nat.gcd z.natAbs d:=Nat.div_pos hgl hg;have ert:rR (mkRat z d)=str (sb (if d/Nat.gcd z.natAbs d=1 then Lib.itoa (mkRat z d).num else Lib.itoa (mkRat z d).num++47::Lib.decDigits (d/Nat.gcd z.natAbs d))):=by rw[<-etx]
 rw[ert];clear etx ert qn qd;generalize(mkRat z d).num=pz at*;refine fR 0 ?_;refine EU ⟨[(0,i64 z),(1,i64 d),(4,str ⟨#[]⟩)],[],50⟩ ?_ ?_
 ·refine AC.seq ?_
  have l1:(decide (z < -4000000000000000000))=false:=by apply Ac;omega
  have l2:(decide (z>4000000000000000000))=false:=by apply Ac;omega
  have l3:(decide ((d:Int) < -4000000000000000000))=false:=by apply Ac;omega
  have l4:(decide ((d:Int)>4000000000000000000))=false:=by apply Ac;omega
  refine Ao w1 100 (by kernel_rfl) ?_
  repeat'(first|(refine And.intro (by exact B8) ?_;(refine Au ?_);(try simp only[M9,Rb,l1,l2,l3,l4]))|((refine Bw (λhb=>?_) (λhb=>?_))<;>(try simp only[Bi,Bu]at hb)<;>(try simp only[hb])<;>(refine Au ?_)))
  refine AM ?_;refine An ?_;exact And.intro (by trivial) (AK)
 refine EU ⟨[(0,i64 z),(1,i64 d),(4,str ⟨#[]⟩)],[],100⟩ ?_ ?_
 ·refine fR 300 ?_
  refine AM ?_;have e27:(decide ((d:Int)<0))=false:=by simp
  rw[e27];refine An ?_;exact And.intro (by trivial) (AK)
 refine AC.seq ?_;have m1:max z (IntKind.i64.wrap (0-z))=(z.natAbs:Int):=by rw[wI (by omega) (by omega)];omega
 refine Ao w1 500 (by kernel_rfl) ?_;refine J7 m1 ?_;refine dI (pi z.natAbs d (by omega) (by omega)) ?_;refine AC.seq ?_;refine B5 w1 600 [0,1,2,3,4,5,6] [7] (by kernel_rfl) ?_;refine B7 ?_;have w1p:IntKind.i64.wrap pz=pz:=wI (by omega) (by omega);rw[q1,q2,w1p,wN (BQ q4 (by decide))];clear q1 q2 hg hgl;generalize d/Nat.gcd z.natAbs d=y at*;refine fR 700 ?_;have c1:=Pw pz.natAbs 1 (by omega);have c2:=Pw y 1 (by omega);rw[Yz]at c1 c2;have s1:=MK 18 pz.natAbs (DY q5 (by decide));have s2:=MK 18 y (DY q4 (by decide));have z1:=OO (Lib.decDigits pz.natAbs);have z2:=OO (Lib.decDigits y);have m1:max pz (IntKind.i64.wrap (0-pz))=(pz.natAbs:Int):=by rw[wI (by omega) (by omega)];omega
 refine Cw (α:=Nat) (λn=>⟨[(0,i64 pz),(1,i64 (y:Int)),(4,str ⟨#[]⟩),(6,str (sb (if pz<0 then[45]else[])))],[],n⟩) (λ_=>True) ?_ ?_
 ·refine fR 800 ?_
  by_cases h:pz<0
  ·rw[AX h,AG h]
   refine AM ?_;refine fI 900 ?_;exact⟨rfl,_,trivial,AK⟩
  ·rw[Ac h,AF h]
   refine AM ?_;refine An ?_;exact⟨rfl,_,trivial,AK⟩
 rintro n0 -;have ei:(if pz<0 then[45]else[])++Lib.decDigits pz.natAbs=Lib.itoa pz:=by
  unfold Lib.itoa;split
  ·rfl
  ·rw[show pz.toNat=pz.natAbs by omega];rfl
 have z3:=Ce (if pz<0 then[45]else[]);have z4:(if pz<0 then[45]else[]:List UInt8).length<=1:=by split<;>simp
 have z5:(Lib.itoa pz).length<=20:=by rw[<-ei,Bh];omega
 refine sZ 1000 ?_;refine J7 m1 ?_;refine dI c1 ?_;rw[Ix,ei];have z6:=OO (Lib.itoa pz);generalize Lib.itoa pz=t1 at*;clear ei z3 z4;refine Cw (α:=Nat) (λn=>⟨[(6,str (sb (if y=1 then t1 else t1++47::Lib.decDigits y)))],[],n⟩) (λ_=>True) ?_ ?_
 ·refine fR 1100 ?_
  by_cases hy:y=1
  ·rw[AG hy]
   have e54:(decide ((y:Int)>1))=false:=by apply Ac;omega
   rw[e54];refine AM ?_;refine An ?_;exact⟨rfl,_,trivial,AK⟩
  ·rw[AF hy]
   have e54:(decide ((y:Int)>1))=true:=by apply AX;omega
   have s3:(⟨#[47]⟩:ByteArray).size=1:=rfl;have sc:((⟨t1.toArray⟩:ByteArray)++(⟨#[47]⟩:ByteArray)).size=(⟨t1.toArray⟩:ByteArray).size+(⟨#[47]⟩:ByteArray).size:=ByteArray.size_append;rw[e54];refine AM ?_;refine fI 1200 ?_;refine dI c2 ?_;have e47:(⟨#[47]⟩:ByteArray)=⟨([47]:List UInt8).toArray⟩:=rfl;rw[e47,Ix,Ix,DZ,Ek,Ft];exact⟨rfl,_,trivial,AK⟩
 rintro n1 -;refine fR 1300 ?_;refine Ah ?_;exact AL rfl AA.out
theorem Tp {n k:Nat}(h:(Ad n).length<=k):(AY n).length<=3*k:=by
 refine LB (CU (JQ n) ?_);rw[Nat.pow_mul];exact BQ (FM (by decide) h) (NZ (by decide) k)
theorem Mo {n k:Nat}(h:(Ad n).length<=k):(Lib.decDigits n).length<=27*k+1:=by
 have h1:=OP (Ea n);rw[D5]at h1
 have:=Tp h
 omega
theorem nq {z:Int}{k:Nat}(h:(Ad z.natAbs).length<=k):(Lib.itoa z).length<=27*k+2:=by
 have:=Mo h
 unfold Lib.itoa;split
 ·rw[Bo];omega
 ·rw[show z.toNat=z.natAbs by omega];omega
theorem UD {r:Rat}{k:Nat}(h:rk r k)(hk:k<=10000):L7 r:=by
 have h1:=nq h.1;have h2:=Mo h.2;unfold L7 BM;split
 ·omega
 ·rw[Bh,Bo];omega
def LZ (x:Int)(p:Nat):Prop:=(AY x.natAbs).length<=p
theorem LZ.mul {x y:Int}{p q:Nat}(hx:LZ x p)(hy:LZ y q):LZ (x*y) (p+q):=by
 unfold LZ at*;rw[NS]
 have:=Sf x.natAbs y.natAbs
 omega
theorem LZ.add {x y:Int}{p q:Nat}(hx:LZ x p)(hy:LZ y q):LZ (x+y) (p+q+1):=by
 unfold LZ at*;have h1:=Ij (x+y).natAbs (x.natAbs+y.natAbs) (Int.natAbs_add_le x y);have h2:=WG x.natAbs y.natAbs;omega
theorem LZ.few {x:Int}{p:Nat}(h:LZ x p)(hp:p<1000000):Gp x:=DY h hp
theorem LZ.num {r:Rat}{k:Nat}(h:rk r k):LZ r.num (3*k):=Tp h.1
theorem LZ.den {r:Rat}{k:Nat}(h:rk r k):LZ (r.den:Int) (3*k):=Tp h.2
theorem vG (a b:Rat):qZ (a.num*b.den+b.num*a.den) ((a.den:Int)*b.den)=a+b:=by
 unfold qZ;have h:¬((a.den:Int)*b.den<0):=by
  rw[<-Fx];omega
 rw[AF h,<-Fx,EQ,Rat.add_def',]
theorem TE {x y:Int}(hx:x.natAbs<10^9)(hy:y.natAbs<10^9):(x*y).natAbs<10^18:=by
 rw[NS];exact CU (Nat.mul_lt_mul'' hx hy) (by decide)
theorem fL (a b:Rat)(i j:Nat)(ha:rk a i)(hb:rk b j)(hij:i+j<=10000):AI C0 118 [rR a,rR b] (rR (a+b)):=by
 refine Ag.walk w1 ql rfl λF=>?_
 have ta:=UD ha (by omega);have tb:=UD hb (by omega);have qa:=Za a ta;have qb:=Za b tb
 by_cases hq:qk a=true/\qk b=true
 ·obtain⟨h1,h2⟩:=hq
  obtain⟨n1,d1⟩:=Td h1;obtain⟨n2,d2⟩:=Td h2;rw[h1,AG rfl,AG rfl]at qa;rw[h2,AG rfl,AG rfl]at qb;have p1:=TE n1 (y:=(b.den:Int)) (by omega);have p2:=TE n2 (y:=(a.den:Int)) (by omega);have p3:=TE (x:=(a.den:Int)) (y:=(b.den:Int)) (by omega) (by omega);have m1:IntKind.i64.wrap (a.num*(b.den:Int))=a.num*b.den:=wI (by omega) (by omega);have m2:IntKind.i64.wrap (b.num*(a.den:Int))=b.num*a.den:=wI (by omega) (by omega);have m3:IntKind.i64.wrap (a.num*(b.den:Int)+b.num*(a.den:Int))=a.num*b.den+b.num*a.den:=wI (by omega) (by omega);have m4:IntKind.i64.wrap ((a.den:Int)*(b.den:Int))=((a.den*b.den:Nat):Int):=by rw[wI (by omega) (by omega),Fx]
  have p4:a.den*b.den<10^18:=by rw[<-Fx,EQ]at p3;exact p3
  have cf:=xe (a.num*b.den+b.num*a.den) (a.den*b.den) (by omega) (HS a.den_pos b.den_pos) (by omega);rw[<-Rat.add_def']at cf;refine sR 0 ?_;refine sR 100 ?_;refine cI qa ?_;refine sR 200 ?_;refine cI qb ?_;refine AC.seq ?_;refine sZ 300 ?_;refine AD kT ?_;refine AM ?_;refine sZ 400 ?_;refine AT (BW m1 m2 m3 m4) ?_;refine cI cf ?_;refine Ah ?_;exact AL rfl AA.out
 ·refine sR 0 ?_
  refine sR 100 ?_;refine cI qa ?_;refine sR 200 ?_;refine cI qb ?_;refine Cw (α:=Nat) (λn=>⟨[(0,rR a),(1,rR b)],[],n⟩) (λ_=>True) ?_ ?_
  ·cases h1:qk a
   ·refine sZ 300 ?_
    refine AD h1 ?_;refine AD kF ?_;refine AM ?_;refine An ?_;exact⟨rfl,_,trivial,AK⟩
   ·have h2:qk b=false:=by
     cases h2:qk b
     ·rfl
     ·exact Ae ⟨h1,h2⟩ hq
    rw[h2];refine sZ 300 ?_;refine AD h1 ?_;refine AD kT ?_;refine AM ?_;refine An ?_;exact⟨rfl,_,trivial,AK⟩
  rintro n0 -;clear qa qb hq;have pa:=T5 (BM a) (Ya a) (YZ a) ta;have pb:=T5 (BM b) (Ya b) (YZ b) tb;rw[Yb,m9]at pa pb;have lan:=LZ.num ha;have lad:=LZ.den ha;have lbn:=LZ.num hb;have lbd:=LZ.den hb;have da:=a.den_pos;have db:=b.den_pos;have c1:=UE a.num b.den (lan.few (by omega)) (lbd.few (by omega));have c2:=UE b.num a.den (lbn.few (by omega)) (lad.few (by omega));have c3:=vC (a.num*b.den) (b.num*a.den) ((lan.mul lbd).few (by omega)) ((lbn.mul lad).few (by omega));have c4:=UE (a.den:Int) b.den (lad.few (by omega)) (lbd.few (by omega));have c5:=iX (a.num*b.den+b.num*a.den) ((a.den:Int)*b.den) (by rw[<-Fx];have:=HS da db;omega) (((lan.mul lbd).add (lbn.mul lad)).few (by omega)) ((lad.mul lbd).few (by omega));rw[vG]at c5;refine sR 500 ?_;refine cI pa ?_;refine sR 600 ?_;refine cI pb ?_;refine AC.seq ?_;refine B5 w1 700 [0,1,2,3,4,5,6,7,8] [9,10,11] (by kernel_rfl) ?_;refine AD kN ?_
  first|refine BX.same _ c1 AJ ?_|refine BD.same _ c1 AJ ?_
  refine AD kN ?_
  first|refine BX.same _ c2 AJ ?_|refine BD.same _ c2 AJ ?_
  refine AD kN ?_
  first|refine BX.same _ c3 AJ ?_|refine BD.same _ c3 AJ ?_
  refine AD kN ?_
  first|refine BX.same _ c4 AJ ?_|refine BD.same _ c4 AJ ?_
  refine AD kN ?_
  first|refine BX.same _ c5 AJ ?_|refine BD.same _ c5 AJ ?_
  refine AD kN ?_;refine Ah ?_;exact AL rfl AA.out
theorem lZ (c:UInt8):Be c=(!decide ((c.toNat:Int)<48) && !decide ((c.toNat:Int)>57)):=by
 unfold Be;rw[Fc,BO,BO];simp only[Bi,Ib,Nat.ble_eq];omega
theorem gX {l:List UInt8}{i:Nat}{c:UInt8}(hc:l[i]?=some c)(h:(l.take i).all Be=true):(l.take (i+1)).all Be=Be c:=by
 rw[Di,hc,Jz,h];simp
theorem qC {l:List UInt8}{i:Nat}{c:UInt8}(hc:l[i]?=some c)(h:Be c=false):l.all Be=false:=by
 cases ha:l.all Be
 ·rfl
 ·have:=CN.1 ha c (Av hc)
  rw[h]at this;cases this
theorem mK (l:List UInt8)(hl:l.length<=1000000000):AI C0 154 [str (sb l)] (Aq (l.all Be)):=by
 refine Ag.walk w1 qz rfl λF=>?_
 have hsz:=Ce l;refine sR 0 ?_;refine AC.seq ?_;refine sR 100 ?_;refine AC.block ?_;refine AC.loop (α:=Nat×Nat) (λp=>⟨[(0,str (sb l)),(3,i64 (p.1:Int))],[],p.2⟩) (λp=>l.length-p.1) (λp=>p.1<=l.length/\(l.take p.1).all Be=true) (0,_) ⟨BS _,rfl⟩ AK ?_;rintro⟨i,n⟩ F ⟨hi,ha⟩;dsimp only at hi ha⊢;refine AC.seq ?_;refine sZ 200 ?_;refine AT hsz ?_;refine AM ?_
 (refine Bw (λhlt=>?_) (λhlt=>?_))<;>(try simp only[Bi,Bu]at hlt)<;>(try simp only[hlt])
 ·have hi2:i<l.length:=by
   have:=Cz hlt
   omega
  obtain⟨c,hc⟩:∃c,l[i]?=some c:=⟨l[i],BE hi2⟩
  have hg:l.getD i 0=c:=by simp[hc]
  have wi:IntKind.i64.wrap ((i:Int)+1)=((i+1:Nat):Int):=wI (by omega) (by omega);have hid:=lZ c;have hat:=gX hc ha;have hno:=qC hc;refine An ?_;refine AC.seq ?_;refine AC.block ?_;refine sZ 400 ?_;refine AT (Aj kN hg) ?_
  by_cases c1:(c.toNat:Int)<48
  ·rw[AX c1]at hid
   have e4:=AX c1;simp only[e4];refine AD kT ?_;refine AM ?_;refine sR 500 ?_;refine Ah ?_;exact AL (by rw[hno hid]) AA.out
  ·rw[Ac c1]at hid
   have e4:=Ac c1;simp only[e4];refine AD (As kF kN hg) ?_
   by_cases c2:(c.toNat:Int)>57
   ·rw[AX c2]at hid⊢
    refine AM ?_;refine sR 500 ?_;refine Ah ?_;exact AL (by rw[hno hid]) AA.out
   ·rw[Ac c2]at hid⊢
    refine AM ?_;refine An ?_;refine Ao w1 300 (by kernel_rfl) ?_;refine AT wi ?_;exact⟨(i+1,_),⟨hi2,hat.trans hid⟩,by dsimp only;omega,AK⟩
 ·have hi2:i=l.length:=by
   have:=DN hlt
   omega
  subst hi2;rw[CA (Af _)]at ha;refine B6 ?_;refine sR 600 ?_;refine Ah ?_;exact AL (by rw[ha]) AA.out
theorem jx (c:UInt8):(((c.toNat:Nat):Int)==48)=decide (c=48):=by
 rw[Fc,EB,decide_eq_true_iff,<-UInt8.toNat_inj];exact⟨λh=>(show c.toNat=48 by omega),λh=>by rw[h];rfl⟩
theorem bs (l:List UInt8)(hl:l.length<=1000000000):AI C0 115 [str (sb l)] (Aq (C6 l)):=by
 refine Ag.walk w1 qh rfl λF=>?_
 have hsz:=Ce l;have cd:=mK l hl;refine sR 0 ?_;refine AC.seq ?_;refine AC.seq ?_
 match l,hl,hsz,cd with
 | [],_,hsz,_=>
  have e1:((((sb []).size:Nat):Int)==0)=true:=rfl;refine Ao w1 100 (by kernel_rfl) ?_;refine AT e1 ?_;refine AD kT ?_;refine AM ?_;refine sR 200 ?_;refine Ah ?_;exact AL rfl AA.out
 | [c],hl,hsz,cd=>
  have e1:((((sb [c]).size:Nat):Int)==0)=false:=rfl;have e2:decide ((((sb [c]).size:Nat):Int)>1)=false:=rfl;have ep:C6 [c]=[c].all Be:=by
   unfold C6 Kl
   by_cases h:c=48
   ·subst h;rfl
   ·simp[h]
  rw[ep];refine Ao w1 100 (by kernel_rfl) ?_;refine AT e1 ?_;refine AD kF ?_;simp only[e2];refine AD kF ?_;refine AM ?_;refine An ?_;refine sR 300 ?_;refine cI cd ?_;refine Ah ?_;exact AL rfl AA.out
 |c::d::l,hl,hsz,cd=>
  have hs2:(sb (c::d::l)).size=l.length+2:=hsz;have e1:((((sb (c::d::l)).size:Nat):Int)==0)=false:=Bs.2 (by omega);have e2:decide ((((sb (c::d::l)).size:Nat):Int)>1)=true:=AX (by omega);have e3:((((c::d::l).getD (Int.toNat 0) 0).toNat:Int)==48)=decide (c=48):=jx c;have ep:C6 (c::d::l)=if c=48 then false else(c::d::l).all Be:=by
   unfold C6 Kl
   by_cases h:c=48
   ·subst h;simp
   ·simp[h]
  rw[ep];refine Ao w1 100 (by kernel_rfl) ?_;refine AT e1 ?_;refine AD (Aj kF e2) ?_;refine AD (BW kT e2 e3 kF) ?_
  by_cases h:c=48
  ·rw[AX h,AG h]
   refine AM ?_;refine sR 200 ?_;refine Ah ?_;exact AL rfl AA.out
  ·rw[Ac h,AF h]
   refine AM ?_;refine An ?_;refine sR 300 ?_;refine cI cd ?_;refine Ah ?_;exact AL rfl AA.out
def Do (r:Rat):Bool:=decide (600<(Lib.decDigits r.num.natAbs).length)||decide (600<(Lib.decDigits r.den).length)
theorem kQ (l:List UInt8):BI l=(Bz l).length:=by
 have:=LK l
 unfold Bz;rw[Ba];omega
theorem Sp (l:List UInt8):Bz (Bn l)=B0 l/\BY (Bn l)=BY l/\Cr (Bn l)=Cr l/\decide (Bz l=[45,48])=(DL l&&decide (B0 l=[48])):=by
 cases hb:DL l
 ·have ed:Bn l=l:=by unfold Bn;rw[hb];rfl
  have en:DL (Bz l)=false:=by
   unfold Bz;cases l with
   |nil=>rfl
   |cons c l=>
    cases hk:BI (c::l)with
    |zero=>rfl
    |succ k=>exact hb
  have es:B0 l=Bz l:=by unfold B0 Bn;rw[en];rfl
  rw[ed,es];refine⟨rfl,rfl,rfl,?_⟩;rw[HR];refine Ac λh=>?_
  rw[h]at en;cases en
 ·cases l with
  |nil=>cases hb
  |cons c m=>
   have hc:c=45:=by simpa[DL]using hb
   subst hc;have ed:Bn (45::m)=m:=rfl;have e1:BI (45::m)=BI m+1:=by
    unfold BI;rw[PL,AG (by decide),Bo]
   have e2:Bz (45::m)=45::Bz m:=by unfold Bz;rw[e1,List.take_succ_cons]
   have e3:BY (45::m)=BY m:=by unfold BY;rw[e1,SH]
   have e4:Cr (45::m)=Cr m:=by unfold Cr;rw[e1,Bo];exact C4.2 (by omega)
   have e5:B0 (45::m)=Bz m:=by unfold B0;rw[e2];rfl
   rw[ed,e2,e3,e4,e5];refine⟨rfl,rfl,rfl,?_⟩;rw[GY];exact C4.2 (by simp)
theorem Pu (l:List UInt8):JU l=((!C6 (B0 l)||(DL l&&decide (B0 l=[48])))||(Cr l&&(!C6 (BY l)||decide (BY l=[48])||decide (BY l=[49])))):=by
 unfold JU;rw[(Sp l).2.2.2]
theorem mj {l:List UInt8}(h:C6 l=true):l≠[]:=(KK h).1
theorem bE {l:List UInt8}(h:0<l.length):(((l.getD (Int.toNat 0) 0).toNat:Int)==45)=DL l:=by
 cases l with
 |nil=>cases h
 |cons c l=>exact QU c l
theorem u6 (l:List UInt8)(hl:l.length<=100000):AI C0 72 [str (sb l)] (i64 (CV l)):=by
 refine Ag.walk w1 xT rfl λF=>?_
 have hsz:=Ce l;obtain⟨p1,p2,p3,-⟩:=Sp l;have hdl:(Bn l).length<=l.length:=by
  unfold Bn;split
  ·rw[Dq];omega
  ·exact Af _
 have hbf:=Pu l;have hchk1:(!C6 (B0 l)||(DL l&&decide (B0 l=[48])))=true->CV l=1:=λh=>by
  unfold CV;rw[hbf,h,Bool.true_or,AG rfl]
 have hchk2:(Cr l&&(!C6 (BY l)||decide (BY l=[48])||decide (BY l=[49])))=true->CV l=1:=λh=>by
  unfold CV;rw[hbf,h,Bool.or_true,AG rfl]
 have hne:C6 (B0 l)=true->0<l.length:=λh=>by
  cases l with
  |nil=>exact Ae rfl (mj h)
  |cons c l=>rw[Bo];omega
 refine sR 0 ?_;refine sR 100 ?_;refine Cw (α:=Nat) (λn=>⟨[(0,str (sb l)),(3,str (sb (Bn l)))],[],n⟩) (λ_=>True) ?_ ?_
 ·rcases Dk l.length with h0|h0
  ·have e0:l=[]:=E5 h0
   have e1:decide (((sb []).size:Int)>0)=false:=rfl;have ed:Bn l=l:=by rw[e0];rfl
   rw[ed,e0];refine sZ 200 ?_;refine AT e1 ?_;refine AD kF ?_;refine AM ?_;refine An ?_;exact⟨rfl,_,trivial,AK⟩
  ·have e0:decide (((sb l).size:Int)>0)=true:=AX (by omega)
   have e1:=bE h0;refine sZ 200 ?_;refine AD e0 ?_;refine AD (As kT e0 e1) ?_;cases hb:DL l
   ·have ed:Bn l=l:=by unfold Bn;rw[hb];rfl
    rw[ed];refine AM ?_;refine An ?_;exact⟨rfl,_,trivial,AK⟩
   ·have ed:Bn l=l.drop 1:=by unfold Bn;rw[hb];rfl
    have ee:(sb l).extract (Int.toNat 1) l.length=sb (Bn l):=by
     rw[Et,CA (Af _),ed];rfl
    refine AM ?_;refine Ao w1 300 (by kernel_rfl) ?_;refine AD (Aj hsz kN) ?_;rw[ee];exact⟨trivial,_,trivial,AK⟩
 rintro n0 -;have cs:=T8 (Bn l) (by omega);have hle:=LK (Bn l);have hszS:=Ce (Bn l);have hhs:Cr l=decide (BI (Bn l)<(Bn l).length):=p3.symm;have e10:(sb (Bn l)).extract 0 (BI (Bn l))=sb (B0 l):=by rw[<-p1,Et,Fd];rfl
 have e11:(sb (Bn l)).extract (BI (Bn l)+1) (Bn l).length=sb (BY l):=by rw[<-p2,Et,CA (Af _)];rfl
 have hNl:BI (Bn l)=(B0 l).length:=by rw[<-p1];exact kQ _
 have hDl:(BY l).length=(Bn l).length-(BI (Bn l)+1):=by rw[<-p2];unfold BY;rw[Dq]
 have pp:=λh1 h2=>T5 (Bn l) h1 h2 (by omega)
 unfold PF O6 at pp;rw[p1,p2,p3]at pp;have edef:CV l=if JU l then 1 else if 600<(B0 l).length\/600<(BY l).length then 4 else if Cr l=true/\Nat.gcd (dv (B0 l)) (dv (BY l))≠1 then 1 else 0:=rfl
 rw[hbf]at edef;generalize hN:B0 l=Nn at*;generalize hD:BY l=Dn at*;generalize hH:Cr l=hv at*;generalize hK:CV l=KnV at*;generalize Bn l=Sn at*;generalize BI Sn=k at*;clear p1 p2 p3 hbf hN hD hH hK;have cf:=bs Nn (by omega);have cf2:=bs Dn (by omega);have q0:=Ev Nn [48];have q1:=Ev Dn [48];have q2:=Ev Dn [49];refine sR 400 ?_;refine cI cs ?_;refine Cw (α:=Nat) (λn=>⟨[(0,str (sb l)),(3,str (sb Sn)),(4,i64 (k:Int))],[],n⟩) (λ_=>(!C6 Nn||(DL l&&decide (Nn=[48])))=false) ?_ ?_
 ·refine sZ 500 ?_
  refine AD (Aj hszS kN) ?_;refine AD e10 ?_;cases hp:C6 Nn
  ·rw[hp]at cf
   refine BD.same _ cf AJ ?_;refine BN ?_;simp only[SK];refine AD kT ?_;refine AM ?_;refine sR 600 ?_;refine Ah ?_;exact AL (by rw[hchk1 (by rw[hp];rfl)];rfl) AA.out
  ·rw[hp]at cf
   have hl0:=hne hp;have e1:=bE hl0;refine BD.same _ cf AJ ?_;refine BN ?_;simp only[PT];refine AD (As kF hsz e1) ?_;have q0':BJ (sb Nn) ⟨#[48]⟩=decide (Nn=[48]):=q0;cases hb:DL l
   ·refine AD kF ?_
    refine AM ?_;refine An ?_;exact⟨rfl,_,rfl,AK⟩
   ·refine AD (BW kT kF hszS kN) ?_
    refine AD (BW kT kF e10 q0') ?_
    by_cases h0:Nn=[48]
    ·rw[AX h0]
     refine AM ?_;refine sR 600 ?_;refine Ah ?_;exact AL (by rw[hchk1 (by simp[hp,hb,h0])];rfl) AA.out
    ·rw[Ac h0]
     refine AM ?_;refine An ?_;exact⟨rfl,_,by simp,AK⟩
 rintro n1 hb1;clear hchk1 hne cf q0;refine Cw (α:=Nat) (λn=>⟨[(0,str (sb l)),(3,str (sb Sn)),(4,i64 (k:Int))],[],n⟩) (λ_=>(hv&&(!C6 Dn||decide (Dn=[48])||decide (Dn=[49])))=false) ?_ ?_
 ·cases hv
  ·have e40:decide ((k:Int)<(Sn.length:Int))=false:=Ac (by have:=DN hhs.symm;omega)
   refine sZ 700 ?_;refine AT (Aj hszS e40) ?_;refine AD kF ?_;refine AM ?_;refine An ?_;exact⟨rfl,_,rfl,AK⟩
  ·have hkl:=Cz hhs.symm
   have e40:decide ((k:Int)<(Sn.length:Int))=true:=AX (by omega);have wk:IntKind.i64.wrap ((k:Int)+1)=((k+1:Nat):Int):=wI (by omega) (by omega);have q1':BJ (sb Dn) ⟨#[48]⟩=decide (Dn=[48]):=q1;have q2':BJ (sb Dn) ⟨#[49]⟩=decide (Dn=[49]):=q2;refine sZ 700 ?_;refine AT (Aj hszS e40) ?_;refine AD (BW kT wk hszS kN) ?_;simp only[e11];refine Ni kT ?_;cases hp:C6 Dn
   ·rw[hp]at cf2
    refine BD.same _ cf2 AJ ?_;refine AD kB ?_;refine AD kT ?_;refine AM ?_;refine sR 800 ?_;refine Ah ?_;exact AL (by rw[hchk2 (by simp[hp])];rfl) AA.out
   ·rw[hp]at cf2
    have e12:(sb Sn).extract (IntKind.i64.wrap ((k:Int)+1)).toNat (sb Sn).size=sb Dn:=by rw[wk,hszS,IX];exact e11
    refine BD.same _ cf2 AJ ?_;refine AD kB ?_;simp only[e12,q1']
    by_cases h48:Dn=[48]
    ·rw[AX h48]
     refine AD kT ?_;refine AM ?_;refine sR 800 ?_;refine Ah ?_;exact AL (by rw[hchk2 (by simp[h48])];rfl) AA.out
    ·rw[Ac h48]
     refine AD kB ?_;simp only[e12,q2']
     by_cases h49:Dn=[49]
     ·rw[AX h49]
      refine AM ?_;refine sR 800 ?_;refine Ah ?_;exact AL (by rw[hchk2 (by simp[h49])];rfl) AA.out
     ·rw[Ac h49]
      refine AM ?_;refine An ?_;exact⟨rfl,_,by simp,AK⟩
 rintro n2 hb2;clear hchk2 cf2 q1 q2 e10 e11 hsz;have hpN:C6 Nn=true:=by
  cases h:C6 Nn
  ·rw[h]at hb1;simp at hb1
  ·rfl
 have hpD:hv=true->C6 Dn=true:=λh0=>by
  cases h:C6 Dn
  ·rw[h,h0]at hb2;simp at hb2
  ·rfl
 rw[hb1,hb2]at edef;rw[AF (by decide)]at edef;have wl1:IntKind.i64.wrap ((Sn.length:Int)-(k:Int))=(Sn.length:Int)-(k:Int):=wI (by omega) (by omega);have wl2:IntKind.i64.wrap ((Sn.length:Int)-(k:Int)-1)=(Sn.length:Int)-(k:Int)-1:=wI (by omega) (by omega);have e91:decide ((Sn.length:Int)-(k:Int)-1>600)=decide (600<Dn.length):=C4.2 (by omega);refine Cw (α:=Nat) (λn=>⟨[(3,str (sb Sn)),(4,i64 (k:Int))],[],n⟩) (λ_=>Nn.length<=600/\Dn.length<=600) ?_ ?_
 ·by_cases g1:600<k
  ·have e9:decide ((k:Int)>600)=true:=AX (by omega)
   rw[AG (.inl (by omega))]at edef;refine sZ 900 ?_;refine AT e9 ?_;refine AD kT ?_;refine AM ?_;refine sR 1000 ?_;refine Ah ?_;exact AL (by rw[edef];rfl) AA.out
  ·have e9:decide ((k:Int)>600)=false:=Ac (by omega)
   refine sZ 900 ?_;refine AT e9 ?_;refine AD (CF kF hszS wl1 wl2 e91) ?_
   by_cases g2:600<Dn.length
   ·rw[AG (.inr g2)]at edef
    rw[AX g2];refine AM ?_;refine sR 1000 ?_;refine Ah ?_;exact AL (by rw[edef];rfl) AA.out
   ·rw[Ac g2]
    refine AM ?_;refine An ?_;exact⟨rfl,_,⟨by omega,by omega⟩,AK⟩
 rintro n3 ⟨g1,g2⟩;rw[AF (by omega)]at edef;clear e91 wl1 wl2 hb1 hb2;obtain⟨-,dN⟩:=KK hpN;refine Cw (α:=Nat) (λn=>⟨[],[],n⟩) (λ_=>KnV=0) ?_ ?_
 ·cases hv
  ·have e40:decide ((k:Int)<(Sn.length:Int))=false:=Ac (by have:=DN hhs.symm;omega)
   rw[AF (by simp)]at edef;refine sZ 1100 ?_;refine AT (Aj hszS e40) ?_;refine AM ?_;refine An ?_;exact⟨rfl,_,edef,AK⟩
  ·have hkl:=Cz hhs.symm
   have e40:decide ((k:Int)<(Sn.length:Int))=true:=AX (by omega);obtain⟨-,dD⟩:=KK (hpD rfl);have pa:=pp (by rw[KC dN];exact dN) (by rw[KC dD];exact dD);rw[AG rfl,M0 dN,M0 dD]at pa;have lN:(AY (dv Nn)).length<1000000:=DY (LB (CU (GE Nn dN) (NZ (by decide) Nn.length))) (by omega);have lD:(AY (dv Dn)).length<1000000:=DY (LB (CU (GE Dn dD) (NZ (by decide) Dn.length))) (by omega);have cg:AI C0 117 [rD ((dv Nn:Int)).natAbs,rD ((dv Dn:Int)).natAbs] (.sl false 1 ((AY (Nat.gcd (dv Nn) (dv Dn))).map Aa)):=Xo (dv Nn) (dv Dn) lN lD;have ht:=X9 (Nat.gcd (dv Nn) (dv Dn));have ed1:Nat.gcd (dv Nn) (dv Dn)≠1->KnV=1:=λh=>by rw[AG ⟨rfl,h⟩]at edef;exact edef
   have ed0:Nat.gcd (dv Nn) (dv Dn)=1->KnV=0:=λh=>by rw[AF (λhh=>hh.2 h)]at edef;exact edef
   clear edef;generalize Nat.gcd (dv Nn) (dv Dn)=gg at*;refine sZ 1100 ?_;refine AT (Aj hszS e40) ?_;refine AM ?_;refine sR 1200 ?_;refine cI pa ?_;refine sR 1300 ?_;refine cI cg ?_;rcases ht with⟨t1,a,ha,t2⟩|⟨t1,t2⟩
   ·have ha':=Dp ha
    have t1n:((((AY gg).map Aa).length:Int) != 1)=false:=by unfold bne;rw[t1];rfl
    have t2n:((a:Int) != 1) = !decide (gg=1):=by unfold bne;rw[t2]
    refine sZ 1400 ?_;refine AT t1n ?_;refine AD kF ?_;refine Bq kF ha' ?_;refine AD (Aj kF t2n) ?_
    by_cases hg1:gg=1
    ·rw[AX hg1]
     refine AM ?_;refine An ?_;exact⟨rfl,_,ed0 hg1,AK⟩
    ·rw[Ac hg1]
     refine AM ?_;refine sR 1500 ?_;refine Ah ?_;exact AL (by rw[ed1 hg1];rfl) AA.out
   ·have edf:=ed1 t2
    have t1n:((((AY gg).map Aa).length:Int) != 1)=true:=by unfold bne;rw[t1];rfl
    refine sZ 1400 ?_;refine AT t1n ?_;refine AD kT ?_;refine AM ?_;refine sR 1500 ?_;refine Ah ?_;exact AL (by rw[edf];rfl) AA.out
 rintro n4 h0;refine sR 1600 ?_;refine Ah ?_;exact AL (by rw[h0];rfl) AA.out
theorem mI {n k:Nat}(hn:n≠0)(hk:k<10):Lib.decDigits (n*10+k)=Lib.decDigits n++[UInt8.ofNat (48+k)]:=by
 rw[Lib.decDigits,dif_neg (by omega)]
 congr 2
 ·omega
 ·congr 2;omega
theorem Xr {c:UInt8}(h:Be c=true):UInt8.ofNat (48+(c.toNat-48))=c:=by
 obtain⟨h1,h2⟩:=LH h;rw[<-UInt8.toNat_inj,QM _ (by omega)];omega
theorem oS (l:List UInt8)(c:UInt8):dv (l++[c])=dv l*10+(c.toNat-48):=by
 rw[N8];simp[dv,Gr]
theorem rV:∀(n:Nat) (l:List UInt8),l.length=n->l≠[]->l.all Be=true->l.head? ≠ some 48->dv l≠0/\Lib.decDigits (dv l)=l:=λn=>by
 induction n with
 |zero=>intro l h0 h1;exact Ae (E5 h0) h1
 |succ n ih=>
  intro l h0 h1 h2 h3;rcases SC l with rfl|⟨m,c,rfl⟩
  ·exact Ae rfl h1
  ·rw[SB]at h0 h1 h2 h3⊢
   rw[Jz,BO]at h2;have hc:Be c=true:=by simpa using h2.2
   obtain⟨c1,c2⟩:=LH hc;rw[oS]
   by_cases hm:m=[]
   ·subst hm
    have hc48:c≠48:=λh=>h3 (by rw[h];rfl)
    have hcn:c.toNat≠48:=λh=>hc48 (UInt8.toNat_inj.1 h)
    have e0:dv []*10+(c.toNat-48)=c.toNat-48:=by simp[dv,Gr]
    rw[e0];refine⟨by omega,?_⟩;rw[Lib.decDigits,dif_pos (by omega),Xr hc];rfl
   ·have hh:m.head? ≠ some 48:=by
     cases m with
     |nil=>exact Ae rfl hm
     |cons a m=>exact h3
    obtain⟨i1,i2⟩:=ih m (by rw[Bh,Fu]at h0;omega) hm h2.1 hh;refine⟨by omega,?_⟩;rw[mI i1 (by omega),i2,Xr hc]
theorem S2 {l:List UInt8}(h:C6 l=true):Lib.decDigits (dv l)=l/\(l≠[48]->dv l≠0):=by
 obtain⟨h1,h2⟩:=KK h
 by_cases h0:l=[48]
 ·subst h0
  refine⟨?_,λhh=>Ae rfl hh⟩;show Lib.decDigits 0=[48];rw[Lib.decDigits,dif_pos (by decide)];rfl
 ·have h3:l.head? ≠ some 48:=by
   unfold C6 at h;rw[BO,Ac h0,Bool.false_or]at h
   have:=h.2
   simpa using this
  obtain⟨a,b⟩:=rV _ l rfl h1 h2 h3;exact⟨b,λ_=>a⟩
theorem YW:∀ {l:List UInt8},BI l<l.length->l.drop (BI l)=47::l.drop (BI l+1)
 | [],h=>by cases h
 |c::l,h=>by
  by_cases hc:c=47
  ·subst hc;rfl
  ·have e1:BI (c::l)=BI l+1:=by
    unfold BI;rw[PL,AG (by simpa using hc),Bo]
   rw[e1,Bo]at h;rw[e1,SH,SH];exact YW (by omega)
def Gn (l:List UInt8):Nat:=if Cr l then dv (BY l)else 1
def CO (l:List UInt8):Rat:=mkRat (rv (Bz l)) (Gn l)
theorem jo {n:Int}{d:Nat}(hd:d≠0)(h:Nat.gcd n.natAbs d=1):(mkRat n d).num=n/\(mkRat n d).den=d:=by
 obtain⟨q1,q2⟩:=Tc (x:=n) hd;rw[h,Nat.div_one]at q1 q2;rw[RA]at q1;exact⟨q1,q2⟩
theorem QL {l:List UInt8}(h:CV l=0):JU l=false/\(B0 l).length<=600/\(BY l).length<=600/\(Cr l=true->Nat.gcd (dv (B0 l)) (dv (BY l))=1):=by
 unfold CV at h;cases hb:JU l
 ·rw[hb,AF (by decide)]at h
  split at h
  ·cases h
  ·rename_i h1
   split at h
   ·cases h
   ·rename_i h2
    refine⟨rfl,by omega,by omega,λh3=>?_⟩;rcases Nat.decEq (Nat.gcd (dv (B0 l)) (dv (BY l))) 1 with h4|h4
    ·exact Ae ⟨h3,h4⟩ h2
    ·exact h4
 ·rw[hb,AG rfl]at h;cases h
theorem N7 {l:List UInt8}(h:CV l=0):(CO l).num=rv (Bz l)/\(CO l).den=Gn l/\BM (CO l)=l/\(rv (Bz l)).natAbs=dv (B0 l):=by
 obtain⟨h1,h2,h3,h4⟩:=QL h;rw[Pu]at h1;simp only[JD]at h1;obtain⟨⟨b1,b2⟩,b3⟩:=h1;have p1:C6 (B0 l)=true:=by simpa using b1
 obtain⟨d1,d2⟩:=S2 p1;have hab:(rv (Bz l)).natAbs=dv (B0 l):=by
  show(rv (Bz l)).natAbs=dv (Bn (Bz l));unfold rv;split<;>omega
 have hdd:Cr l=true->C6 (BY l)=true/\BY l≠[48]/\BY l≠[49]:=λhs=>by
  rw[hs,GY]at b3;simp only[JD]at b3;exact⟨by simpa using b3.1.1,DN b3.1.2,DN b3.2⟩
 have hd0:Gn l≠0:=by
  unfold Gn;cases hs:Cr l
  ·simp
  ·obtain⟨e1,e2,e3⟩:=hdd hs
   simpa using(S2 e1).2 e2
 have hg:Nat.gcd (rv (Bz l)).natAbs (Gn l)=1:=by
  rw[hab];unfold Gn;cases hs:Cr l
  ·simp
  ·simpa using h4 hs
 obtain⟨m1,m2⟩:=jo hd0 hg;refine⟨m1,m2,?_,hab⟩;have hi:Lib.itoa (rv (Bz l))=Bz l:=by
  cases hb:DL (Bz l)
  ·have e1:B0 l=Bz l:=by unfold B0 Bn;rw[hb];rfl
   rw[e1]at d1;have e2:rv (Bz l)=(dv (Bz l):Int):=by unfold rv Bn;rw[hb];rfl
   rw[e2];unfold Lib.itoa;rw[AF (by omega)];exact d1
  ·obtain⟨m,hm⟩:∃m,Bz l=45::m:=by
    cases hn:Bz l with
    |nil=>rw[hn]at hb;cases hb
    |cons c m=>
     rw[hn]at hb;exact⟨m,by rw[show c=45 by simpa[DL]using hb]⟩
   have e1:B0 l=m:=by unfold B0;rw[hm];rfl
   have hne:B0 l≠[48]:=λh=>by
    have:=(Sp l).2.2.2
    rw[b2,hm]at this;have h2:=DN this;rw[e1]at h;exact h2 (by rw[h])
   have hpos:=d2 hne;rw[e1]at d1 hpos;have e2:rv (Bz l) = -(dv m:Int):=by rw[hm];rfl
   rw[e2];unfold Lib.itoa;rw[AG (by omega),MB,EQ,d1,hm]
 unfold BM;rw[show(CO l).num=rv (Bz l)from m1,show(CO l).den=Gn l from m2,hi];have hle:=LK l;cases hs:Cr l
 ·have e1:Gn l=1:=by unfold Gn;rw[hs];rfl
  have e2:=DN (p:=BI l<l.length) hs;rw[AG e1];unfold Bz;exact CA (by omega)
 ·obtain⟨e1,e2,e3⟩:=hdd hs
  have e4:Gn l=dv (BY l):=by unfold Gn;rw[hs];rfl
  have e5:=(S2 e1).1;have e6:dv (BY l)≠1:=λh=>by
   rw[h,Lib.decDigits,dif_pos (by decide)]at e5;exact e3 e5.symm
  rw[e4,AF e6,e5];unfold Bz BY;rw[<-YW (Cz hs),E2]
theorem Pp {l:List UInt8}(h:CV l=0):(B0 l).all Be=true/\(Cr l=true->(BY l).all Be=true):=by
 obtain⟨h1,-,-,-⟩:=QL h;rw[Pu]at h1;simp only[JD]at h1;obtain⟨⟨b1,-⟩,b3⟩:=h1;refine⟨(KK (by simpa using b1)).2,λhs=>?_⟩;rw[hs,GY]at b3;simp only[JD]at b3;exact(KK (by simpa using b3.1.1)).2
theorem Mn {l:List UInt8}(h:CV l=0):rk (CO l) 600:=by
 obtain⟨m1,m2,-,m4⟩:=N7 h;obtain⟨-,h2,h3,-⟩:=QL h;obtain⟨p1,p2⟩:=Pp h;have hb:∀k,(10:Nat)^k<=BB^k:=λk=>NZ (by decide) k
 refine⟨?_,?_⟩
 ·rw[m1,m4]
  exact BQ (Gw (CU (GE _ p1) (hb _))) h2
 ·rw[m2]
  unfold Gn;cases hs:Cr l
  ·exact BQ (Gw (n:=1) (k:=1) (by decide)) (by decide)
  ·exact BQ (Gw (CU (GE _ (p2 hs)) (hb _))) h3
theorem Qx {l:List UInt8}(h:CV l=0):FR (CO l) (GG l) 600:=by
 obtain⟨m1,m2,-,-⟩:=N7 h;refine⟨⟨Cf _,?_,?_⟩,Mn h⟩
 ·show(AW (rv (Bz l))).z=_
  rw[Dl,m1]
 ·show(if Cr l then dv (BY l)else 1)=_
  rw[m2];rfl
theorem RI {l:List UInt8}(hl:l.length<=100000)(h:CV l=0):AI C0 111 [str (sb l)] (GG l).D:=oZ l hl (Pp h).1 (Pp h).2
end Go.Ide
