/- The layer of own lemmas and contracts, part 8. -/
import Derived.Test.YtegpdgcahcikoaaGreatDoorO7
import Derived.Test.YtegpdgcahcikoaaGreatDoorO3
set_option linter.unusedVariables false
set_option linter.unusedSimpArgs false
namespace Go.Ide
open Go.Proofs Go.RowKit
set_option maxRecDepth 20000
def Ct (b:Nat):Bool:=((decide (97<=b)&&decide (b<=122))||(decide (65<=b)&&decide (b<=90)))||(decide (48<=b)&&decide (b<=57))||b==45||b==95||b==46
def Dg (l:List UInt8):Bool:=l.all (λb=>Ct b.toNat)&&(decide (1<=l.length)&&decide (l.length<=24))
theorem fV (s:ByteArray)(p:Nat)(hp:p<s.size):s.data.toList[p]?=some (s.get! p):=by
 have hp':p<s.data.size:=hp;rw[JB,Bn hp']
 congr 1
 show _=s.data[p]!;rw[getElem!_pos s.data p hp']
theorem Y0 (s:ByteArray)(p:Nat)(h:(s.get! p).toNat<128):Utf8.decode s p=((s.get! p).toNat,1):=by
 unfold Utf8.decode;exact AG h
theorem m5 (s:ByteArray)(p:Nat)(h:¬(s.get! p).toNat<128):128<=(Utf8.decode s p).1:=by
 unfold Utf8.decode;dsimp only;simp only[DW];rw[AF h];have hv:128<=Utf8.runeError:=by decide
 repeat' split
 all_goals first|exact hv|(rename_i h1;simp only[ge_iff_le,BR,Gc]at h1;dsimp only;omega)
theorem kP (s:ByteArray):AK C0 75 [str s] (Aq (Dg s.data.toList)):=by
 refine Ak.walk w1 eE rfl λB=>?_
 have hsz:s.data.toList.length=s.size:=H4;refine fR 0 ?_;refine AC.seq ?_;refine AC.seq ?_;refine zK w1 100 [0] 1 rfl (by kernel_rfl) rfl ?_;refine CA ?_;intro F hF;refine At ?_;refine AC.block ?_;refine GY (α:=Nat×Nat) (λp=>⟨[(0,str s),(7,.optr 101 2 0 0 0)],[],p.2⟩) (λp=>s.size-p.1) (λp F=>Mm C0 B F 101 2 s p.1/\p.1<=s.size/\(s.data.toList.take p.1).all (λb=>Ct b.toNat)=true) (0,3) ⟨hF,BU _,rfl⟩ AJ ?_;rintro⟨p,n⟩ F ⟨hIt,hp,hall⟩;dsimp only at hIt hp hall⊢;refine AC.seq ?_;refine zJ w1 200 0 [1] rfl (by kernel_rfl) s p ?_;refine And.intro hIt (And.intro (λhlt F hIt=>?_) (λhge=>?_))
 ·refine CA ?_
  generalize hc:(Utf8.decode s p).1=c;refine AC.seq ?_;refine AM ?_;refine An ?_;refine AC.block ?_;refine fR 300 ?_;refine EX ⟨[(0,str s),(7,.optr 101 2 0 0 0),(4,.prim (.int .i32 c)),(5,Aq ((decide ((c:Int)>=97)&&decide ((c:Int)<=122))||(decide ((c:Int)>=65)&&decide ((c:Int)<=90))))],[],n+30⟩ (Ao w1 400 (by kernel_rfl) ?_) ?_
  ·repeat'(first|(refine And.intro (by exact CC) ?_;refine At ?_)|((refine By (λhb=>?_) (λhb=>?_))<;>(try simp only[Bj,Bw]at hb)<;>(try simp only[hb])<;>(refine At ?_)))
   all_goals exact AJ
  generalize hL:((decide ((c:Int)>=97)&&decide ((c:Int)<=122))||(decide ((c:Int)>=65)&&decide ((c:Int)<=90)))=L;refine EX ⟨[(0,str s),(7,.optr 101 2 0 0 0),(47,Aq ((((!L && !(decide ((c:Int)>=48)&&decide ((c:Int)<=57)))&&((c:Int) != 45))&&((c:Int) != 95))&&((c:Int) != 46)))],[],n+60⟩ (Ao w1 500 (by kernel_rfl) ?_) ?_
  ·repeat'(first|(refine And.intro (by exact CC) ?_;refine At ?_)|((refine By (λhb=>?_) (λhb=>?_))<;>(try simp only[Bj,Bw]at hb)<;>(try simp only[hb])<;>(refine At ?_)))
   all_goals exact AJ
  have hbad:((((!L && !(decide ((c:Int)>=48)&&decide ((c:Int)<=57)))&&((c:Int) != 45))&&((c:Int) != 95))&&((c:Int) != 46)) = !(Ct c):=by
   subst hL;rw[Fk];simp only[Ct,BR,Bj,JC,Bool.and_eq_false_iff,If,bne_iff_ne,ne_eq,Br];omega
  rw[hbad];refine AM ?_
  (refine By (λhb=>?_) (λhb=>?_))<;>(try simp only[Bj,Bw]at hb)<;>(try simp only[hb])
  ·have hbf:Ct c=false:=by simpa using hb
   refine fR 600 ?_;refine Ai ?_;refine AL ?_ AA.out;have hb8:Ct (s.get! p).toNat=false:=by
    by_cases hlow:(s.get! p).toNat<128
    ·rw[Y0 s p hlow]at hc
     rw[show(s.get! p).toNat=c from hc];exact hbf
    ·unfold Ct;simp;omega
   have:Dg s.data.toList=false:=by
    unfold Dg
    have:s.data.toList.all (λb=>Ct b.toNat)=false:=by
     rw[List.all_eq_false];exact⟨_,Aw (fV s p hlt),by rw[hb8];simp⟩
    rw[this];rfl
   rw[this]
  ·have hbt:Ct c=true:=by simpa using hb
   have hclt:c<128:=by
    unfold Ct at hbt;simp only[Jr,BR,Gc,EE]at hbt;omega
   have hlow:(s.get! p).toNat<128:=by
    apply Dc;intro h
    have:=m5 s p h
    omega
   rw[Y0 s p hlow]at hc hIt;refine An ?_;refine⟨(p+1,n+60),⟨hIt,hlt,?_⟩,by dsimp only;omega,AJ⟩;rw[Da,fV s p hlt,Js,hall];simp;rw[show(s.get! p).toNat=c from hc];exact hbt
 ·have hpe:p=s.size:=by omega
  refine CA ?_;refine AC.seq ?_;refine AM ?_;refine B9 ?_;refine EX ⟨[(2,Aq (decide (1<=(s.size:Int))&&decide ((s.size:Int)<=24)))],[],n+60⟩ (Ao w1 700 (by kernel_rfl) ?_) ?_
  ·repeat'(first|(refine And.intro (by exact CC) ?_;refine At ?_)|((refine By (λhb=>?_) (λhb=>?_))<;>(try simp only[Bj,Bw]at hb)<;>(try simp only[hb])<;>(refine At ?_)))
   all_goals exact AJ
  refine Ai ?_;refine AL ?_ AA.out;have hall':s.data.toList.all (λb=>Ct b.toNat)=true:=by rw[<-hall,hpe,<-hsz,Cf]
  unfold Dg;rw[hall',Gd,hsz];have e:(decide (1<=(s.size:Int))&&decide ((s.size:Int)<=24))=(decide (1<=s.size)&&decide (s.size<=24)):=by
   rw[Fk];simp only[BR,Gc];omega
  rw[<-e]
def VG:Value->Value->Bool
 | .int .i64 a,.int .i64 b=>a==b
 | .string a,.string b=>a.data.toList==b.data.toList
 | .bool a,.bool b=>a==b
 | .slice none 0 0,.slice none 0 0=>true
 |_,_=>false
theorem mj {a b:Value}(h:VG a b=true):a=b:=by
 unfold VG at h;split at h
 ·rw[eq_of_beq h]
 ·rename_i a b
  have:=eq_of_beq h
  congr 1
  exact ByteArray.ext (Array.toList_inj.1 this)
 ·rw[eq_of_beq h]
 ·rfl
 ·cases h
def K0 (f:D->D->Bool):List D->List D->Bool
 | [],[]=>true
 |a::l,b::m=>f a b&&K0 f l m
 |_,_=>false
theorem RP {f:D->D->Bool}(hf:∀a b,f a b=true->a=b):∀ {l m:List D},K0 f l m=true->l=m
 | [],[],_=>rfl
 |a::l,b::m,h=>by
  simp only[K0,BR]at h;rw[hf a b h.1,RP hf h.2]
 | [],_::_,h=>by simp[K0]at h
 |_::_,[],h=>by simp[K0]at h
def Ni:Nat->D->D->Bool
 | 0,_,_=>false
 |n+1,a,b=>match a,b with
  | .prim a,.prim b=>VG a b
  | .agg l,.agg m=>K0 (Ni n) l m
  | .sl x y l,.sl x' y' m=>(x==x')&&Nat.beq y y'&&K0 (Ni n) l m
  |_,_=>false
theorem Uf:∀(n:Nat) (a b:D),Ni n a b=true->a=b
 | 0,_,_,h=>by simp[Ni]at h
 |n+1,a,b,h=>by
  unfold Ni at h;split at h
  ·rw[mj h]
  ·rw[RP (Uf n) h]
  ·simp only[BR]at h
   rw[eq_of_beq h.1.1,B5 h.1.2,RP (Uf n) h.2]
  ·cases h
def zZ:Nat->Nat->List UInt8
 | 0,_=>[]
 |k+1,u=>match Nat.blt u 10 with
  |true=>[UInt8.ofNat (48+u)]
  |false=>zZ k (u/10)++[UInt8.ofNat (48+u%10)]
def Sb (t:Nat)(name:String):Option Nat:=match Nat.beq t 122 with
 |true=>match decide (name = "Cmp")with
  |true=>some 240
  |false=>none
 |false=>none
theorem bE (t:Nat)(name:String)(f:Nat)(h:Sb t name=some f)(v:Value)(w:World):(method (C0.P.types.size+Made.depth) t v name).run C0.P w=.ok (f,v) w:=by
 unfold Sb at h;split at h<;>try(cases h;done)
 rename_i ht;split at h<;>try(cases h;done)
 rename_i hn;obtain rfl:=B5 ht;obtain rfl:=DE hn;cases h
 kernel_rfl
def yW:A0:=⟨.arr 256 1 false,256,256,true,.agg (Array.replicate 256 (.bool false))⟩
noncomputable def Pu (t:Nat):Option A0:=match Nat.beq t 322 with
 |true=>some yW
 |false=>Ps.get t
theorem Vc:Cr C0.P Pu:=λt i h=>by
 unfold Pu at h;split at h
 ·rename_i ht
  obtain rfl:=B5 ht;cases h
  kernel_rfl
 ·exact gT t i h
set_option maxHeartbeats 2000000
def Bg (c:UInt8):Bool:=Nat.ble 48 c.toNat&&Nat.ble c.toNat 57
def HL:D:=.agg ((List.range 256).map λi=>Aq (Nat.ble 48 i&&Nat.ble i 57))
abbrev Si:List UInt8:=[48,49,50,51,52,53,54,55,56,57]
noncomputable def X4:EV:=⟨Pu,MJ.get,Nj.get,λ_=>false,λ_ _=>none,λ_ _=>none,Ko⟩
theorem VS:FM C0 X4:=⟨Vc,SK,Jv,λ_ _ _ h=>by simp[X4]at h,by kernel_rfl,λ_ _ _ h=>by simp[X4]at h,Q5⟩
theorem w4:DK C0 X4:=VS.w
theorem jE:AK C0 304 [str (sb Si)] (.tup [HL,Aq true]):=CF VS 1000 40 (by kernel_rfl)
def Va (o:Option D)(b:Bool):Bool:=match o with
 |some (.prim (.bool c))=>c==b
 |_=>false
theorem lM {o:Option D}{b:Bool}(h:Va o b=true):o=some (Aq b):=by
 unfold Va at h;split at h
 ·rw[EE]at h;subst h;rfl
 ·cases h
theorem gx:((List.range 256).all λc=>Va ((Ge X4 1000 40).1 311 [.pptr HL,.prim (.int .u8 (c:Nat))]) (Nat.ble 48 c&&Nat.ble c 57))=true:=by kernel_rfl
theorem WQ (c:UInt8):AK C0 311 [.pptr HL,.prim (.int .u8 (c.toNat:Nat))] (Aq (Bg c)):=by
 refine CF VS 1000 40 ?_;have h:=CQ.1 gx c.toNat (List.mem_range.2 c.toNat_lt);exact lM h
instance:AT HL:=⟨λc hc=>by
 change c∈(List.range 256).map (λi=>Aq (Nat.ble 48 i&&Nat.ble i 57))at hc;obtain⟨i,_,rfl⟩:=List.mem_map.1 hc;exact .prim _⟩
def GP (l:List UInt8):List UInt8:=(l.reverse.dropWhile Bg).reverse
theorem j6 (m:List UInt8)(c:UInt8):GP (m++[c])=if Bg c then GP m else m++[c]:=by
 unfold GP;rw[List.reverse_append,List.reverse_singleton,List.singleton_append,Nc];split
 ·rfl
 ·rw[List.reverse_cons,List.reverse_reverse]
theorem nR (l:List UInt8):((GP l).dropWhile Bg=[])↔l.all Bg=true:=by
 constructor
 ·intro h
  have h1:∀m:List UInt8,m.dropWhile Bg=[]->m.all Bg=true:=λm=>by
   induction m with
   |nil=>intro _;rfl
   |cons c m ih=>
    intro hm;rw[Nc]at hm;split at hm
    ·rename_i hc
     rw[Fl,hc,ih hm];rfl
    ·cases hm
  have h2:(l.reverse.dropWhile Bg).all Bg=true:=by
   have:=h1 _ h
   unfold GP at this
   rwa [List.all_reverse]at this
  have h3:∀m:List UInt8,(m.dropWhile Bg).all Bg=true->m.all Bg=true:=λm=>by
   induction m with
   |nil=>intro _;rfl
   |cons c m ih=>
    intro hm;rw[Nc]at hm;split at hm
    ·rename_i hc
     rw[Fl,hc,ih hm];rfl
    ·exact hm
  have:=h3 _ h2
  rwa [List.all_reverse]at this
 ·intro h
  have h1:∀m:List UInt8,m.all Bg=true->m.dropWhile Bg=[]:=λm=>by
   induction m with
   |nil=>intro _;rfl
   |cons c m ih=>
    intro hm;rw[Fl,BR]at hm;rw[Nc,AG hm.1];exact ih hm.2
  have hx:=h1 l.reverse (by rw[List.all_reverse];exact h);unfold GP;rw[hx];rfl
theorem iV (l:List UInt8)(hl:l.length<=1000000000):AK C0 305 [str (sb l),.pptr HL] (str (sb (l.dropWhile Bg))):=by
 refine Ak.walk w1 bo rfl λF=>?_
 have hps:AT HL:=AI;have hcc:=WQ;generalize HL=sd at*;refine sR 0 ?_;refine AC.seq ?_;refine AC.block ?_;refine AC.loop (α:=List UInt8×Nat) (λp=>⟨[(0,str (sb p.1)),(1,.pptr sd)],[],p.2⟩) (λp=>p.1.length) (λp=>p.1.dropWhile Bg=l.dropWhile Bg/\p.1.length<=l.length) (l,_) ⟨rfl,Af _⟩ AJ ?_;rintro⟨m,n⟩ F ⟨h1,h2⟩;dsimp only at h1 h2⊢;refine AC.seq ?_;refine AC.seq ?_;cases m with
 |nil=>
  have e1:decide (((sb []).size:Int)>0)=false:=rfl;refine Ao w1 100 (by kernel_rfl) ?_;refine AU e1 ?_;refine AM ?_;refine B9 ?_;refine sR 400 ?_;refine Ai ?_;exact AL (by rw[<-h1];rfl) AA.out
 |cons c m=>
  have hsz:=Cg (c::m);have e1:decide (((sb (c::m)).size:Int)>0)=true:=AX (by rw[hsz,Bo];omega);have hx:(((sb (c::m)).data.toList.getD ((0:Int)).toNat 0).toNat:Int)=(c.toNat:Int):=rfl;have b1:(0:Int)<((sb (c::m)).size:Int):=by rw[hsz,Bo];omega
  have b2:(1:Int)<=((sb (c::m)).size:Int):=by omega
  have e3:(sb (c::m)).extract ((1:Int)).toNat (sb (c::m)).size=sb m:=by
   rw[Eu,hsz,B8 (Af _)];rfl
  have cc:=hcc c;refine Ao w1 100 (by kernel_rfl) ?_;refine AU e1 ?_;refine AM ?_;refine An ?_;refine AC.block ?_;refine AC.seq ?_;refine sZ 200 ?_;refine AU hx ?_;refine cI cc ?_;rcases hb:Bg c with _|_
  ·refine AM ?_
   refine B9 ?_;refine sR 400 ?_;refine Ai ?_;refine AL ?_ AA.out;rw[<-h1,Nc,AF (by rw[hb];simp)]
  ·refine AM ?_
   refine An ?_;refine Ao w1 300 (by kernel_rfl) ?_;refine AU e3 ?_;refine⟨(m,_),⟨?_,?_⟩,?_,AJ⟩
   ·rw[<-h1,Nc,AG hb]
   ·rw[Bo]at h2;dsimp only;omega
   ·show m.length<m.length+1;omega
theorem iQ (l:List UInt8)(hl:l.length<=1000000000):AK C0 306 [str (sb l),.pptr HL] (str (sb (GP l))):=by
 refine Ak.walk w1 bp rfl λF=>?_
 have hps:AT HL:=AI;have hcc:=WQ;generalize HL=sd at*;refine sR 0 ?_;refine AC.seq ?_;refine AC.block ?_;refine AC.loop (α:=List UInt8×Nat) (λp=>⟨[(0,str (sb p.1)),(1,.pptr sd)],[],p.2⟩) (λp=>p.1.length) (λp=>GP p.1=GP l/\p.1.length<=l.length) (l,_) ⟨rfl,Af _⟩ AJ ?_;rintro⟨m,n⟩ F ⟨h1,h2⟩;dsimp only at h1 h2⊢;refine AC.seq ?_;refine AC.seq ?_;rcases SP m with rfl|⟨m,c,rfl⟩
 ·have e1:decide (((sb []).size:Int)>0)=false:=rfl
  refine Ao w1 100 (by kernel_rfl) ?_;refine AU e1 ?_;refine AM ?_;refine B9 ?_;refine sR 400 ?_;refine Ai ?_;exact AL (by rw[<-h1];rfl) AA.out
 ·rw[SO]at h1 h2⊢
  have hsz:=Cg (m++[c]);rw[Bc,Ek]at hsz h2;have e1:decide (((sb (m++[c])).size:Int)>0)=true:=AX (by rw[hsz];omega);have wk1:IntKind.i64.wrap (((sb (m++[c])).size:Int)-1)=(m.length:Int):=by rw[hsz,wI (by omega) (by omega)];omega
  have hx:(((sb (m++[c])).data.toList.getD (((m.length:Nat):Int)).toNat 0).toNat:Int)=(c.toNat:Int):=by
   show(((m++[c]).getD m.length 0).toNat:Int)=_;simp
  have b1:((m.length:Nat):Int)<((sb (m++[c])).size:Int):=by rw[hsz];omega
  have e3:(sb (m++[c])).extract 0 (((m.length:Nat):Int)).toNat=sb m:=by
   rw[Eu];simp
  have cc:=hcc c;have ht:=j6 m c;refine Ao w1 100 (by kernel_rfl) ?_;refine AU e1 ?_;refine AM ?_;refine An ?_;refine AC.block ?_;refine AC.seq ?_;refine sZ 200 ?_;refine AU (Ah wk1 hx) ?_;refine cI cc ?_;rcases hb:Bg c with _|_
  ·rw[AF (by rw[hb];simp)]at ht
   refine AM ?_;refine B9 ?_;refine sR 400 ?_;refine Ai ?_;exact AL (by rw[<-h1,ht]) AA.out
  ·rw[AG hb]at ht
   refine AM ?_;refine An ?_;refine Ao w1 300 (by kernel_rfl) ?_;refine AU (Ah wk1 e3) ?_;refine⟨(m,_),⟨by rw[<-h1,ht],by dsimp only;omega⟩,?_,AJ⟩;dsimp only;rw[Bc,Ek];omega
namespace TrimW
theorem w1:DK C0 X4:=w4
theorem trim_ok (l:List UInt8)(hl:l.length<=1000000000):AK C0 293 [str (sb l),str (sb Si)] (str (sb ((GP l).dropWhile Bg))):=by
 refine Ak.walk w1 bn rfl λF=>?_
 have cm:=jE;have c1:=iQ l hl;have hlr:(GP l).length<=1000000000:=by
  unfold GP;rw[List.length_reverse];exact BX (List.dropWhile_sublist _).length_le (by rw[List.length_reverse];exact hl)
 have c2:=iV (GP l) hlr;have hps:AT HL:=AI;have eS:=Ex l [];have e2:(((sb Si).size:Int)==1)=false:=rfl;have e4:BK (sb Si) (sb [])=false:=by rw[Ex];exact Ag (by simp)
 have hfit:Bu true 256 HL:=by
  have h:((List.range 256).map λi=>Aq (Nat.ble 48 i&&Nat.ble i 57)).length=256:=by rw[Ac,List.length_range]
  have:=Bu.agg (ds:=(List.range 256).map λi=>Aq (Nat.ble 48 i&&Nat.ble i 57))
  rw[h]at this;exact this
 refine sR 0 ?_
 by_cases h0:l=[]
 ·subst h0
  have eS':BK (sb []) (sb [])=true:=by rw[Ex];exact AX rfl
  refine AC.seq ?_;refine sZ 100 ?_;refine AU eS' ?_;refine AE (Ah eS' kT) ?_;refine AM ?_;refine sR 200 ?_;refine Ai ?_;exact AL rfl AA.out
 ·rw[Ag h0]at eS
  refine AC.seq ?_;refine sZ 100 ?_;refine AU eS ?_;refine AE (As eS e4 kF) ?_;refine AE (As eS e4 kF) ?_;refine AM ?_;refine An ?_;refine AC.seq ?_;refine sZ 300 ?_;refine AU e2 ?_;refine AE e2 ?_;refine AE e2 ?_;refine AM ?_;refine An ?_;refine AC.seq ?_;refine sR 500 ?_;refine BE.same _ cm AI ?_;refine At ?_;generalize HL=sd at*
  repeat(refine D7 rfl rfl ?_;refine IH (λ_ _=>rfl) ?_)
  refine OA (And.intro (by repeat'(first|exact hfit|refine And.intro ?_ ?_|exact CC)) ?_);refine At ?_;refine sR 600 ?_;refine AM ?_;refine sR 700 ?_;refine BE.own _ (NT c1 rfl ?_ AI (Jf.prim _)) ?_
  ·intro i x y hx hy
   match i with
   | 0=>simp at hx hy;subst hx;subst hy;exact DT.refl _ _
   | 1=>simp at hx hy;subst hx;subst hy;exact DT.ptr rfl rfl rfl rfl
   |i+2=>simp at hx
  rintro d H' n' ⟨rfl,rfl,rfl⟩;refine BP ?_;refine BE.own _ (NT c2 rfl ?_ AI (Jf.prim _)) ?_
  ·intro i x y hx hy
   match i with
   | 0=>simp at hx hy;subst hx;subst hy;exact DT.refl _ _
   | 1=>simp at hx hy;subst hx;subst hy;exact DT.ptr rfl rfl rfl rfl
   |i+2=>simp at hx
  rintro d H' n' ⟨rfl,rfl,rfl⟩;refine BP ?_;refine Ai ?_;exact AL rfl AA.out
end TrimW
def Gw (a:Nat)(l:List UInt8):Nat:=l.foldl (λa c=>a*10+(c.toNat-48)) a
def dv (l:List UInt8):Nat:=Gw 0 l
theorem Zx (l:List UInt8):∀a,Gw a l=a*10^l.length+dv l:=by
 induction l with
 |nil=>intro a;simp[Gw,dv]
 |cons c l ih=>
  intro a;have h1:∀b,Gw b (c::l)=Gw (b*10+(c.toNat-48)) l:=λb=>rfl
  have h2:dv (c::l)=Gw (0*10+(c.toNat-48)) l:=rfl;rw[h1,h2,ih,ih (0*10+(c.toNat-48)),Bo,CN];rw[Bx,Gz,BV,Bz,BT 10];omega
theorem N0 (l m:List UInt8):dv (l++m)=dv l*10^m.length+dv m:=by
 have:dv (l++m)=Gw (dv l) m:=by unfold dv Gw;rw[List.foldl_append]
 rw[this,Zx]
theorem iF (l:List UInt8):∀a,l.all Bg=true->Lib.decFrom a l=some (Gw a l):=by
 induction l with
 |nil=>intro a _;rfl
 |cons c l ih=>
  intro a h;rw[Fl,BR]at h;have hd:Lib.digitVal c=some (c.toNat-48):=by
   have h1:=h.1;unfold Bg at h1;rw[BR]at h1;unfold Lib.digitVal;rw[AG ⟨Bi h1.1,Bi h1.2⟩]
  rw[Lib.decFrom,hd];exact ih _ h.2
theorem LH {c:UInt8}(h:Bg c=true):48<=c.toNat/\c.toNat<=57:=by
 unfold Bg at h;rw[BR]at h;exact⟨Bi h.1,Bi h.2⟩
theorem lX {l:List UInt8}(h0:l≠[])(h:l.all Bg=true):Lib.atoi l=some (dv l:Int):=by
 cases l with
 |nil=>exact Ad rfl h0
 |cons c l=>
  have hc:Bg c=true:=by rw[Fl,BR]at h;exact h.1
  obtain⟨c1,c2⟩:=LH hc;have e1:(c==45)=false:=by
   rw[Br];intro hh;subst hh;simp at c1
  have e2:(c==43)=false:=by
   rw[Br];intro hh;subst hh;simp at c1
  unfold Lib.atoi;dsimp only;rw[e1,e2];simp only[E9,if_false];unfold Lib.decNat;simp only[List.isEmpty_cons,E9,if_false];rw[iF _ _ h];rfl
theorem GK (l:List UInt8)(h:l.all Bg=true):dv l<10^l.length:=by
 induction l with
 |nil=>decide
 |cons c l ih=>
  rw[Fl,BR]at h;have h1:dv (c::l)=Gw (0*10+(c.toNat-48)) l:=rfl;have h2:=ih h.2;obtain⟨c1,c2⟩:=LH h.1;rw[h1,Zx,Gz,BV,Bo,CN,BT _ 10];have h3:(c.toNat-48)*10^l.length<=9*10^l.length:=CL _ (by omega);omega
def Vb (o:Option D)(z:Int):Bool:=match o with
 |some (.agg [.prim (.int .i64 a),.prim (.slice none 0 0)])=>a==z
 |_=>false
theorem ke {o:Option D}{z:Int}(h:Vb o z=true):o=some (C6 z):=by
 unfold Vb at h;split at h
 ·rw[EE]at h;subst h;rfl
 ·cases h
theorem oX:((List.range 19).all λk=>Vb ((Ge X1 1000 60).1 198 [C6 10,i64 (k:Nat)]) ((10^k:Nat):Int))=true:=by kernel_rfl
theorem vK (k:Nat)(h:k<19):AK C0 198 [C6 10,i64 k] (C6 ((10^k:Nat):Int)):=by
 refine CF DY 1000 60 ?_;exact ke (CQ.1 oX k (List.mem_range.2 h))
theorem VR {n:Nat}(h:n<9223372036854775808):C6 (n:Int)=(AW (n:Int)).D:=by
 rw[JU ⟨by omega,by omega⟩];rfl
theorem xg (a b:Nat)(ha:(Ae a).length<1000000)(hb:(Ae b).length<1000000):AK C0 153 [(AW (a:Int)).D,(AW (b:Int)).D] (AW ((a+b:Nat):Int)).D:=by
 have:=O2 (AW (a:Int)) (AW (b:Int)) (Ch _) (Ch _) (ID ha) (ID hb)
 have e:EC (AW (a:Int)) (AW (b:Int))=AW ((a+b:Nat):Int):=by
  have h1:=Mp (AW (a:Int)) (AW (b:Int));rw[Dq,Dq]at h1;rw[O3 (Mb _ _) (by rw[h1];omega),h1]
  congr 1
 rw[e]at this;exact this
theorem MP {n k:Nat}(h:n<10^k):(Ae n).length<=k:=G4 (CX h (Ng (by decide) k))
def rv (l:List UInt8):Int:=if DO l then -(dv (Bp l):Int)else dv (Bp l)
theorem oY (k:Nat)(h:k<19):AK C0 198 [C6 10,i64 k] (AW ((10^k:Nat):Int)).D:=by
 have:=vK k h
 have h2:10^k<9223372036854775808:=Dd (FT (by decide) (show k<=18 by omega)) (by decide)
 rwa [VR h2]at this
theorem ud (n:Nat)(h:n<9223372036854775808):AK C0 122 [i64 n] (AW (n:Int)).D:=by
 have:=O7 (n:Int)
 rwa [VR h]at this
theorem Q9 (l:List UInt8)(hd:(Bp l).all Bg=true)(hl:l.length<=100000):AK C0 150 [str (sb l)] (AW (rv l)).D:=by
 refine Ak.walk w1 ax rfl λF=>?_
 have c1:=iB l (by omega);have c2:=Sq l (by omega);have hml:(Bp l).length<=100000:=by
  unfold Bp;split
  ·rw[Dh];omega
  ·exact hl
 unfold rv;generalize hm0:Bp l=m0 at*;generalize DO l=ng at*;generalize sb l=sl at*;have ez:C6 0=(AW ((0:Nat):Int)).D:=VR (by decide);have hpm:∀n:Nat,AA (AW (n:Int)).w:=λn=>AI
 refine sR 0 ?_;refine sR 100 ?_;refine cI c1 ?_;refine sR 200 ?_;refine cI c2 ?_;refine sR 300 ?_;refine C4 (α:=Nat) (λn=>⟨[(2,.optr 0 0 2 0 0),(3,Aq ng),(4,.optr 301 8 2 0 0)],[⟨301,8,120,2,[(AW (dv m0:Int)).D]⟩,⟨0,0,120,2,[C6 0]⟩],n⟩) (λ_=>True) ?_ ?_
 ·refine AC.block ?_
  refine GY (α:=List UInt8×Nat×Nat) (λp=>⟨[(0,str (sb p.1)),(2,.optr 0 0 2 0 0),(3,Aq ng),(4,.optr 301 8 2 0 0)],[⟨301,8,120,2,[(AW (p.2.1:Int)).D]⟩,⟨0,0,120,2,[C6 0]⟩],p.2.2⟩) (λp=>p.1.length)
   (λp F'=>F'=F/\p.1.all Bg=true/\p.1.length<=m0.length/\p.2.1<10^(m0.length-p.1.length)/\dv m0=p.2.1*10^p.1.length+dv p.1) (m0,0,20) ⟨rfl,hd,Af _,by simp,by simp⟩ (by rw[<-ez];exact AJ) ?_
  rintro⟨m,A,n⟩ F' ⟨rfl,h1,h2,h3,h4⟩;dsimp only at h1 h2 h3 h4⊢;refine AC.seq ?_;refine AC.seq ?_
  by_cases hm:m=[]
  ·subst hm
   have e1:decide (((sb []).size:Int)>0)=false:=rfl;have hA:dv m0=A:=by simpa[dv,Gw]using h4
   rw[hA];refine Ao w1 400 (by kernel_rfl) ?_;refine AU e1 ?_;refine AM ?_;refine B9 ?_;exact⟨rfl,_,trivial,AJ⟩
  ·have hm1:0<m.length:=List.length_pos_iff.2 hm
   have hsz:=Cg m;obtain⟨k,hk⟩:∃k,k=min 18 m.length:=⟨_,rfl⟩
   have e1:decide (((sb m).size:Int)>0)=true:=AX (by rw[hsz];omega);have ek:min (18:Int) ((sb m).size:Int)=(k:Int):=by rw[hsz];omega
   have b1:(k:Int)<=((sb m).size:Int):=by rw[hsz];omega
   have e22:(sb m).extract 0 ((k:Int)).toNat=sb (m.take k):=by rw[Eu];rfl
   have e36:(sb m).extract ((k:Int)).toNat (sb m).size=sb (m.drop k):=by
    rw[Eu,hsz,B8 (Af _)];rfl
   have htk:(m.take k).all Bg=true:=CQ.2 λc hc=>CQ.1 h1 c (Fy hc)
   have hdk:(m.drop k).all Bg=true:=CQ.2 λc hc=>CQ.1 h1 c (Jn hc)
   have hlk:(m.take k).length=k:=by rw[Bd];omega
   have hv:=GK _ htk;rw[hlk]at hv;have h18:10^k<=10^18:=FT (by decide) (by omega);have ca:=nV (sb (m.take k)) (dv (m.take k):Int) (by rw[Cg,hlk];omega) (lX (by intro h;change m.take k=[]at h;rw[h]at hlk;simp at hlk;omega) htk);have hval:dv m=dv (m.take k)*10^(m.drop k).length+dv (m.drop k):=by
    conv=>lhs;rw[<-E7 k m]
    exact N0 _ _
   generalize dv (m.take k)=v at*;have hAl:(Ae A).length<=100000:=BX (MP h3) (by omega);have h10:(Ae (10^k)).length<=19:=MP (k:=19) (Nat.pow_lt_pow_right (by decide) (by omega));have hmul:=LT A (10^k);have cp:=oY k (by omega);have c3:=VW A (10^k) (by omega) (by omega);have cv:=ud v (by omega);have hvl:(Ae v).length<=19:=MP (k:=19) (CX hv (FT (by decide) (by omega)));have c4:=xg (A*10^k) v (by omega) (by omega);refine Ao w1 400 (by kernel_rfl) ?_;refine AU e1 ?_;refine AM ?_;refine An ?_;refine AC.block ?_;refine sZ 500 ?_;refine AU ek ?_;refine sZ 600 ?_;refine AU e22 ?_;refine cI ca ?_;refine AC.seq ?_;refine B7 w1 700 [0,1,2,3,4,5] [6,7,8] (by kernel_rfl) ?_;refine BP ?_;refine BZ.same _ (O7 10) AI ?_;refine BP ?_;refine BZ.same _ (cp) AI ?_;refine BP ?_;refine BZ.same _ (c3) AI ?_;refine BP ?_;refine cI cv ?_;refine cI c4 ?_;refine Ao w1 800 (by kernel_rfl) ?_;refine AU e36 ?_;refine⟨(m.drop k,A*10^k+v,_),⟨trivial,hdk,?_,?_,?_⟩,?_,AJ⟩
   ·dsimp only;rw[Dh];omega
   ·dsimp only
    rw[Dh,show m0.length-(m.length-k)=(m0.length-m.length)+k by omega,F5];have h5:(A+1)*10^k<=10^(m0.length-m.length)*10^k:=CL _ h3;rw[Bx]at h5;omega
   ·dsimp only
    rw[h4,hval,Dh];have h6:10^m.length=10^k*10^(m.length-k):=by rw[<-F5];congr 1;omega
    rw[h6,Bx,Bz];omega
   ·dsimp only;rw[Dh];omega
 rintro n -;have hAl:(Ae (dv m0)).length<=100000:=BX (MP (GK _ hd)) hml;have cn:=O6 (AW (dv m0:Int)) (Ch _) (ID (by omega));rw[Dq]at cn;have hpn:AA (AW (-(dv m0:Int))).w:=AI;refine AC.seq ?_;refine sR 900 ?_;cases ng with
 |true=>
  rw[AG rfl];refine AM ?_;refine sR 1000 ?_;refine cI cn ?_;refine Ai ?_;exact AL rfl AA.out
 |false=>
  rw[AF (by simp)];refine AM ?_;refine An ?_;refine sR 1100 ?_;refine Ai ?_;exact AL rfl AA.out
def Kj (l:List UInt8):Bool:=!decide (l=[])&&l.all Bg
def DA (l:List UInt8):Bool:=Kj l&&(decide (l=[48]) || !decide (l.head? = some 48))
def B1 (l:List UInt8):List UInt8:=l.take (BL l)
def Ba (l:List UInt8):List UInt8:=l.drop (BL l+1)
def Cv (l:List UInt8):Bool:=decide (BL l<l.length)
def B4 (l:List UInt8):List UInt8:=Bp (B1 l)
def JO (l:List UInt8):Bool:=!DA (B4 l)||decide (B1 l=[45,48])||(Cv l&&(!DA (Ba l)||decide (Ba l=[48])||decide (Ba l=[49])))
def CY (l:List UInt8):Nat:=if JO l then 1 else if 600<(B4 l).length\/600<(Ba l).length then 4
 else if Cv l=true/\Nat.gcd (dv (B4 l)) (dv (Ba l))≠1 then 1 else 0
theorem J6 {l:List UInt8}(h:DA l=true):l≠[]/\l.all Bg=true:=by
 unfold DA Kj at h;rw[BR,BR]at h;exact⟨by have:=h.1.1;simpa using this,h.1.2⟩
theorem S1 {l:List UInt8}(h:l.all Bg=true):DO l=false:=by
 cases l with
 |nil=>rfl
 |cons c l=>
  rw[Fl,BR]at h;obtain⟨c1,c2⟩:=LH h.1;show(c==45)=false;rw[Br];intro hh;subst hh;simp at c1
theorem J4 {l:List UInt8}(h:l.all Bg=true):Bp l=l:=by unfold Bp;rw[S1 h];rfl
theorem M3 {l:List UInt8}(h:l.all Bg=true):rv l=(dv l:Int):=by
 unfold rv;rw[S1 h,J4 h];rfl
theorem jr (l:List UInt8)(hl:l.length<=1000000000):AK C0 272 [str (sb l)] (Aq (Kj l)):=by
 refine Ak.walk w1 bi rfl λF=>?_
 have ct:=TrimW.trim_ok l hl;have eS:=Ex l [];have eT:=Ex ((GP l).dropWhile Bg) [];have hall:decide ((GP l).dropWhile Bg=[])=l.all Bg:=by
  rw[Fk,decide_eq_true_iff];exact nR l
 rw[hall]at eT;unfold Kj;rw[<-eS];generalize hb:BK (sb l) (sb [])=b at*;refine sR 0 ?_;refine AC.seq ?_;cases b with
 |true=>
  have e1:(!BK (sb l) (sb []))=false:=by rw[hb];rfl
  refine Ao w1 100 (by kernel_rfl) ?_;refine AU e1 ?_;refine AE e1 ?_;refine Ai ?_;exact AL rfl AA.out
 |false=>
  have e1:(!BK (sb l) (sb []))=true:=by rw[hb];rfl
  refine Ao w1 100 (by kernel_rfl) ?_;refine AU e1 ?_;refine AE e1 ?_;refine No e1 ?_;refine BE.same _ ct AI ?_;refine AE (Ah e1 eT) ?_;refine Ai ?_;exact AL rfl AA.out
theorem YE (l:List UInt8)(hl:l.length<=1000000000):AK C0 238 [str (sb l)] (Aq (DA l)):=by
 refine Ak.walk w1 b8 rfl λF=>?_
 have cd:=jr l hl;have e0:=Ex l [48];unfold DA;refine sR 0 ?_;refine sR 100 ?_;refine cI cd ?_;rcases hd:Kj l with _|_
 ·refine AE (Ah kT E9) ?_
  refine AE (Ah kT E9) ?_;refine Ai ?_;exact AL rfl AA.out
 ·obtain⟨c,m,rfl⟩:∃c m,l=c::m:=by
   cases l with
   |nil=>cases hd
   |cons c m=>exact⟨c,m,rfl⟩
  have hsz:=Cg (c::m);rw[Bo]at hsz;have hx:(((sb (c::m)).data.toList.getD ((0:Int)).toNat 0).toNat:Int)=(c.toNat:Int):=rfl;have b0:(0:Int)<((sb (c::m)).size:Int):=by rw[hsz];omega
  by_cases h0:(c::m)=[48]
  ·rw[AX h0]at e0⊢
   refine AE e0 ?_;refine AE (Ah e0 kT) ?_;refine AE (Ah e0 kT) ?_;refine Ai ?_;exact AL rfl AA.out
  ·rw[Ag h0]at e0⊢
   have e1:((c.toNat:Int) != 48) = !decide (c=48):=by
    rw[Fk];simp only[bne_iff_ne,ne_eq,Bj,If];constructor
    ·intro h hc;subst hc;exact h rfl
    ·intro h hc
     apply h
     have:c.toNat=48:=by omega
     exact UInt8.toNat_inj.1 this
   refine AE e0 ?_;refine AE (BY e0 kF hx e1) ?_;refine AE (BY e0 kF hx e1) ?_;refine Ai ?_;exact AL (by simp) AA.out
theorem qE (n:Nat):AK C0 239 [(AW (n:Int)).D] (.tup [i64 (AW (n:Int)).s,Aq (decide (Sm (n:Int)))]):=by
 refine Ak.walk w1 b9 rfl λF=>?_
 by_cases hs:Sm (n:Int)
 ·obtain⟨a1,a2⟩:=SC hs
  dsimp only[GI.D];rw[a1,a2,AX hs];refine sR 0 ?_;refine AC.seq ?_;refine B7 w1 100 [0,1,2,3,4,5] [6] (by kernel_rfl) ?_;refine BP ?_;refine Ai ?_;exact AL rfl AA.out
 ·obtain⟨a1,a2,a3⟩:=VV hs
  dsimp only[GI.D];rw[a1,a2,Ag hs];generalize(Ae n).map AR=l at*;refine sR 0 ?_;refine AC.seq ?_;refine B7 w1 100 [0,1,2,3,4,5] [6] (by kernel_rfl) ?_;refine AU (As (@ne_eq (List D)) a3 ES) ?_;refine Ai ?_;exact AL rfl AA.out
def GL (l:List UInt8):GF:=⟨AW (rv (B1 l)),if Cv l then dv (Ba l)else 1⟩
theorem ob (l:List UInt8)(hl:l.length<=100000)(h1:(B4 l).all Bg=true)(h2:Cv l=true->(Ba l).all Bg=true):AK C0 111 [str (sb l)] (GL l).D:=by
 refine Ak.walk w1 aZ rfl λF=>?_
 have cc:=Zv l (by omega);have r1:=Q9 (B1 l) h1 (by unfold B1;rw[Bd];omega);have hpw:AA (AW (rv (B1 l))).w:=AI;unfold GL;change AK C0 _ _ (.tup [str (sb (B1 l)),str (sb (Ba l)),Aq (Cv l)])at cc;rcases hs:Cv l with _|_
 ·rw[hs]at cc
  have wg:=Zo (AW (rv (B1 l)));have hp1:AA (AW ((1:Nat):Int)).w:=AI;rw[AF (by simp)];dsimp only[GI.D,GF.D]at*;refine sR 0 ?_;refine sR 100 ?_;refine cI cc ?_;refine AC.seq ?_;refine sR 200 ?_;refine AM ?_;refine sR 300 ?_;refine cI r1 ?_;refine cI wg ?_;refine Ai ?_;exact AL rfl AA.out
 ·rw[hs]at cc
  have hd:=h2 hs;have r2:=Q9 (Ba l) (by rw[J4 hd];exact hd) (by unfold Ba;rw[Dh];omega);rw[M3 hd]at r2;have hp1:AA (AW (dv (Ba l):Int)).w:=AI;rw[AG rfl];dsimp only[GI.D,GF.D]at*;refine sR 0 ?_;refine sR 100 ?_;refine cI cc ?_;refine AC.seq ?_;refine sR 200 ?_;refine AM ?_;refine An ?_;refine sR 400 ?_;refine cI r1 ?_;refine cI r2 ?_;refine Ai ?_;exact AL rfl AA.out
set_option maxHeartbeats 4000000
theorem ua (g:Nat):((g:Int) != 1)=decide (g≠1):=by
 rw[Fk,bne_iff_ne,decide_eq_true_iff];omega
theorem l6 (l:List UInt8)(hl:l.length<=100000):AK C0 182 [str (sb l)] (i64 (CY l)):=by
 refine Ak.walk w1 aE rfl λF=>?_
 have cc:=Zv l (by omega);change AK C0 _ _ (.tup [str (sb (B1 l)),str (sb (Ba l)),Aq (Cv l)])at cc;have hnl:(B1 l).length<=100000:=by unfold B1;rw[Bd];omega
 have hdl:(Ba l).length<=100000:=by unfold Ba;rw[Dh];omega
 have hsl:(B4 l).length<=100000:=by
  unfold B4 Bp;split
  ·rw[Dh];omega
  ·exact hnl
 have ct:=Sq (B1 l) (by omega);change AK C0 _ _ (str (sb (B4 l)))at ct;have p1:=YE (B4 l) (by omega);have p2:=YE (Ba l) (by omega);have en:=Ex (B1 l) [45,48];have e0:=Ex (Ba l) [48];have e1:=Ex (Ba l) [49];have z1:=Cg (B4 l);have z2:=Cg (Ba l);have hbf:∃b,b=JO l:=⟨_,rfl⟩
 obtain⟨bf,hbf⟩:=hbf;unfold CY;rw[<-hbf];unfold JO at hbf;refine sR 0 ?_;refine sR 100 ?_;refine cI cc ?_;refine sR 200 ?_;refine cI ct ?_;refine AC.seq ?_;refine C4 (α:=Nat) (λn=>⟨[(4,str (sb (Ba l))),(5,Aq (Cv l)),(6,str (sb (B4 l))),(39,Aq bf)],[],n⟩) (λ_=>True) ?_ ?_
 ·refine rI 300 ?_
  refine cI p1 ?_;rcases hp:DA (B4 l)with _|_
  ·rw[hp]at hbf
   have hb:bf=true:=by rw[hbf];rfl
   subst hb;simp only[SV];refine AE kT ?_;refine AE kT ?_;exact⟨trivial,_,trivial,AJ⟩
  ·rw[hp]at hbf
   simp only[Pg]
   by_cases hn:B1 l=[45,48]
   ·rw[AX hn]at en hbf
    have hb:bf=true:=by rw[hbf];rfl
    subst hb;refine AE (Ah kF en) ?_;refine AE (As kF kT en) ?_;exact⟨trivial,_,trivial,AJ⟩
   ·rw[Ag hn]at en hbf
    rcases hs:Cv l with _|_
    ·rw[hs]at hbf
     have hb:bf=false:=by rw[hbf];rfl
     subst hb;refine AE (Ah kF en) ?_;refine AE (BY kF kT en hs) ?_;refine AE (BY kF kT en hs) ?_;exact⟨trivial,_,trivial,AJ⟩
    ·rw[hs]at hbf
     refine AE (Ah kF en) ?_;refine AE (As kF en hs) ?_;refine No hs ?_;refine BE.same _ p2 AI ?_;refine At ?_;rcases hq:DA (Ba l)with _|_
     ·rw[hq]at hbf
      have hb:bf=true:=by rw[hbf];rfl
      subst hb;refine AE (As kF kT hq) ?_;refine AE (As kF kT hq) ?_;refine AE (As kF kT hq) ?_;exact⟨trivial,_,trivial,AJ⟩
     ·rw[hq]at hbf
      refine AE hq ?_;simp only[Pg];refine AE kF ?_
      by_cases h0:Ba l=[48]
      ·rw[AX h0]at e0 hbf
       have hb:bf=true:=by rw[hbf];rfl
       subst hb;simp only[e0,imp_self];refine AE kT ?_;refine IE rfl rfl rfl (by simp only[SV]) (by simp) (IH (λ_ _=>rfl) ?_);refine AE kF ?_;exact⟨trivial,_,trivial,AJ⟩
      ·rw[Ag h0]at e0 hbf
       simp only[e0];refine AE kF ?_
       by_cases h1:Ba l=[49]
       ·rw[AX h1]at e1 hbf
        have hb:bf=true:=by rw[hbf];rfl
        subst hb;simp only[e1];exact⟨trivial,_,trivial,AJ⟩
       ·rw[Ag h1]at e1 hbf
        have hb:bf=false:=by rw[hbf];rfl
        subst hb;simp only[e1];exact⟨trivial,_,trivial,AJ⟩
 rintro n -;cases bf with
 |true=>
  rw[AG rfl];refine AM ?_;refine sR 400 ?_;refine Ai ?_;exact AL rfl AA.out
 |false=>
  rw[AF (by simp)];have hbf:=hbf.symm;simp only[JC,Bw,Bool.and_eq_false_iff]at hbf;obtain⟨⟨hp,hn⟩,hd⟩:=hbf;refine AM ?_;refine An ?_;have hsd:=(J6 hp).2;refine AC.seq ?_;refine C4 (α:=Nat) (λn=>⟨[(4,str (sb (Ba l))),(5,Aq (Cv l)),(6,str (sb (B4 l))),(47,Aq (decide (600<(B4 l).length\/600<(Ba l).length)))],[],n⟩) (λ_=>True) ?_ ?_
  ·by_cases hA:600<(B4 l).length
   ·have ea:decide (((sb (B4 l)).size:Int)>600)=true:=AX (by rw[z1];omega)
    have eb:decide (600<(B4 l).length\/600<(Ba l).length)=true:=AX (Or.inl hA);rw[eb];refine Ao w1 500 (by kernel_rfl) ?_;refine AU ea ?_;refine AE kT ?_;exact⟨trivial,_,trivial,AJ⟩
   ·have ea:decide (((sb (B4 l)).size:Int)>600)=false:=Ag (by rw[z1];omega)
    have eb:decide (((sb (Ba l)).size:Int)>600)=decide (600<(B4 l).length\/600<(Ba l).length):=by
     rw[C8,z2];omega
    refine Ao w1 500 (by kernel_rfl) ?_;refine AU ea ?_;refine AE kF ?_;simp only[eb];exact⟨trivial,_,trivial,AJ⟩
  rintro n -
  by_cases hL:600<(B4 l).length\/600<(Ba l).length
  ·rw[AX hL,AG hL]
   refine AM ?_;refine sR 600 ?_;refine Ai ?_;exact AL rfl AA.out
  ·rw[Ag hL,AF hL]
   refine AM ?_;refine An ?_;refine AC.seq ?_;refine sR 700 ?_;rcases hs:Cv l with _|_
   ·rw[AF (by simp)]
    refine AM ?_;refine An ?_;refine sR 1100 ?_;refine Ai ?_;exact AL rfl AA.out
   ·rw[hs]at hd
    have hd':=hd.resolve_left (by simp);have hdd:=(J6 hd'.1.1).2;have r1:=Q9 (B4 l) (by rw[J4 hsd];exact hsd) hsl;have r2:=Q9 (Ba l) (by rw[J4 hdd];exact hdd) hdl;rw[M3 hsd]at r1;rw[M3 hdd]at r2;have l1:(Ae (dv (B4 l))).length<=100000:=BX (MP (GK _ hsd)) hsl;have l2:(Ae (dv (Ba l))).length<=100000:=BX (MP (GK _ hdd)) hdl;have cg:=eX (AW (dv (B4 l):Int)) (AW (dv (Ba l):Int)) (Ch _) (Ch _) (ID (by omega)) (ID (by omega));rw[Dq,Dq,ER,ER]at cg;have cs:=qE (Nat.gcd (dv (B4 l)) (dv (Ba l)));obtain⟨g,hg0⟩:∃g,g=Nat.gcd (dv (B4 l)) (dv (Ba l)):=⟨_,rfl⟩
    rw[<-hg0]at cg cs;simp only[<-hg0];have hpa:AA (AW (dv (B4 l):Int)).w:=AI;have hpb:AA (AW (dv (Ba l):Int)).w:=AI;have hpg:AA (AW (g:Int)).w:=AI;dsimp only[GI.D]at r1 r2 cg cs;refine AM ?_;refine sR 800 ?_;refine cI r1 ?_;refine cI r2 ?_;refine cI cg ?_;refine cI cs ?_;refine C4 (α:=Nat) (λn=>⟨[(63,Aq (decide (g≠1)))],[],n⟩) (λ_=>True) ?_ ?_
    ·by_cases hg:Sm (g:Int)
     ·obtain⟨a1,a2⟩:=SC hg
      have eg:=ua g;rw[a1,AX hg];refine rI 900 ?_;simp only[Pg];refine AE kF ?_;simp only[eg];exact⟨trivial,_,trivial,AJ⟩
     ·have eg:decide (g≠1)=true:=AX λh=>hg (by rw[h];exact⟨by decide,by decide⟩)
      rw[eg,Ag hg];refine rI 900 ?_;simp only[SV];refine AE kT ?_;exact⟨trivial,_,trivial,AJ⟩
    rintro n -
    by_cases hg:g=1
    ·rw[Ag (λh=>h hg),AF (λh=>h.2 hg)]
     refine AM ?_;refine An ?_;refine sR 1100 ?_;refine Ai ?_;exact AL rfl AA.out
    ·rw[AX hg,AG ⟨trivial,hg⟩]
     refine AM ?_;refine sR 1000 ?_;refine Ai ?_;exact AL rfl AA.out
abbrev RB:Nat:=1000000000
def AY (n:Nat):List Nat:=if _h:n=0 then[]else(n%RB)::AY (n/RB)
termination_by n
decreasing_by exact H3 (D4 _h) (by decide)
def AO:List Nat->Nat
 | []=>0
 |a::l=>a+RB*AO l
def Rd (l:List Nat):Prop:=∀a∈l,a<RB
theorem Gg:AY 0=[]:=by unfold AY;rfl
theorem In {n:Nat}(h:n≠0):AY n=(n%RB)::AY (n/RB):=by rw[AY,dif_neg h]
theorem Ee (n:Nat):Rd (AY n):=by
 induction n using Nat.strongRecOn with
 |ind n ih=>
  by_cases h:n=0
  ·subst h;rw[Gg];intro a ha;cases ha
  ·rw[In h]
   intro a ha;rcases BG.1 ha with rfl|ha
   ·exact B3 _ (by decide)
   ·exact ih _ (H3 (D4 h) (by decide)) a ha
theorem D6 (n:Nat):AO (AY n)=n:=by
 induction n using Nat.strongRecOn with
 |ind n ih=>
  by_cases h:n=0
  ·subst h;rw[Gg];rfl
  ·rw[In h,AO,ih _ (H3 (D4 h) (by decide))]
   exact Eo n RB
theorem JH (l m:List Nat):AO (l++m)=AO l+RB^l.length*AO m:=by
 induction l with
 |nil=>simp[AO]
 |cons a l ih=>
  simp only[ED,AO,ih,Bo,CN,BN];rw[BT (RB^l.length) RB,Bz,Ea]
theorem Rd.tail {a:Nat}{l:List Nat}(h:Rd (a::l)):Rd l:=λb hb=>h b (CK _ hb)
theorem Rd.head {a:Nat}{l:List Nat}(h:Rd (a::l)):a<RB:=h a CG
theorem Rd.append {l m:List Nat}(h:Rd l)(k:Rd m):Rd (l++m):=λa ha=>(List.mem_append.1 ha).elim (h a) (k a)
theorem Rd.take {l:List Nat}(h:Rd l)(n:Nat):Rd (l.take n):=λa ha=>h a (Fy ha)
theorem GD:∀ {l:List Nat},Rd l->AO l<RB^l.length
 | [],_=>by simp[AO]
 |a::l,h=>by
  have h1:=GD h.tail;have h2:=h.head;rw[AO,Bo,CN]
  calc a+RB*AO l<RB+RB*AO l:=by omega
   _=RB*(AO l+1):=by rw[BN,EF,Kz]
   _<=RB*RB^l.length:=Cb _ h1
   _=_:=BT _ _
theorem Wh:∀ {l:List Nat},Rd l->(∀a∈l.getLast?,a≠0)->AY (AO l)=l
 | [],_,_=>Gg
 | [a],h,hl=>by
  have ha:a≠0:=hl a (by simp);have hb:=h.head;rw[show AO [a]=a from by simp[AO],In ha,Di hb,HP hb,Gg]
 |a::b::l,h,hl=>by
  have ih:=Wh h.tail (λx hx=>hl x (by simpa using hx));have hb:=h.head;have hv:AO (b::l)≠0:=by
   intro h0;rw[h0,Gg]at ih;cases ih
  have e1:AO (a::b::l)%RB=a:=by rw[AO,SW,Di hb]
  have e2:AO (a::b::l)/RB=AO (b::l):=by
   rw[AO,SS _ _ (by decide),HP hb,BV]
  have hne:AO (a::b::l)≠0:=by
   intro h0;rw[h0]at e2;exact hv (by rw[<-e2];rfl)
  rw[In hne,e1,e2,ih]
theorem WE:∀(k:Nat),AO (List.replicate k 0)=0
 | 0=>rfl
 |k+1=>by rw[List.replicate_succ,AO,WE k,Eb]
theorem Ik (b:Nat):∀a,b<=a->(AY b).length<=(AY a).length:=by
 induction b using Nat.strongRecOn with
 |ind b ih=>
  intro a h
  by_cases hb:b=0
  ·subst hb;rw[Gg];exact BU _
  ·rw[In hb,In (n:=a) (by omega),Bo,Bo]
   exact Nat.succ_le_succ (ih _ (H3 (D4 hb) (by decide)) _ (Nat.div_le_div_right h))
theorem V1 {a b:Nat}(h:(AY a).length<(AY b).length):a<b:=by
 rcases BH a b with h1|h1
 ·exact h1
 ·have:=Ik b a h1;omega
theorem N4 {l:List Nat}{k a:Nat}(h:l[k]?=some a):AO l=AO (l.take k)+RB^k*(a+RB*AO (l.drop (k+1))):=by
 have hk:k<l.length:=(List.getElem?_eq_some_iff.1 h).1
 conv=>lhs;rw[<-E7 k l]
 rw[JH,Bd,FC (by omega)]
 have:l.drop k=a::l.drop (k+1):=by
  rw[ET hk]
  congr 1
  exact(List.getElem?_eq_some_iff.1 h).2
 rw[this,AO]
theorem WD {l m:List Nat}{k a b:Nat}(hl:Rd l)(ha:l[k]?=some a)(hb:m[k]?=some b)(hd:l.drop (k+1)=m.drop (k+1))(hab:a<b):AO l<AO m:=by
 have hk:k<l.length:=(List.getElem?_eq_some_iff.1 ha).1;rw[N4 ha,N4 hb,hd];have h1:=GD (hl.take k);rw[Bd,FC (by omega)]at h1;generalize AO (m.drop (k+1))=r;have h2:RB^k*(a+RB*r)+RB^k<=RB^k*(b+RB*r):=by
  rw[<-Nat.mul_succ];exact Cb _ (by omega)
 omega
theorem G5 {l:List Nat}{i a:Nat}(hi:l.length=i):AO (l++[a])=AO l+RB^i*a:=by rw[JH,hi];simp[AO]
theorem Rd.set {l:List Nat}(h:Rd l){i a:Nat}(ha:a<RB):Rd (l.set i a):=λb hb=>by
 rcases NU hb with h1|rfl
 ·exact h b h1
 ·exact ha
theorem S6 (n:Nat):Rd (List.replicate n 0):=λa ha=>by rw[Pc ha];decide
theorem Ny:∀ {l:List Nat} {k o d:Nat},l[k]?=some o->AO (l.set k d)+RB^k*o=AO l+RB^k*d
 |a::l,0,o,d,h=>by
  simp only[SX,BM]at h;subst h;simp only[List.set_cons_zero,AO,MD,JD];omega
 |a::l,k+1,o,d,h=>by
  simp only[Jq]at h;have ih:=Ny (d:=d) h;simp only[List.set_cons_succ,AO];have h1:RB^(k+1)*o=RB*(RB^k*o):=by rw[CN,BT (RB^k) RB,Bz]
  have h2:RB^(k+1)*d=RB*(RB^k*d):=by rw[CN,BT (RB^k) RB,Bz]
  have h3:RB*AO (l.set k d)+RB*(RB^k*o)=RB*AO l+RB*(RB^k*d):=by rw[<-BN,<-BN,ih]
  omega
theorem LB {n k:Nat}(h:n<RB^k):(AY n).length<=k:=by
 induction k generalizing n with
 |zero=>
  have:n=0:=by simpa using h
  subst this;rw[Gg];exact Af _
 |succ k ih=>
  by_cases h0:n=0
  ·subst h0;rw[Gg];exact BU _
  ·rw[In h0,Bo]
   exact Nat.succ_le_succ (ih (E8 (by rw[BT,<-CN];exact h)))
theorem Il (n:Nat):n<RB^(AY n).length:=by
 have:=GD (Ee n)
 rwa [D6]at this
theorem Wf (a b:Nat):(AY (a+b)).length<=max (AY a).length (AY b).length+1:=by
 refine LB ?_;have h1:=Il a;have h2:=Il b;have m1:RB^(AY a).length<=RB^max (AY a).length (AY b).length:=FT (by decide) (Nat.le_max_left _ _);have m2:RB^(AY b).length<=RB^max (AY a).length (AY b).length:=FT (by decide) (Nat.le_max_right _ _);rw[CN];generalize RB^max (AY a).length (AY b).length=q at*;unfold RB;omega
theorem Wg (a b:Nat):(AY (a-b)).length<=(AY a).length:=Ik _ _ (Nat.sub_le _ _)
theorem Su (a b:Nat):(AY (a*b)).length<=(AY a).length+(AY b).length:=by
 refine LB ?_;rw[F5];exact Nat.mul_lt_mul'' (Il a) (Il b)
theorem P4 {n:Nat}(h0:n≠0)(h:n<RB):AY n=[n]:=by
 rw[In h0,Di h,HP h,Gg]
theorem Uw {l:List Nat}{k a:Nat}(hl:l.length=k+1)(ha:l[k]?=some a):AO l=AO (l.take k)+RB^k*a:=by
 rw[N4 ha,HS (by omega)];simp[AO]
theorem vP {l:List Nat}{k a b:Nat}(hl:l.length=k+2)(ha:l[k]?=some a)(hb:l[k+1]?=some b):AO l=AO (l.take k)+RB^k*(a+RB*b):=by
 rw[N4 ha]
 have:l.drop (k+1)=[b]:=by
  rw[ET (by omega),HS (by omega)]
  congr 1
  exact(List.getElem?_eq_some_iff.1 hb).2
 rw[this];simp[AO]
theorem vQ {l:List Nat}{k a b c:Nat}(hl:l.length=k+3)(ha:l[k]?=some a)(hb:l[k+1]?=some b)(hc:l[k+2]?=some c):AO l=AO (l.take k)+RB^k*(a+RB*(b+RB*c)):=by
 rw[N4 ha];have h1:=Uw (l:=l.drop (k+1)) (k:=1) (a:=c) (by rw[Dh];omega) (by rw[Gb,Ea];exact hc);have h2:(l.drop (k+1)).take 1=[b]:=by
  rw[ET (by omega)];simp only[List.take_succ_cons,NX]
  congr 1
  exact(List.getElem?_eq_some_iff.1 hb).2
 rw[h1,h2];simp[AO]
structure KZ (P v:List Nat)(m p0 p1 p2 v2 v1:Nat):Prop where
 lP:P.length=m+3
 lv:v.length=m+2
 wP:Rd P
 wv:Rd v
 h0:P[m]?=some p0
 h1:P[m+1]?=some p1
 h2:P[m+2]?=some p2
 g2:v[m]?=some v2
 g1:v[m+1]?=some v1
 top:0<v1
 less:AO P<AO v*RB
namespace KZ
variable {P v:List Nat} {m p0 p1 p2 v2 v1:Nat} (S:KZ P v m p0 p1 p2 v2 v1)
include S
theorem valP:AO P=AO (P.take m)+RB^m*(p0+RB*(p1+RB*p2)):=vQ S.lP S.h0 S.h1 S.h2
theorem valv:AO v=AO (v.take m)+RB^m*(v2+RB*v1):=vP S.lv S.g2 S.g1
theorem lowP:AO (P.take m)<RB^m:=by
 have:=GD (S.wP.take m)
 rwa [Bd,FC (by have:=S.lP;omega)]at this
theorem lowv:AO (v.take m)<RB^m:=by
 have:=GD (S.wv.take m)
 rwa [Bd,FC (by have:=S.lv;omega)]at this
theorem p0l:p0<RB:=S.wP _ (Aw S.h0)
theorem p1l:p1<RB:=S.wP _ (Aw S.h1)
theorem p2l:p2<RB:=S.wP _ (Aw S.h2)
theorem v1l:v1<RB:=S.wv _ (Aw S.g1)
theorem v2l:v2<RB:=S.wv _ (Aw S.g2)
theorem below3:AO P<(p0+RB*(p1+RB*p2)+1)*RB^m:=by
 rw[S.valP,Bx,JD,BT (RB^m)]
 have:=S.lowP
 omega
theorem below2:AO P<(p1+RB*p2+1)*RB^(m+1):=by
 have h:=S.below3;have h1:=S.p0l;generalize p1+RB*p2=t at*;have h2:(p0+RB*t+1)*RB^m<=(RB*(t+1))*RB^m:=CL _ (by rw[BN RB t 1];omega);have h3:(t+1)*RB^(m+1)=(RB*(t+1))*RB^m:=by rw[CN,BT (RB^m) RB,<-Bz,BT (t+1) RB]
 omega
theorem abovev:v1*RB^(m+1)<=AO v:=by
 rw[S.valv,CN,BN]
 have:v1*(RB^m*RB)=RB^m*(RB*v1):=by rw[BT v1,Bz]
 omega
theorem abovev2:(v2+RB*v1)*RB^m<=AO v:=by
 rw[S.valv,BT];omega
theorem pos:0<AO v:=CX (HW S.top (Nat.pow_pos (by decide))) S.abovev
theorem p2v1:p2<=v1:=by
 rcases BH v1 p2 with h|h
 ·exfalso
  have e1:RB^(m+2)*p2<=AO P:=by
   rw[S.valP,BN,BN,BN]
   have:RB^(m+2)*p2=RB^m*(RB*(RB*p2)):=by rw[CN,CN,Bz,Bz]
   omega
  have e2:AO v<RB^(m+1)*(v1+1):=by
   have h1:=S.lowv;have h2:=S.v2l;have e3:RB^(m+1)*(v1+1)=RB^m*(RB*v1+RB):=by rw[CN,Bz,BN,EF]
   have e4:RB^m*(v2+RB*v1+1)<=RB^m*(RB*v1+RB):=Cb _ (by omega);rw[BN _ _ 1,EF]at e4;rw[S.valv,e3];omega
  have e5:RB^(m+1)*(v1+1)*RB=RB^(m+2)*(v1+1):=by rw[Nat.mul_right_comm,<-CN]
  have e6:RB^(m+2)*(v1+1)<=RB^(m+2)*p2:=Cb _ h;have e7:(AO v)*RB<=RB^(m+1)*(v1+1)*RB:=CL _ (Jt e2)
  have:=S.less
  omega
 ·exact h
end KZ
theorem gZ {A P v:List Nat}{q i z x d b c b' c' lo:Nat}(hz:A[i]?=some z)(hx:v[i]?=some x)(hI:AO A+q*AO (v.take i)=AO P+RB^i*(c+b))
  (h1:lo+RB*c'=q*x+c) (h2:d+lo+b=z+RB*b'):AO (A.set i d)+q*AO (v.take (i+1))=AO P+RB^(i+1)*(c'+b'):=by
 have hs:=Ny (d:=d) hz;have hi:i<v.length:=(List.getElem?_eq_some_iff.1 hx).1;rw[FG hx,G5 (i:=i) (by rw[Bd];omega),BN,Ic q,CN,Bz];have e:RB^i*(d+q*x+(c+b))=RB^i*(z+RB*(c'+b')):=by congr 1;rw[BN RB];omega
 rw[BN,BN,BN (RB^i) z]at e;omega
theorem gW {A P v:List Nat}{i z x c:Nat}(hz:A[i]?=some z)(hx:v[i]?=some x)(hI:AO A+RB^i*c=AO P+AO (v.take i)):
  AO (A.set i ((z+x+c)%RB))+RB^(i+1)*((z+x+c)/RB)=AO P+AO (v.take (i+1)):=by
 have hs:=Ny (d:=(z+x+c)%RB) hz;have hi:i<v.length:=(List.getElem?_eq_some_iff.1 hx).1;rw[FG hx,G5 (i:=i) (by rw[Bd];omega),CN,Bz];have e:RB^i*((z+x+c)%RB+RB*((z+x+c)/RB))=RB^i*(z+x+c):=by rw[Eo]
 rw[BN,BN,BN (RB^i) z]at e;omega
theorem iY {n k:Nat}(h1:RB^k<=n)(h2:n<RB^(k+1)):(AY n).length=k+1:=by
 have h3:=LB h2;have h4:=Dd h1 (Il n);have h5:=(Nat.pow_lt_pow_iff_right (show 1<RB by decide)).1 h4;omega
theorem P9:∀(n:Nat) {k a:Nat},(AY n).length=k+1->(AY n)[k]?=some a->a≠0:=λn=>by
 induction n using Nat.strongRecOn with
 |ind n ih=>
  intro k a h1 h2
  by_cases h0:n=0
  ·subst h0;rw[Gg]at h1;cases h1
  ·rw[In h0]at h1 h2
   rw[Bo]at h1;have h3:=Nat.succ.inj h1;cases k with
   |zero=>
    have h4:AY (n/RB)=[]:=FU h3;have h5:n/RB=0:=by rw[<-D6 (n/RB),h4];rfl
    have h6:=Eo n RB;rw[h5]at h6;simp at h2;intro h7;subst h7;rw[h2]at h6;omega
   |succ k=>
    rw[Jq]at h2;exact ih _ (H3 (D4 h0) (by decide)) h3 h2
theorem S5 {n k:Nat}(h:(AY n).length=k+1):RB^k<=n:=by
 obtain⟨a,ha⟩:=CV (l:=AY n) (i:=k) (by omega);have h1:=P9 n h ha;have h2:=Uw h ha;rw[D6]at h2;have h3:=Cb (RB^k) (show 1<=a by omega);omega
theorem QE {l:List Nat}{j a:Nat}(h:l[j]?=some a):AO (l.drop j)=a+RB*AO (l.drop (j+1)):=by
 have hj:j<l.length:=(List.getElem?_eq_some_iff.1 h).1;rw[ET hj,(List.getElem?_eq_some_iff.1 h).2];rfl
theorem gt {a q:List Nat}{j x b rest:Nat}(hb:0<b)(hx:a[j]?=some x)(hj:j<q.length)(hI:AO (q.drop (j+1))*b+rest=AO (a.drop (j+1))):
  AO ((q.set j ((rest*RB+x)/b)).drop j)*b+(rest*RB+x)%b=AO (a.drop j)/\(rest*RB+x)%b<b:=by
 refine⟨?_,B3 _ hb⟩;rw[Qj hj,QE hx,<-hI,AO];have e:=EY (rest*RB+x) b;rw[Bx,BN RB,Bz RB,BT RB rest,BT _ b];omega
structure L3 (X:Nat)(v U q:List Nat)(lu lq k:Nat):Prop where
 lU:U.length=lu
 lQ:q.length=lq
 wU:Rd U
 wq:Rd q
 val:RB^k*AO (q.drop k)*AO v+AO U=X
 less:AO (U.drop k)<AO v
theorem jS {X:Nat}{v U q:List Nat}{lu lq j m:Nat}(I:L3 X v U q lu lq (j+1))(hv:v.length=m+2)(wv:Rd v)(v1 v2:Nat)(h2:v[m]?=some v2)(h1:v[m+1]?=some v1)(ht:0<v1)(hj:j+(m+3)<=lu):
  ∃p0 p1 p2,KZ ((U.drop j).take (m+3)) v m p0 p1 p2 v2 v1/\AO (U.drop (j+(m+3)))=0/\AO ((U.drop j).take (m+3))=AO (U.drop j):=by
 obtain⟨lU,lQ,wU,wq,val,less⟩:=I;obtain⟨x,hx⟩:=CV (l:=U) (i:=j) (by omega);have hxl:=wU x (Aw hx);have e1:=QE hx;have hlt:AO (U.drop j)<AO v*RB:=by
  have:RB*(AO (U.drop (j+1))+1)<=RB*AO v:=Cb _ less
  rw[BN,BT RB (AO v)]at this;omega
 have hPl:((U.drop j).take (m+3)).length=m+3:=by rw[Bd,Dh];omega
 have e2:AO (U.drop j)=AO ((U.drop j).take (m+3))+RB^(m+3)*AO (U.drop (j+(m+3))):=by
  conv=>lhs;rw[<-E7 (m+3) (U.drop j)]
  rw[JH,hPl,List.drop_drop]
 have hvl:=GD wv;rw[hv]at hvl;have hz:AO (U.drop (j+(m+3)))=0:=by
  rcases Do (AO (U.drop (j+(m+3))))with h|h
  ·exact h
  ·exfalso
   have e3:RB^(m+3)*1<=RB^(m+3)*AO (U.drop (j+(m+3))):=Cb _ h;have e4:AO v*RB<=RB^(m+2)*RB:=CL _ (Jt hvl);have e5:RB^(m+2)*RB=RB^(m+3):=(CN RB (m+2)).symm;rw[e5]at e4;omega
 rw[hz,Eb,DW]at e2;obtain⟨p0,h0⟩:=CV (l:=(U.drop j).take (m+3)) (i:=m) (by omega);obtain⟨p1,h3⟩:=CV (l:=(U.drop j).take (m+3)) (i:=m+1) (by omega);obtain⟨p2,h4⟩:=CV (l:=(U.drop j).take (m+3)) (i:=m+2) (by omega);exact⟨p0,p1,p2,⟨hPl,hv,λa ha=>wU a (Jn (Fy ha)),wv,h0,h3,h4,h2,h1,ht,by rw[<-e2];exact hlt⟩,hz,e2.symm⟩
theorem jR {X:Nat}{v U q P':List Nat}{lu lq j m:Nat}(I:L3 X v U q lu lq (j+1))(hv:0<AO v)(hj:j+(m+3)<=lu)(hjq:j<lq)(hz:AO (U.drop (j+(m+3)))=0)(hP:AO ((U.drop j).take (m+3))=AO (U.drop j))
  (h1:P'.length=m+3) (h2:Rd P') (h3:AO P'=AO ((U.drop j).take (m+3))%AO v) (hd:AO ((U.drop j).take (m+3))/AO v<RB):
  L3 X v (U.take j++(P'++U.drop (j+(m+3)))) (q.set j (AO ((U.drop j).take (m+3))/AO v)) lu lq j:=by
 obtain⟨lU,lQ,wU,wq,val,less⟩:=I;have hA:(U.take j).length=j:=by rw[Bd];omega
 have e0:AO U=AO (U.take j)+RB^j*AO (U.drop j):=by
  conv=>lhs;rw[<-E7 j U]
  rw[JH,hA]
 have e1:AO (P'++U.drop (j+(m+3)))=AO P':=by rw[JH,hz,Eb,DW]
 refine⟨?_,by rw[DH];exact lQ,?_,wq.set hd,?_,?_⟩
 ·rw[Bc,Bc,hA,h1,Dh];omega
 ·exact Rd.append (wU.take j) (Rd.append h2 λa ha=>wU a (Jn ha))
 ·rw[Qj (by omega),AO,JH,hA,e1,h3,hP]
  rw[e0]at val;have e2:=EY (AO (U.drop j)) (AO v);have e3:RB^(j+1)*AO (q.drop (j+1))*AO v=RB^j*(RB*AO (q.drop (j+1))*AO v):=by
   rw[CN,Bz,Bz,Bz]
  rw[e3]at val;have e4:RB^j*AO (U.drop j)=RB^j*(AO v*(AO (U.drop j)/AO v))+RB^j*(AO (U.drop j)%AO v):=by
   rw[<-BN,e2]
  rw[Bz,Bx,BN,BT (AO (U.drop j)/AO v)];omega
 ·rw[List.drop_left' hA,e1,h3]
  exact B3 _ hv
set_option maxHeartbeats 2000000
abbrev Ab (n:Nat):D:=i64 (n:Int)
def rL (l:List Nat):D:=.sl false 1 (l.map Ab)
def rD (n:Nat):D:=rL (AY n)
theorem Oe (l:List Nat):B6 (rL l):=.sl λe he d hd=>by
 obtain⟨a,_,rfl⟩:=List.mem_map.1 he;simp only[D.cells,BG,Db,or_false]at hd;subst hd;exact .prim _
instance  (l:List Nat):AA (rL l):=⟨Oe l⟩
instance  (n:Nat):AA (rD n):=⟨Oe _⟩
theorem Dv {l:List Nat}{i a:Nat}(h:l[i]?=some a):(l.map Ab)[i]?=some (Ab a):=by rw[A8,h];rfl
theorem M1 {l:List Nat}{i a:Nat}:(l.map Ab).set i (Ab a)=(l.set i a).map Ab:=List.map_set.symm
theorem vq (c:Nat):((c:Int)==0)=decide (c=0):=by rw[Fk,EE,decide_eq_true_iff];omega
theorem UI (m:List Nat):AO (m++[0])=AO m:=by rw[G5 rfl];simp
theorem Zb {m:List Nat}{c:Nat}(h:Rd (m++[c]))(hc:c≠0):AY (AO (m++[c]))=m++[c]:=Wh h λa ha=>by
 rw[List.getLast?_append]at ha;simp at ha;rw[<-ha];exact hc
theorem Ln (l:List Nat)(h:Rd l)(hlen:l.length<4000000000):AK C0 214 [rL l] (rD (AO l)):=by
 refine Ak.walk w1 aT rfl λF=>?_
 unfold rL;refine sR 0 ?_;refine AC.seq ?_;refine AC.block ?_;refine AC.loop (α:=List Nat×Nat) (λp=>⟨[(0,.sl false 1 (p.1.map Ab))],[],p.2⟩) (λp=>p.1.length)
  (λp=>AO p.1=AO l/\Rd p.1/\p.1.length<=l.length) (l,_) ⟨rfl,h,Af _⟩ AJ ?_
 rintro⟨m,n⟩ F ⟨h1,h2,h3⟩;dsimp only at h1 h2 h3⊢;refine AC.seq ?_;refine AC.seq ?_;rcases SP m with rfl|⟨m,c,rfl⟩
 ·have e1:decide (((0:Nat):Int)>0)=false:=rfl
  refine Ao w1 100 (by kernel_rfl) ?_;refine AU e1 ?_;refine AE e1 ?_;refine AM ?_;refine B9 ?_;refine sR 300 ?_;refine Ai ?_;refine AL (d0:=rL []) ?_ AA.out;rw[<-h1];unfold rD;rw[show AO []=0 from rfl,Gg]
 ·rw[SO]at h1 h2 h3⊢
  have el:((((m++[c]).map Ab).length:Nat):Int)=((m.length+1:Nat):Int):=by rw[Ac,Bc];rfl
  rw[Bc,Ek]at h3;have e1:decide (((m.length+1:Nat):Int)>0)=true:=AX (by omega);have wk:IntKind.i64.wrap (((m.length+1:Nat):Int)-1)=(m.length:Int):=by rw[wI (by omega) (by omega)];omega
  have wraw:IntKind.i64.wrap (((((m++[c]).map Ab).length:Nat):Int)-1)=(m.length:Int):=by rw[el,wk]
  have hx:((m++[c]).map Ab)[m.length]?=some (Ab c):=Dv (by simp);have ec:=vq c;refine Ao w1 100 (by kernel_rfl) ?_;refine AU (Ah el e1) ?_;refine AE (CH e1 wraw el wk kN) ?_;refine Bq e1 hx ?_;refine AE (CH e1 wraw el wk ec) ?_
  by_cases hc:c=0
  ·rw[AX hc]
   subst hc;have e4:List.take (m.length-0) (List.drop 0 ((m++[0]).map Ab))=m.map Ab:=by simp
   have e5:List.take m.length ((m++[0]).map Ab)=m.map Ab:=by simp
   rw[UI]at h1;refine AM ?_;refine An ?_;refine AC.block ?_;refine Ao w1 200 (by kernel_rfl) ?_;refine AU (CH el wk wraw kN e4) ?_;exact⟨(m,_),⟨h1,λa ha=>h2 a (HU _ ha),by dsimp only;omega⟩,by dsimp only;rw[Bc,Ek];omega,AJ⟩
  ·rw[Ag hc]
   refine AM ?_;refine B9 ?_;refine sR 300 ?_;refine Ai ?_;refine AL (d0:=rL (m++[c])) ?_ AA.out;unfold rD;rw[<-h1,Zb h2 hc]
theorem Tw (l:List Nat)(i:Nat)(hlen:l.length<4000000000)(hi:i<4000000000):AK C0 254 [rL l,Ab i] (Ab (l.getD i 0)):=by
 refine Ak.walk w1 sV rfl λF=>?_
 unfold rL;have el:(((l.map Ab).length:Nat):Int)=(l.length:Int):=by rw[Ac]
 refine sR 0 ?_;refine AC.seq ?_;refine AC.seq ?_
 by_cases h:i<l.length
 ·have e1:decide ((i:Int)<(l.length:Int))=true:=AX (by omega)
  obtain⟨a,ha⟩:=CV h;have hx:=Dv ha;have eg:l.getD i 0=a:=by rw[DR,ha];rfl
  rw[eg];refine Ao w1 100 (by kernel_rfl) ?_;refine AU (Ah el e1) ?_;refine AM ?_;refine sZ 200 ?_;refine AE kN ?_;refine Bq kT hx ?_;refine AE kN ?_;refine Ai ?_;exact AL rfl AA.out
 ·have e1:decide ((i:Int)<(l.length:Int))=false:=Ag (by omega)
  have eg:l.getD i 0=0:=by rw[DR,Dj (by omega)];rfl
  rw[eg];refine Ao w1 100 (by kernel_rfl) ?_;refine AU (Ah el e1) ?_;refine AM ?_;refine An ?_;refine sR 300 ?_;refine Ai ?_;exact AL rfl AA.out
theorem Ro (a b:Nat)(ha:(AY a).length<4000000000)(hb:(AY b).length<4000000000):AK C0 212 [rD a,rD b] (i64 (Dz a b)):=by
 refine Ak.walk w1 tH rfl λF=>?_
 have hwa:=Ee a;have hwb:=Ee b;have va:=D6 a;have vb:=D6 b;have hlt:=@V1 a b;have hgt:=@V1 b a;unfold rD rL Dz;generalize AY a=la at*;generalize AY b=lb at*;have ea:(((la.map Ab).length:Nat):Int)=(la.length:Int):=by rw[Ac]
 have eb:(((lb.map Ab).length:Nat):Int)=(lb.length:Int):=by rw[Ac]
 refine sR 0 ?_;refine AC.seq ?_;refine sZ 100 ?_;refine AU (Ah ea eb) ?_;refine AM ?_
 (refine By (λh10=>?_) (λh10=>?_))<;>(try simp only[Bj,Bw]at h10)<;>(try simp only[h10])
 ·have hne:la.length≠lb.length:=by
   have:(la.length:Int)≠lb.length:=by simpa using h10
   omega
  refine AC.seq ?_;refine sZ 200 ?_;refine AU (Ah ea eb) ?_;refine AM ?_
  (refine By (λh15=>?_) (λh15=>?_))<;>(try simp only[Bj,Bw]at h15)<;>(try simp only[h15])
  ·have h1:la.length<lb.length:=by
    have:(la.length:Int)<lb.length:=by simpa using h15
    omega
   rw[AG (by have:=hlt h1;omega)];refine sR 300 ?_;refine Ai ?_;exact AL rfl AA.out
  ·have h1:lb.length<la.length:=by
    have:¬(la.length:Int)<lb.length:=by simpa using h15
    omega
   have h2:=hgt h1;rw[AF (by omega),AG (by omega)];refine An ?_;refine sR 400 ?_;refine Ai ?_;exact AL rfl AA.out
 ·have hl:la.length=lb.length:=by
   have:(la.length:Int)=lb.length:=by simpa using h10
   omega
  clear hlt hgt;refine An ?_;refine AC.seq ?_;refine sZ 500 ?_;refine AU ea ?_;refine AC.block ?_;have w0:IntKind.i64.wrap ((la.length:Int)-1)=(la.length:Int)-1:=wI (by omega) (by omega);rw[w0];refine AC.loop (α:=Nat×Nat) (λp=>⟨[(0,.sl false 1 (la.map Ab)),(1,.sl false 1 (lb.map Ab)),(5,i64 ((p.1:Int)-1))],[],p.2⟩) (λp=>p.1)
   (λp=>p.1<=la.length/\la.drop p.1=lb.drop p.1) (la.length,_) ⟨Af _,by rw[JA,hl,JA]⟩ AJ ?_
  rintro⟨k,m⟩ F ⟨h1,h2⟩;dsimp only at h1 h2⊢;refine AC.seq ?_;refine sR 600 ?_;refine AM ?_
  (refine By (λh20=>?_) (λh20=>?_))<;>(try simp only[Bj,Bw]at h20)<;>(try simp only[h20])
  ·obtain⟨j,rfl⟩:∃j,k=j+1:=⟨k-1,by
    have:(k:Int)-1>=0:=by simpa using h20
    omega⟩
   have wj:((j+1:Nat):Int)-1=(j:Int):=by omega
   obtain⟨x,hx⟩:∃x,la[j]?=some x:=⟨la[j],A9 (by omega)⟩
   obtain⟨y,hy⟩:∃y,lb[j]?=some y:=⟨lb[j],A9 (by omega)⟩
   have hx':=Dv hx;have hy':=Dv hy;rw[wj];refine An ?_;refine AC.seq ?_;refine AC.block ?_;refine AC.seq ?_;refine AC.seq ?_;refine B7 w1 800 [0,1,2,3,4,5,6,7] [8] (by kernel_rfl) ?_;refine AE kN ?_;refine Bq kT hx' ?_;refine AE kN ?_;refine Bq kT hy' ?_;refine AE kN ?_;refine AE kN ?_;refine AM ?_
   (refine By (λh31=>?_) (λh31=>?_))<;>(try simp only[Bj,Bw]at h31)<;>(try simp only[h31])
   ·have hxy:x<y:=by
     have:=DE h31
     omega
    have:=WD hwa hx hy h2 hxy
    rw[AG (by omega)];refine sR 900 ?_;refine Ai ?_;exact AL rfl AA.out
   ·have hxy0:¬x<y:=by
     have:=DS h31
     omega
    refine An ?_;refine AC.seq ?_;refine B7 w1 1000 [0,1,2,3,4,5,6,7] [8] (by kernel_rfl) ?_;refine AE kN ?_;refine Bq kT hx' ?_;refine AE kN ?_;refine Bq kT hy' ?_;refine AE kN ?_;refine AE kN ?_;refine AM ?_
    (refine By (λh40=>?_) (λh40=>?_))<;>(try simp only[Bj,Bw]at h40)<;>(try simp only[h40])
    ·have hxy:y<x:=by
      have:=DE h40
      omega
     have:=WD hwb hy hx h2.symm hxy
     rw[AF (by omega),AG (by omega)];refine sR 1100 ?_;refine Ai ?_;exact AL rfl AA.out
    ·have hxy:x=y:=by
      have:=DS h40
      omega
     subst hxy;have w5:IntKind.i64.wrap ((j:Int)-1)=(j:Int)-1:=wI (by omega) (by omega);refine An ?_;refine Ao w1 700 (by kernel_rfl) ?_;refine AU w5 ?_;have hj:=(List.getElem?_eq_some_iff.1 hx)
     have hj':=(List.getElem?_eq_some_iff.1 hy)
     refine⟨(j,_),⟨by dsimp only;omega,?_⟩,by dsimp only;omega,AJ⟩;dsimp only;rw[ET hj.1,ET hj'.1,hj.2,hj'.2,h2]
  ·have hk:k=0:=by
    have:¬((k:Int)-1>=0):=by simpa using h20
    omega
   subst hk;have hab:a=b:=by
    rw[<-va,<-vb]
    have:la=lb:=by simpa using h2
    rw[this]
   subst hab;rw[AF (by omega),AF (by omega)];refine B9 ?_;refine sR 1200 ?_;refine Ai ?_;exact AL rfl AA.out
theorem Sv (l:List Nat)(i:Nat):AO (l.take (i+1))=AO (l.take i)+RB^i*l.getD i 0:=by
 by_cases h:i<l.length
 ·obtain⟨a,ha⟩:=CV h
  rw[FG ha,G5 (i:=i) (by rw[Bd];omega),DR,ha];rfl
 ·rw[B8 (by omega),B8 (by omega),DR,Dj (by omega)]
  simp
theorem TM {l:List Nat}(h:Rd l)(i:Nat):l.getD i 0<RB:=by
 by_cases hi:i<l.length
 ·obtain⟨a,ha⟩:=CV hi
  rw[DR,ha];exact h a (Aw ha)
 ·rw[DR,Dj (by omega)];decide
theorem XP (l:List Nat)(i:Nat):AO (l.take i)<=AO l:=by
 conv=>rhs;rw[<-E7 i l]
 rw[JH];exact Nat.le_add_right _ _
theorem W5 {a i:Nat}(h:i<(AY a).length):RB^i<=a:=by
 obtain⟨k,hk⟩:∃k,(AY a).length=k+1:=⟨(AY a).length-1,by omega⟩
 exact BX (FT (by decide) (by omega)) (S5 hk)
structure Og (a b:Nat)(i c:Nat)(out:List Nat):Prop where
 len:out.length=i
 wd:Rd out
 c1:c<=1
 val:AO out+RB^i*c=AO ((AY a).take i)+AO ((AY b).take i)
 can:i=0\/RB^(i-1)<=a+b
theorem lW {a b i c:Nat}{out:List Nat}(I:Og a b i c out)(h:i<(AY a).length\/i<(AY b).length\/0<c):
  Og a b (i+1) (((AY a).getD i 0+(AY b).getD i 0+c)/RB) (out++[((AY a).getD i 0+(AY b).getD i 0+c)%RB])/\(AY a).getD i 0+(AY b).getD i 0+c<2*RB:=by
 obtain⟨len,wd,c1,val,can⟩:=I;have h1:=TM (Ee a) i;have h2:=TM (Ee b) i;have hs:(AY a).getD i 0+(AY b).getD i 0+c<2*RB:=by omega
 have e1:=Sv (AY a) i;have e2:=Sv (AY b) i;have ta:=XP (AY a) i;have tb:=XP (AY b) i;rw[D6]at ta tb;refine⟨⟨by rw[Bc,len];rfl,Rd.append wd λx hx=>?_,?_,?_,.inr ?_⟩,hs⟩
 ·simp only[BG,Db,or_false]at hx
  subst hx;exact B3 _ (by decide)
 ·exact Nh (E8 (by rw[BT];exact hs))
 ·rw[G5 len,e1,e2,CN,Bz]
  have e:=Eo ((AY a).getD i 0+(AY b).getD i 0+c) RB;generalize(AY a).getD i 0=p at*;generalize(AY b).getD i 0=q at*;have e3:RB^i*((p+q+c)%RB+RB*((p+q+c)/RB))=RB^i*(p+q+c):=by rw[e]
  rw[BN,BN,BN (RB^i) p]at e3;omega
 ·rw[Ia]
  rcases h with h|h|h
  ·have:=W5 h;omega
  ·have:=W5 h;omega
  ·have hc:c=1:=by omega
   subst hc;rw[EF]at val;omega
theorem lV {a b i:Nat}{out:List Nat}(I:Og a b i 0 out)(h1:¬i<(AY a).length)(h2:¬i<(AY b).length):out=AY (a+b):=by
 obtain⟨len,wd,c1,val,can⟩:=I;rw[B8 (by omega),B8 (by omega),D6,D6,Eb,DW]at val;rcases SP out with rfl|⟨m,c,rfl⟩
 ·rw[<-val];unfold AY;rfl
 ·rw[SO]at*
  rw[Bc,Ek]at len;have hc:c≠0:=by
   intro hc;subst hc;rcases can with h|h
   ·omega
   ·rw[UI]at val
    have:=GD (l:=m) λx hx=>wd x (HU _ hx)
    rw[show i-1=m.length by omega]at h;omega
  rw[<-val,Zb wd hc]
theorem vg (a b:Nat)(ha:(AY a).length<1000000)(hb:(AY b).length<1000000):AK C0 221 [rD a,rD b] (rD (a+b)):=by
 refine Ak.walk w1 tP rfl λF=>?_
 have hT:Fz [] [] (rD a) (rD a):=.refl _;change AC C0 F none F _ ⟨DN 0 [.sl false 1 ((AY a).map Ab),.sl false 1 ((AY b).map Ab)],[],0⟩ _;have ea:((((AY a).map Ab).length:Nat):Int)=((AY a).length:Int):=by rw[Ac]
 have eb:((((AY b).map Ab).length:Nat):Int)=((AY b).length:Int):=by rw[Ac]
 have I0:Og a b 0 0 []:=⟨rfl,(λx hx=>Ad hx Db),BU _,by simp[AO],.inl rfl⟩
 refine sR 0 ?_;refine sR 100 ?_;refine sR 200 ?_;refine AC.seq ?_;refine sR 300 ?_;refine AC.block ?_;refine AC.loop (α:=Nat×Nat×List Nat×List D×Nat×Nat) (λp=>⟨[(0,.sl false 1 ((AY a).map Ab)),(1,.sl false 1 ((AY b).map Ab)),(5,Dy 704 p.2.2.2.2.1 1 p.2.2.2.1),(6,Ab p.2.1),(7,Ab p.1)],Dt 704 p.2.2.2.2.1 3 1 p.2.2.2.1,p.2.2.2.2.2⟩)
  (λp=>(max (AY a).length (AY b).length-p.1)*2+p.2.1) (λp=>Og a b p.1 p.2.1 p.2.2.1/\p.2.2.2.1=p.2.2.1.map Ab/\p.1<=max (AY a).length (AY b).length+1) (0,0,[],[],0,_) ⟨I0,rfl,BU _⟩ AJ ?_
 rintro⟨i,c,out,L,g,n⟩ F ⟨I,hL,hi⟩;dsimp only at I hL hi⊢;have c1:=I.c1;have hol:=I.len;refine AC.seq ?_;refine C4 (α:=Nat) (λn=>⟨[(0,.sl false 1 ((AY a).map Ab)),(1,.sl false 1 ((AY b).map Ab)),(5,Dy 704 g 1 L),(6,Ab c),(7,Ab i),(22,Aq (decide (i<(AY a).length\/i<(AY b).length\/0<c)))],Dt 704 g 3 1 L,n⟩) (λ_=>True) ?_ ?_
 ·generalize Dy 704 g 1 L=od at*
  generalize Dt 704 g 3 1 L=oh at*
  by_cases h1:i<(AY a).length
  ·have e1:decide ((i:Int)<((AY a).length:Int))=true:=AX (by omega)
   have e:decide (i<(AY a).length\/i<(AY b).length\/0<c)=true:=AX (.inl h1);rw[e];refine Ao w1 400 (by kernel_rfl) ?_;refine AU (Ah ea e1) ?_;refine AE kT ?_;refine AE kT ?_;exact⟨trivial,_,trivial,AJ⟩
  ·have e1:decide ((i:Int)<((AY a).length:Int))=false:=Ag (by omega)
   by_cases h2:i<(AY b).length
   ·have e2:decide ((i:Int)<((AY b).length:Int))=true:=AX (by omega)
    have e:decide (i<(AY a).length\/i<(AY b).length\/0<c)=true:=AX (.inr (.inl h2));rw[e];refine Ao w1 400 (by kernel_rfl) ?_;refine AU (Ah ea e1) ?_;refine AE kF ?_;simp only[eb,e2];refine AE kT ?_;exact⟨trivial,_,trivial,AJ⟩
   ·have e2:decide ((i:Int)<((AY b).length:Int))=false:=Ag (by omega)
    have e:decide ((c:Int)>0)=decide (i<(AY a).length\/i<(AY b).length\/0<c):=by rw[C8];omega
    rw[<-e];refine Ao w1 400 (by kernel_rfl) ?_;refine AU (Ah ea e1) ?_;refine AE kF ?_;simp only[eb,e2];refine AE kF ?_;exact⟨trivial,_,trivial,AJ⟩
 rintro n2 -
 by_cases h:i<(AY a).length\/i<(AY b).length\/0<c
 ·obtain⟨J,hs⟩:=lW I h
  have d1:=Tw (AY a) i (by omega) (by omega);have d2:=Tw (AY b) i (by omega) (by omega);unfold rL at d1 d2;have hmu:∀c',c'<=1->(max (AY a).length (AY b).length<=i->c'=0)->(max (AY a).length (AY b).length-(i+1))*2+c'<(max (AY a).length (AY b).length-i)*2+c:=λc' h1 h2=>by
   rcases BH i (max (AY a).length (AY b).length)with h3|h3
   ·omega
   ·have:=h2 h3;omega
  have hmu2:max (AY a).length (AY b).length<=i->((AY a).getD i 0+(AY b).getD i 0+c)/RB=0:=λh3=>by
   rw[DR,Dj (by omega),DR,Dj (by omega)];show(0+0+c)/1000000000=0;omega
  have hbnd:i<max (AY a).length (AY b).length+1:=by
   rcases h with h|h|h
   ·omega
   ·omega
   ·rcases BH i (max (AY a).length (AY b).length+1)with h3|h3
    ·exact h3
    ·exfalso
     obtain⟨len,wd,_,val,_⟩:=I;have hc:c=1:=by omega
     subst hc;rw[B8 (by omega),B8 (by omega),D6,D6,EF]at val;have l1:=Il a;have l2:=Il b;have m1:RB^(AY a).length<=RB^max (AY a).length (AY b).length:=FT (by decide) (Nat.le_max_left _ _);have m2:RB^(AY b).length<=RB^max (AY a).length (AY b).length:=FT (by decide) (Nat.le_max_right _ _);have m3:RB^(max (AY a).length (AY b).length+1)<=RB^i:=FT (by decide) h3;rw[CN]at m3;generalize RB^max (AY a).length (AY b).length=Q at*;change Q*1000000000<=_ at m3;omega
  have hmu3:=hmu _ J.c1 hmu2;rw[AX h];generalize hp:(AY a).getD i 0=p at*;generalize hq:(AY b).getD i 0=q at*;have k1:IntKind.i64.wrap ((p:Int)+(q:Int))=((p+q:Nat):Int):=by rw[wI (by omega) (by unfold RB at hs;omega)];omega
  have k2:IntKind.i64.wrap (((p+q:Nat):Int)+(c:Int))=((p+q+c:Nat):Int):=by rw[wI (by omega) (by unfold RB at hs;omega)];omega
  have k3:((p+q+c:Nat):Int).tmod 1000000000=(((p+q+c)%RB:Nat):Int):=rfl;have k4:IntKind.i64.wrap (((p+q+c:Nat):Int).tdiv 1000000000)=(((p+q+c)/RB:Nat):Int):=by
   show IntKind.i64.wrap ((((p+q+c)/1000000000:Nat)):Int)=_;exact wN (by unfold RB at hs;omega)
  have wi:IntKind.i64.wrap ((i:Int)+1)=((i+1:Nat):Int):=wI (by omega) (by omega);generalize(p+q+c)%RB=d at*;generalize(p+q+c)/RB=c' at*;have hlo:L.length<=1000001:=by rw[hL,Ac];omega
  have hmo:L++[Ab d]=(out++[d]).map Ab:=by rw[hL,Cq];rfl
  clear hmu hmu2 ea eb hL I;refine AM ?_;refine An ?_;refine AC.seq ?_;refine AC.block ?_;refine sR 600 ?_;refine cI d1 ?_;refine cI d2 ?_;simp only[k1,k2];refine AC.seq ?_;rcases L with _|⟨x,L⟩
  all_goals
   (try simp only[Bo]at hlo)
   dsimp only[Io,Ip,Hb,Hc];refine Ao w1 700 (by kernel_rfl) ?_;refine AU k3 ?_;refine Ao w1 800 (by kernel_rfl) ?_;refine AU k4 ?_;refine Ao w1 500 (by kernel_rfl) ?_;refine AU wi ?_
  ·exact⟨(i+1,c',out++[d],[]++[Ab d],_,_),⟨J,hmo,hbnd⟩,hmu3,AJ⟩
  ·have htk:List.take (L.length+1) (x::L)=x::L:=by simp
   rw[htk];refine⟨(i+1,c',out++[d],x::L++[Ab d],_,_),⟨J,hmo,hbnd⟩,hmu3,by(dsimp only;rw[OE];exact AJ)⟩
 ·rw[Ag h]
  have hc:c=0:=by omega
  subst hc;have hout:=lV I (by omega) (by omega);refine AM ?_;refine B9 ?_;refine sR 900 ?_;refine Ai ?_;refine⟨_,RY _ _ _ _ _,?_,?_⟩
  ·rw[hL];exact Oe _
  ·rw[hL,hout];rfl
set_option maxHeartbeats 4000000
theorem wH {env:Ar}{t K g T n:Nat}{l:List D}(he:env.get t=Dy K g 1 l:=by exact rfl):Wk ⟨env,Dt K g T 1 l,n⟩ ⟨[(t,.sl false 1 l)],[],n⟩:=by
 refine⟨?_,⟨?_,trivial⟩,Af _⟩
 ·cases l with
  |nil=>exact .nil
  |cons x l=>exact .drop .nil
 ·dsimp only
  rw[he];exact RY _ _ _ _ _
theorem pY {env:Ar}{t K g n N:Nat}{z:List Nat}{T:Nat}(hl:z.length=N)(he:env.get t=.osl K g 1 0 N:=by exact rfl):Wk ⟨env,[⟨K,g,T,1,z.map Ab⟩],n⟩ ⟨[(t,.sl false 1 (z.map Ab))],[],n⟩:=by
 subst hl;refine⟨.drop .nil,⟨?_,trivial⟩,Af _⟩;dsimp only;rw[he]
 have:=RZ K g T 1 (z.map Ab)
 rwa [Ac]at this
theorem iZ {a v c:Nat}(ha:a<RB)(hv:v<RB)(hc:c<=1):∃d c',d<RB/\c'<=1/\d+v+c=a+RB*c'/\((c'=0/\(a:Int)-v-c=d)\/(c'=1/\(a:Int)-v-c<0/\(a:Int)-v-c+1000000000=d)):=by
 unfold RB at ha hv⊢
 by_cases h:a<v+c
 ·exact⟨a+1000000000-v-c,1,by omega,by omega,by omega,.inr ⟨rfl,by omega,by omega⟩⟩
 ·exact⟨a-v-c,0,by omega,by omega,by omega,.inl ⟨rfl,by omega⟩⟩
theorem fE (a b:Nat)(hab:b<=a)(ha:(AY a).length<1000000):AK C0 222 [rD a,rD b] (rD (a-b)):=by
 refine Ak.walk w1 tQ rfl λF=>?_
 change AC C0 F none F _ ⟨DN 0 [.sl false 1 ((AY a).map Ab),.sl false 1 ((AY b).map Ab)],[],0⟩ _;have hlb:=Ik b a hab;have va:=D6 a;have vb:=D6 b;have wx:=Ee a;have wy:=Ee b;generalize AY a=x at*;generalize AY b=y at*;have ea:(((x.map Ab).length:Nat):Int)=(x.length:Int):=by rw[Ac]
 refine sR 0 ?_;refine sR 100 ?_;refine sR 200 ?_;refine AC.seq ?_;refine sR 300 ?_;refine AC.block ?_;refine AC.loop (α:=Nat×Nat×List Nat×List D×Nat×Nat) (λp=>⟨[(0,.sl false 1 (x.map Ab)),(1,.sl false 1 (y.map Ab)),(5,Dy 1103 p.2.2.2.2.1 1 p.2.2.2.1),(6,Ab p.2.1),(7,Ab p.1)],Dt 1103 p.2.2.2.2.1 3 1 p.2.2.2.1,p.2.2.2.2.2⟩)
  (λp=>x.length-p.1) (λp=>p.1<=x.length/\p.2.1<=1/\p.2.2.1.length=p.1/\Rd p.2.2.1/\AO p.2.2.1+AO (y.take p.1)=AO (x.take p.1)+RB^p.1*p.2.1/\p.2.2.2.1=p.2.2.1.map Ab) (0,0,[],[],0,_) ⟨BU _,BU _,rfl,(λx hx=>Ad hx Db),by simp[AO],rfl⟩ AJ ?_
 rintro⟨i,c,out,L,g,n⟩ F ⟨hi,hc,hol,how,hI,hL⟩;dsimp only at hi hc hol how hI hL⊢;refine AC.seq ?_;refine AC.seq ?_
 by_cases h:i<x.length
 ·have e1:decide ((i:Int)<(x.length:Int))=true:=AX (by omega)
  obtain⟨p,hp⟩:=CV h;have hx:=Dv hp;have hpl:=wx p (Aw hp);have d2:=Tw y i (by omega) (by omega);unfold rL at d2;have hql:=TM wy i;have ty:=Sv y i;have tx:AO (x.take (i+1))=AO (x.take i)+RB^i*p:=by rw[FG hp,G5 (i:=i) (by rw[Bd];omega)]
  generalize y.getD i 0=q at*;obtain⟨d,c',hd,hc',hdig,hcase⟩:=iZ hpl hql hc;have k1:IntKind.i64.wrap ((p:Int)-(q:Int))=(p:Int)-q:=wI (by unfold RB at*;omega) (by unfold RB at*;omega);have k2:IntKind.i64.wrap ((p:Int)-q-(c:Int))=(p:Int)-q-c:=wI (by unfold RB at*;omega) (by unfold RB at*;omega);have wi:IntKind.i64.wrap ((i:Int)+1)=((i+1:Nat):Int):=wI (by omega) (by omega);have hlo:L.length<=1000001:=by rw[hL,Ac];omega
  have hmo:L++[Ab d]=(out++[d]).map Ab:=by rw[hL,Cq];rfl
  have hvn:AO (out++[d])+AO (y.take (i+1))=AO (x.take (i+1))+RB^(i+1)*c':=by
   rw[G5 hol,ty,tx,CN,Bz];have e3:RB^i*(d+q+c)=RB^i*(p+RB*c'):=by rw[hdig]
   rw[BN,BN,BN (RB^i) p]at e3;omega
  have how':Rd (out++[d]):=Rd.append how λx hx=>by
   simp only[BG,Db,or_false]at hx;subst hx;exact hd
  have hol':(out++[d]).length=i+1:=by rw[Bc,hol];rfl
  clear hI hL how;refine Ao w1 400 (by kernel_rfl) ?_;refine AU (Ah ea e1) ?_;refine AM ?_;refine An ?_;refine AC.seq ?_;refine AC.block ?_;refine AC.seq ?_;refine B7 w1 600 [0,1,2,3,4,5,6,7,8] [9,10] (by kernel_rfl) ?_;refine AE kN ?_;refine Bq kT hx ?_;refine AE kN ?_;refine BZ.same _ d2 AI ?_;refine AE (Ah k1 k2) ?_;refine sR 700 ?_;refine C4 (α:=Nat) (λn=>⟨[(0,.sl false 1 (x.map Ab)),(1,.sl false 1 (y.map Ab)),(5,Dy 1103 g 1 L),(6,Ab c'),(7,Ab i),(8,Ab d)],Dt 1103 g 3 1 L,n⟩) (λ_=>True) ?_ ?_
  ·generalize Dy 1103 g 1 L=od at*
   generalize Dt 1103 g 3 1 L=oh at*;refine AC.seq ?_;rcases hcase with⟨rfl,h2⟩|⟨rfl,h2,h3⟩
   ·have e2:decide ((p:Int)-q-c<0)=false:=Ag (by omega)
    rw[h2]at e2;rw[h2];refine Ao w1 800 (by kernel_rfl) ?_;refine AU e2 ?_;refine AM ?_;refine An ?_;exact⟨rfl,_,trivial,AJ⟩
   ·have e2:decide ((p:Int)-q-c<0)=true:=AX h2
    have k3:IntKind.i64.wrap ((p:Int)-q-c+1000000000)=(d:Int):=by rw[h3];exact wI (by unfold RB at*;omega) (by unfold RB at*;omega)
    refine Ao w1 800 (by kernel_rfl) ?_;refine AU e2 ?_;refine AM ?_;refine sZ 900 ?_;refine AU k3 ?_;refine rI 1000 ?_;exact⟨rfl,_,trivial,AJ⟩
  rintro n3 -;rcases L with _|⟨x0,L⟩
  all_goals
   (try simp only[Bo]at hlo)
   dsimp only[Io,Ip,Hb,Hc];refine rI 1100 ?_;refine Ao w1 500 (by kernel_rfl) ?_;refine AU wi ?_
  ·exact⟨(i+1,c',out++[d],[]++[Ab d],_,_),⟨h,hc',hol',how',hvn,hmo⟩,by dsimp only;omega,AJ⟩
  ·have htk:List.take (L.length+1) (x0::L)=x0::L:=by simp
   rw[htk];refine⟨(i+1,c',out++[d],x0::L++[Ab d],_,_),⟨h,hc',hol',how',hvn,hmo⟩,by dsimp only;omega,by(dsimp only;rw[OE];exact AJ)⟩
 ·have e1:decide ((i:Int)<(x.length:Int))=false:=Ag (by omega)
  have hix:i=x.length:=by omega
  subst hix;rw[B8 (by omega),B8 (by omega),va,vb]at hI;have hlt:=GD how;rw[hol]at hlt;have hxl:=GD wx;rw[va]at hxl;have hov:AO out=a-b:=by
   rcases Do c with h|h
   ·subst h;rw[Eb]at hI;omega
   ·have:c=1:=by omega
    subst this;rw[EF]at hI;omega
  refine Ao w1 400 (by kernel_rfl) ?_;refine AU (Ah ea e1) ?_;refine AM ?_;refine B9 ?_;refine AC.weak ⟨[(5,.sl false 1 L)],[],_⟩ wH ?_;rw[hL];refine sR 1200 ?_;refine BE.same _ (Ln out how (by omega)) AI ?_;refine BP ?_;refine Ai ?_;exact AL (by rw[hov]) AA.out
theorem VC (a b:Nat)(hla:(AY a).length<1000000)(hlb:(AY b).length<1000000):AK C0 215 [rD a,rD b] (rD (a*b)):=by
 refine Ak.walk w1 tJ rfl λF=>?_
 change AC C0 F none F _ ⟨DN 0 [.sl false 1 ((AY a).map Ab),.sl false 1 ((AY b).map Ab)],[],0⟩ _;have va:=D6 a;have vb:=D6 b;have ha:=Ee a;have hb:=Ee b;generalize AY a=x at*;generalize AY b=y at*;subst va;subst vb;have ea:(((x.map Ab).length:Nat):Int)=(x.length:Int):=by rw[Ac]
 have eb:(((y.map Ab).length:Nat):Int)=(y.length:Int):=by rw[Ac]
 have wl:IntKind.i64.wrap ((x.length:Int)+(y.length:Int))=((x.length+y.length:Nat):Int):=by rw[wI (by omega) (by omega)];omega
 have r3:List.replicate (x.length+y.length) (ofV (.int .i64 0))=(List.replicate (x.length+y.length) 0).map Ab:=by rw[Jo];rfl
 refine sR 0 ?_;refine sZ 100 ?_;refine AU (BY ea eb wl kN) ?_;refine AC.seq ?_;refine sR 200 ?_;refine AC.block ?_;refine AC.loop (α:=Nat×List Nat×Nat) (λp=>⟨[(0,.sl false 1 (x.map Ab)),(1,.sl false 1 (y.map Ab)),(5,.osl 105 6 1 0 (x.length+y.length)),(6,i64 p.1)],[⟨105,6,3,1,p.2.1.map Ab⟩],p.2.2⟩) (λp=>x.length-p.1)
  (λp=>p.1<=x.length/\p.2.1.length=x.length+y.length/\Rd p.2.1/\AO p.2.1=AO (x.take p.1)*AO y/\∀k,p.1+y.length<=k->∀d,p.2.1[k]?=some d->d=0) (0,List.replicate (x.length+y.length) 0,_)
  ⟨BU _,by simp,S6 _,by simp[AO,WE],λk _ d hd=>Pc (Aw hd)⟩ (by rw[<-r3];exact AJ) ?_
 rintro⟨i,o,m⟩ F ⟨h1,h2,h3,h4,h5⟩;dsimp only at h1 h2 h3 h4 h5⊢;refine AC.seq ?_;refine AC.seq ?_
 by_cases hi:i<x.length
 ·have e1:decide ((i:Int)<(x.length:Int))=true:=AX (by omega)
  obtain⟨p,hp⟩:=CV hi;have hp':=Dv hp;have hpl:p<RB:=ha p (Aw hp);have wi:IntKind.i64.wrap ((i:Int)+1)=((i+1:Nat):Int):=wI (by omega) (by omega);have hax:AO (x.take (i+1))=AO (x.take i)+RB^i*p:=by rw[FG hp,G5 (i:=i) (by rw[Bd];omega)]
  refine Ao w1 300 (by kernel_rfl) ?_;refine AU (Ah ea e1) ?_;refine AM ?_;refine An ?_;refine AC.seq ?_;refine AC.block ?_;refine sR 500 ?_;refine AC.seq ?_;refine sR 600 ?_;refine AC.block ?_;refine AC.loop (α:=Nat×Nat×List Nat×Nat) (λq=>⟨[(0,.sl false 1 (x.map Ab)),(1,.sl false 1 (y.map Ab)),(5,.osl 105 6 1 0 (x.length+y.length)),(6,i64 i),(7,Ab q.2.1),(8,i64 q.1)],[⟨105,6,3,1,q.2.2.1.map Ab⟩],q.2.2.2⟩) (λq=>y.length-q.1)
   (λq=>q.1<=y.length/\q.2.1<RB/\q.2.2.1.length=x.length+y.length/\Rd q.2.2.1/\AO q.2.2.1+RB^(i+q.1)*q.2.1=AO (x.take i)*AO y+RB^i*p*AO (y.take q.1)/\∀k,i+y.length<=k->∀d,q.2.2.1[k]?=some d->d=0) (0,0,o,_)
   ⟨BU _,(show 0<RB by decide),h2,h3,by simp[AO,h4],h5⟩ AJ ?_
  rintro⟨j,c,q,m2⟩ F ⟨g1,g2,g3,g4,g5,g6⟩;dsimp only at g1 g2 g3 g4 g5 g6⊢;clear h2 h3 h4 h5 r3 wl;refine AC.seq ?_;refine AC.seq ?_
  by_cases hj:j<y.length
  ·have e2:decide ((j:Int)<(y.length:Int))=true:=AX (by omega)
   obtain⟨r,hr⟩:=CV hj;have hr':=Dv hr;have hrl:r<RB:=hb r (Aw hr);obtain⟨z,hz⟩:=CV (l:=q) (i:=i+j) (by omega);have hz':=Dv hz;have hzl:z<RB:=g4 z (Aw hz);have wj:IntKind.i64.wrap ((j:Int)+1)=((j+1:Nat):Int):=wI (by omega) (by omega);have wij:IntKind.i64.wrap ((i:Int)+(j:Int))=((i+j:Nat):Int):=by rw[wI (by omega) (by omega)];omega
   have hbx:AO (y.take (j+1))=AO (y.take j)+RB^j*r:=by rw[FG hr,G5 (i:=j) (by rw[Bd];omega)]
   have hpr:p*r<=999999999*999999999:=Ie (by unfold RB at hpl;omega) (by unfold RB at hrl;omega);have k0:IntKind.i64.wrap ((p:Int)*(r:Int))=((p*r:Nat):Int):=by rw[<-F6,wI (by omega) (by omega)]
   have k1:IntKind.i64.wrap ((z:Int)+((p*r:Nat):Int))=((z+p*r:Nat):Int):=by rw[wI (by omega) (by unfold RB at*;omega)];omega
   have k2:IntKind.i64.wrap (((z+p*r:Nat):Int)+(c:Int))=((z+p*r+c:Nat):Int):=by rw[wI (by omega) (by unfold RB at*;omega)];omega
   have hs:=Ny (d:=(z+p*r+c)%RB) hz;have e:=Eo (z+p*r+c) RB;have hq:(z+p*r+c)/RB<RB:=E8 (by unfold RB at*;omega);have hd:(z+p*r+c)%RB<RB:=B3 _ (by decide);have k3:((z+p*r+c:Nat):Int).tmod 1000000000=(((z+p*r+c)%RB:Nat):Int):=rfl;have k4:IntKind.i64.wrap (((z+p*r+c:Nat):Int).tdiv 1000000000)=(((z+p*r+c)/RB:Nat):Int):=by
    show IntKind.i64.wrap ((((z+p*r+c)/1000000000:Nat)):Int)=_;exact wN (by change(z+p*r+c)/RB<=_;unfold RB at hq⊢;omega)
   have hval:AO (q.set (i+j) ((z+p*r+c)%RB))+RB^(i+(j+1))*((z+p*r+c)/RB)=AO (x.take i)*AO y+RB^i*p*AO (y.take (j+1)):=by
    rw[hbx,BN,<-Ea (AO (x.take i)*AO y),<-g5];have h6:RB^(i+j)*((z+p*r+c)%RB)+RB^(i+(j+1))*((z+p*r+c)/RB)=RB^i*p*(RB^j*r)+RB^(i+j)*z+RB^(i+j)*c:=by
     have:RB^i*p*(RB^j*r)=RB^(i+j)*(p*r):=by
      rw[F5,Bz,Bz,Ic p]
     rw[this,<-Ea i j 1,CN,Bz,<-BN,<-BN,<-BN,e]
     congr 1;omega
    omega
   generalize(z+p*r+c)%RB=d at*;generalize(z+p*r+c)/RB=c' at*;clear hs e g5 hax hbx;refine Ao w1 700 (by kernel_rfl) ?_;refine AU (Ah eb e2) ?_;refine AM ?_;refine An ?_;refine AC.seq ?_;refine AC.block ?_;refine AC.seq ?_;refine B7 w1 900 [0,1,2,3,4,5,6,7,8,9,10,11,12,13,14,15,16] [17,18] (by kernel_rfl) ?_;refine AE (BY wij kN BV hz') ?_;refine Bq kT hp' ?_;refine AE (BY wij kN BV hz') ?_;refine Bq kT hr' ?_;refine AE (As k0 k1 k2) ?_;refine sZ 1000 ?_;refine AE (CH wij kN BV hz' k3) ?_;rw[M1];refine Ao w1 1100 (by kernel_rfl) ?_;refine AU k4 ?_;refine Ao w1 800 (by kernel_rfl) ?_;refine AU wj ?_;refine⟨(j+1,c',q.set (i+j) d,_),⟨hj,hq,by dsimp only;rw[DH];exact g3,g4.set hd,hval,λk hk d hd=>?_⟩,by dsimp only;omega,AJ⟩;dsimp only at hk hd;rw[Ih (by omega)]at hd;exact g6 k hk d hd
  ·have e2:decide ((j:Int)<(y.length:Int))=false:=Ag (by omega)
   have hj:j=y.length:=by omega
   subst hj;obtain⟨z,hz⟩:=CV (l:=q) (i:=i+y.length) (by omega);have hz0:z=0:=g6 _ (Af _) _ hz;subst hz0;have hz':=Dv hz;have wij:IntKind.i64.wrap ((i:Int)+(y.length:Int))=((i+y.length:Nat):Int):=by rw[wI (by omega) (by omega)];omega
   have wij0:IntKind.i64.wrap ((i:Int)+(((y.map Ab).length:Nat):Int))=((i+y.length:Nat):Int):=by rw[eb];exact wij
   have k1:IntKind.i64.wrap (((0:Nat):Int)+(c:Int))=(c:Int):=by rw[wI (by omega) (by unfold RB at*;omega)];omega
   have hs:=Ny (d:=c) hz;rw[B8 (Af _)]at g5;have hval:AO (q.set (i+y.length) c)=AO (x.take (i+1))*AO y:=by
    rw[hax,Bx];omega
   clear hs g5 hax;refine Ao w1 700 (by kernel_rfl) ?_;refine AU (Ah eb e2) ?_;refine AM ?_;refine B9 ?_;refine Ao w1 1200 (by kernel_rfl) ?_;refine AE (Dp eb wij kN BV hz' k1) ?_;rw[M1];refine Ao w1 400 (by kernel_rfl) ?_;refine AU wi ?_;refine⟨(i+1,q.set (i+y.length) c,_),⟨hi,by dsimp only;rw[DH];exact g3,g4.set g2,hval,λk hk d hd=>?_⟩,by dsimp only;omega,AJ⟩;dsimp only at hk hd;rw[Ih (by omega)]at hd;exact g6 k (by omega) d hd
 ·have e1:decide ((i:Int)<(x.length:Int))=false:=Ag (by omega)
  have hi:i=x.length:=by omega
  subst hi;rw[B8 (Af _)]at h4;refine Ao w1 300 (by kernel_rfl) ?_;refine AU (Ah ea e1) ?_;refine AM ?_;refine B9 ?_;refine AC.weak ⟨[(5,.sl false 1 (o.map Ab))],[],_⟩ (pY h2) ?_;refine sR 1300 ?_;refine BE.same _ (Ln o h3 (by omega)) AI ?_;refine BP ?_;refine Ai ?_;exact AL (by rw[h4]) AA.out
theorem PE (a b:Nat)(h:a/b<=9223372036854775807):IntKind.i64.wrap ((a:Int).tdiv (b:Int))=((a/b:Nat):Int):=by
 rw[<-Int.ofNat_tdiv];exact wN h
theorem Rw (a b:Nat):(a:Int).tmod (b:Int)=((a%b:Nat):Int):=(Int.ofNat_tmod a b).symm
theorem nU {env:Ar}{t K g n N t2:Nat}{z:List Nat}{T:Nat}{d2:D}(hl:z.length=N)(he:env.get t=.osl K g 1 0 N:=by exact rfl)(h2:env.get t2=d2:=by exact rfl):Wk ⟨env,[⟨K,g,T,1,z.map Ab⟩],n⟩ ⟨[(t,.sl false 1 (z.map Ab)),(t2,d2)],[],n⟩:=by
 subst hl;refine⟨.drop .nil,⟨?_,?_,trivial⟩,Af _⟩
 ·dsimp only
  rw[he]
  have:=RZ K g T 1 (z.map Ab)
  rwa [Ac]at this
 ·dsimp only
  rw[h2];exact .refl _
theorem nB {r p d:Nat}(h:r*RB+p<d*RB)(hd:d<RB):IntKind.i64.wrap ((r:Int)*1000000000)=((r*RB:Nat):Int)/\IntKind.i64.wrap (((r*RB:Nat):Int)+(p:Int))=((r*RB+p:Nat):Int):=by
 unfold RB at*;refine⟨?_,?_⟩
 ·rw[wI (by omega) (by omega)];omega
 ·rw[wI (by omega) (by omega)];omega
theorem WW (a d:Nat)(hd:0<d)(hdl:d<RB)(hl:(AY a).length<1000000):AK C0 213 [rD a,Ab d] (.tup [rD (a/d),Ab (a%d)]):=by
 refine Ak.walk w1 tI rfl λF=>?_
 change AC C0 F none F _ ⟨DN 0 [.sl false 1 ((AY a).map Ab),Ab d],[],0⟩ _;have va:=D6 a;have wa:=Ee a;generalize AY a=x at*;have ea:(((x.map Ab).length:Nat):Int)=(x.length:Int):=by rw[Ac]
 have wl:IntKind.i64.wrap ((x.length:Int)-1)=(x.length:Int)-1:=wI (by omega) (by omega);have r3:List.replicate x.length (ofV (.int .i64 0))=(List.replicate x.length 0).map Ab:=by rw[Jo];rfl
 have d0:¬(d:Int)=0:=by omega
 refine sR 0 ?_;refine sZ 100 ?_;refine AU (Ah ea kN) ?_;refine sR 200 ?_;refine AC.seq ?_;refine sZ 300 ?_;refine AU (Ah ea wl) ?_;refine AC.block ?_;refine AC.loop (α:=Nat×Nat×List Nat×Nat) (λp=>⟨[(0,.sl false 1 (x.map Ab)),(1,Ab d),(6,.osl 102 4 1 0 x.length),(7,Ab p.2.1),(8,i64 ((p.1:Int)-1))],[⟨102,4,3,1,p.2.2.1.map Ab⟩],p.2.2.2⟩) (λp=>p.1)
  (λp=>p.1<=x.length/\p.2.1<d/\p.2.2.1.length=x.length/\Rd p.2.2.1/\AO (p.2.2.1.drop p.1)*d+p.2.1=AO (x.drop p.1)) (x.length,0,List.replicate x.length 0,_)
  ⟨Af _,hd,by simp,S6 _,by simp[AO]⟩ (by rw[<-r3];exact AJ) ?_
 rintro⟨k,r,q,m⟩ F ⟨h1,h2,h3,h4,h5⟩;dsimp only at h1 h2 h3 h4 h5⊢;clear ea wl r3;refine AC.seq ?_;refine sR 400 ?_;refine AM ?_
 (refine By (λh20=>?_) (λh20=>?_))<;>(try simp only[Bj,Bw]at h20)<;>(try simp only[h20])
 ·obtain⟨j,rfl⟩:∃j,k=j+1:=⟨k-1,by
   have:=DE h20
   omega⟩
  have wj:((j+1:Nat):Int)-1=(j:Int):=by omega
  obtain⟨p,hp⟩:=CV (l:=x) (i:=j) (by omega);obtain⟨z,hz⟩:=CV (l:=q) (i:=j) (by omega);have hp':=Dv hp;have hz':=Dv hz;have hpl:=wa p (Aw hp);obtain⟨J1,J2⟩:=gt hd hp (by omega) h5;have hsb:r*RB+p<d*RB:=by
   have:(r+1)*RB<=d*RB:=CL _ h2
   rw[Bx]at this;omega
  have hql:(r*RB+p)/d<RB:=E8 hsb;obtain⟨k1,k2⟩:=nB hsb hdl;have k3:=PE (r*RB+p) d (BX (Jt hql) (by decide));have k4:=Rw (r*RB+p) d;have wi:IntKind.i64.wrap ((j:Int)-1)=(j:Int)-1:=wI (by omega) (by omega);generalize(r*RB+p)/d=e at*;generalize(r*RB+p)%d=r' at*;rw[wj];refine An ?_;refine AC.seq ?_;refine AC.block ?_;refine sZ 600 ?_;refine AE kN ?_;refine Bq kT hp' ?_;refine AE (Ah k1 k2) ?_;refine sZ 700 ?_;refine AE (BY kN BV hz' k3) ?_;rw[M1];refine Ao w1 800 (by kernel_rfl) ?_;refine AU k4 ?_;refine Ao w1 500 (by kernel_rfl) ?_;refine AU wi ?_;exact⟨(j,r',q.set j e,_),⟨by dsimp only;omega,J2,by dsimp only;rw[DH];exact h3,h4.set hql,J1⟩,by dsimp only;omega,AJ⟩
 ·have hk:k=0:=by
   have:=DS h20
   omega
  subst hk;rw[FW,FW,va]at h5;obtain⟨q1,q2⟩:=QS h5 h2;refine B9 ?_;refine AC.weak ⟨[(6,.sl false 1 (q.map Ab)),(7,Ab r)],[],_⟩ (nU h3) ?_;refine sR 900 ?_;refine BE.same _ (Ln q h4 (by omega)) AI ?_;refine BP ?_;refine Ai ?_;exact AL (by rw[q1,q2]) AA.out
structure JR (U V n2 v1 p1 q r:Nat):Prop where
 eq:q*v1+r=n2
 up:U<(q+1)*V
 cap:n2<=v1*RB+p1
 p1l:p1<RB
namespace JR
variable {U V n2 v1 p1 q r:Nat} (G:JR U V n2 v1 p1 q r)
include G
theorem small (h:RB<=r):q<RB:=by
 rcases BH q RB with h1|h1
 ·exact h1
 ·exfalso
  have h2:=CL v1 h1;have h3:=G.eq;have h4:=G.cap;have h5:=G.p1l;rw[BT RB v1]at h2;omega
theorem qle (hv:0<v1):q<=2*RB:=by
 rcases BH (2*RB) q with h1|h1
 ·exfalso
  have h2:=CL v1 h1;have h3:=G.eq;have h4:=G.cap;have h5:=G.p1l;have h6:RB*1<=RB*v1:=Cb _ hv;rw[Nat.succ_mul,Bz,BT RB v1]at h2;rw[BT RB v1]at h6;omega
 ·exact h1
end JR
section
variable {P v:List Nat} {m p0 p1 p2 v2 v1:Nat} (S:KZ P v m p0 p1 p2 v2 v1)
include S
theorem iA:JR (AO P) (AO v) (p1+RB*p2) v1 p1 ((p2*RB+p1)/v1) ((p2*RB+p1)%v1):=by
 have c0:p2*RB+p1=p1+RB*p2:=by rw[BT,Kz]
 rw[c0];have e:=EY (p1+RB*p2) v1;have l:=B3 (p1+RB*p2) S.top;have c1:=BT v1 ((p1+RB*p2)/v1);refine⟨by omega,WJ S.below2 S.abovev ?_,?_,S.p1l⟩
 ·rw[Bx];omega
 ·have:=Cb RB S.p2v1
  rw[BT v1];omega
theorem iI {q r:Nat}(G:JR (AO P) (AO v) (p1+RB*p2) v1 p1 q r)(h:RB<=q\/r*RB+p0<q*v2):0<q/\JR (AO P) (AO v) (p1+RB*p2) v1 p1 (q-1) (r+v1):=by
 obtain⟨e,u,cp,pl⟩:=G;have hq:0<q:=by
  rcases h with h|h
  ·unfold RB at h;omega
  ·rcases Do q with h0|h0
   ·subst h0;omega
   ·exact h0
 obtain⟨k,rfl⟩:∃k,q=k+1:=⟨q-1,by omega⟩
 refine⟨hq,⟨?_,?_,cp,pl⟩⟩
 ·rw[Ia,<-e,Bx];omega
 ·rw[Ia]
  rcases h with h|h
  ·have h1:AO v*RB<=(k+1)*AO v:=by rw[BT];exact CL _ h
   have:=S.less
   omega
  ·have e2:(k+1)*(v2+RB*v1)=(k+1)*v2+RB*((k+1)*v1):=by rw[BN,Ic]
   refine Wp S.below3 S.abovev2 ?_;rw[e2,<-e,BN RB,BT RB r];omega
theorem WK {q r:Nat}(G:JR (AO P) (AO v) (p1+RB*p2) v1 p1 q r)(h:RB<=r\/(q<RB/\q*v2<=r*RB+p0)):q<RB/\q*AO v<=AO P+AO v:=by
 have hqB:q<RB:=by
  rcases h with h|h
  ·exact G.small h
  ·exact h.1
 obtain⟨e,u,cp,pl⟩:=G;have h5:=S.v2l;have hq:q*v2<=r*RB+p0:=by
  rcases h with h|h
  ·have h2:q*v2<=RB*RB:=Ie (by omega) (by omega)
   have h3:RB*RB<=r*RB:=CL _ h;omega
  ·exact h.2
 have e2:q*(v2+RB*v1)=q*v2+RB*(q*v1):=by rw[BN,Ic]
 refine⟨hqB,Xe (n3:=p0+RB*(p1+RB*p2)) (D:=v2+RB*v1) (P:=RB^m) (B:=RB) (v:=AO (v.take m)) ?_ ?_ S.lowv ?_ (by omega) ?_⟩
 ·rw[S.valP,BT];omega
 ·rw[S.valv,BT];omega
 ·rw[e2,<-e,BN RB,BT RB r]
  omega
 ·have:=S.top
  have h1:=Cb RB (show 1<=v1 from this);omega
end
theorem DT.of {H:Hp}{d0 d:D}(h:Fz H [] d0 d):DT H d0 d:=λ_ _ _ _ m hO hN _ hv=>h.rep m hO (λe he b hb _=>hN e he b hb) hv
theorem zg {C:BC}{f:Nat}{ds ds':List D}{Φ:D->Prop}{H:Hp}{n:Nat}(hc:Ak C f ds' Φ)(hl:ds'.length=ds.length)(hv:∀(i:Nat) (a b:D),ds[i]?=some a->ds'[i]?=some b->DT H a b)
  (hp:Aj ds') (hflat:∀d,Φ d->Jf d):Cd C f ds H n (λd' H' n'=>Φ d'/\H'=H/\n'=n+1):=by
 refine⟨hc.1,λF ρ w vs m hfr hg hvs hr=>?_⟩;have hH:Cm H [] H []:=by
  generalize H=H0
  have:∀H1:Hp,Cm H0 [] H1 []:=λH1=>by
   induction H1 with
   |nil=>exact .nil
   |cons e r ih=>exact .drop ih
  exact this H0
 obtain⟨m',hO,hN⟩:=hH.mem m;refine(hc.2 (AN F.X ρ []) w vs m.g (BX m.gn m.size) (λb hb=>m'.own_lt hb) (by omega) λi x hx=>?_).mono ?_
 ·have hi:i<ds'.length:=(List.getElem?_eq_some_iff.1 hx).1
  have hd0:ds[i]?=some ds[i]:=A9 (by omega);exact hp.out x (Aw hx) _ _ _ _ _ (hv i _ x hd0 hx C F ρ w m hO (λe he b hb=>hN e he b hb rfl) _ (hr i _ hd0))
 ·rintro e w' ⟨v,d',rfl,hb,hd',rep⟩
  have x:BW ρ (AN F.X ρ H) w ρ (AN F.X ρ H) w':=⟨hb.size,λ_ _ _ h=>h,λb hb' hO=>⟨hO,hb.block b hb'⟩,λb cs T fz hh=>⟨cs,_,by
   rw[hb.block b (Array.getElem?_eq_some_iff.1 hh).1];exact hh,rfl⟩⟩
  exact⟨v,_,H,n+1,ρ,rfl,⟨hd',rfl,rfl⟩,m.same x hb.os hb.tape hb.output hb.block,x,λk g hg'=>hfr k g (by omega),λe he=>DJ (hg e he),hflat _ hd' _ _ _ _ _ _ _ rep⟩
def Xm (P v:List Nat)(d:D):Prop:=∃q,d=Ab q/\q<RB/\AO P<(q+1)*AO v/\q*AO v<=AO P+AO v
theorem lh {p2 p1 v1:Nat}(h1:p1<RB)(h2:p2<RB):IntKind.i64.wrap ((p2:Int)*1000000000)=((p2*RB:Nat):Int)/\IntKind.i64.wrap (((p2*RB:Nat):Int)+(p1:Int))=((p2*RB+p1:Nat):Int) /\
  IntKind.i64.wrap (((p2*RB+p1:Nat):Int).tdiv (v1:Int))=(((p2*RB+p1)/v1:Nat):Int):=by
 have h3:=Gx (p2*RB+p1) v1;unfold RB at*;refine⟨?_,?_,?_⟩
 ·rw[wI (by omega) (by omega)];omega
 ·rw[wI (by omega) (by omega)];omega
 ·exact PE _ _ (by omega)
theorem jC {t r v2 p0:Nat}(ht:t<RB)(hr:r<RB)(h2:v2<RB)(h0:p0<RB):IntKind.i64.wrap ((t:Int)*(v2:Int))=((t*v2:Nat):Int)/\IntKind.i64.wrap ((r:Int)*1000000000)=((r*RB:Nat):Int) /\
  IntKind.i64.wrap (((r*RB:Nat):Int)+(p0:Int))=((r*RB+p0:Nat):Int):=by
 have h3:t*v2<=999999999*999999999:=Ie (by unfold RB at ht;omega) (by unfold RB at h2;omega);unfold RB at*;refine⟨?_,?_,?_⟩
 ·rw[<-F6,wI (by omega) (by omega)]
 ·rw[wI (by omega) (by omega)];omega
 ·rw[wI (by omega) (by omega)];omega
theorem oy {t v2 r p0:Nat}(h:t<RB):decide (((t*v2:Nat):Int)>((r*RB+p0:Nat):Int))=decide (RB<=t\/r*RB+p0<t*v2):=
 C8.2 ⟨λh1=>.inr (Int.ofNat_lt.1 h1),λh1=>Int.ofNat_lt.2 (h1.resolve_left (Nat.not_le.2 h))⟩
theorem oz {t v2 r p0:Nat}(h:¬(RB<=t\/r*RB+p0<t*v2)):t<RB/\t*v2<=r*RB+p0:=⟨Nat.lt_of_not_le λh1=>h (.inl h1),Nat.le_of_not_lt λh1=>h (.inr h1)⟩
theorem pE {P v:List Nat}{m p0 p1 p2 v2 v1:Nat}(S:KZ P v m p0 p1 p2 v2 v1):∃a1 T q0 r0:Nat,IntKind.i64.wrap ((p2:Int)*1000000000)=(a1:Int)/\IntKind.i64.wrap ((a1:Int)+(p1:Int))=(T:Int) /\
  IntKind.i64.wrap ((T:Int).tdiv (v1:Int))=(q0:Int)/\(T:Int).tmod (v1:Int)=(r0:Int)/\JR (AO P) (AO v) (p1+RB*p2) v1 p1 q0 r0/\r0<RB:=by
 obtain⟨k1,k2,k3⟩:=lh (v1:=v1) S.p1l S.p2l;exact⟨_,_,_,_,k1,k2,k3,Rw _ v1,iA S,F3 (B3 _ S.top) S.v1l⟩
theorem mH {t r v2 p0:Nat}(ht:t<RB)(hr:r<RB)(h2:v2<RB)(h0:p0<RB):∃a1 a2 a3:Nat,IntKind.i64.wrap ((t:Int)*(v2:Int))=(a3:Int)/\IntKind.i64.wrap ((r:Int)*1000000000)=(a1:Int) /\
  IntKind.i64.wrap ((a1:Int)+(p0:Int))=(a2:Int)/\decide ((a3:Int)>(a2:Int))=decide (RB<=t\/r*RB+p0<t*v2):=by
 obtain⟨q1,q2,q3⟩:=jC ht hr h2 h0;exact⟨_,_,_,q1,q2,q3,oy ht⟩
theorem om (U v:List Nat)(j m p0 p1 p2 v2 v1:Nat)(S:KZ ((U.drop j).take (m+3)) v m p0 p1 p2 v2 v1)(hj:j+(m+3)<=U.length)(hU:U.length<4000000):Ak C0 216 [rL U,rL v,Ab j] (Xm ((U.drop j).take (m+3)) v):=by
 refine Ak.walk w1 tK rfl λF=>?_
 unfold rL;have hg:∀ {k p:Nat},((U.drop j).take (m+3))[k]?=some p->U[j+k]?=some p:=λ{k p} h=>by
  rw[El]at h;split at h
  ·rwa [Gb]at h
  ·cases h
 have u0:=Dv (hg S.h0);have u1:=Dv (hg S.h1);have u2:=Dv (hg S.h2);have y1:=Dv S.g1;have y2:=Dv S.g2;have l0:=S.p0l;have l1:=S.p1l;have l2:=S.p2l;have lv1:=S.v1l;have lv2:=S.v2l;have ev:(((v.map Ab).length:Nat):Int)=((m+2:Nat):Int):=by rw[Ac,S.lv]
 have eu:(((U.map Ab).length:Nat):Int)=(U.length:Int):=by rw[Ac]
 have w0:IntKind.i64.wrap ((j:Int)+((m+2:Nat):Int))=((j+(m+2):Nat):Int):=by rw[wI (by omega) (by omega)];omega
 have wa:IntKind.i64.wrap (((j+(m+2):Nat):Int)-1)=((j+(m+1):Nat):Int):=by rw[wI (by omega) (by omega)];omega
 have wb:IntKind.i64.wrap (((j+(m+2):Nat):Int)-2)=((j+m:Nat):Int):=by rw[wI (by omega) (by omega)];omega
 have wc:IntKind.i64.wrap (((m+2:Nat):Int)-1)=((m+1:Nat):Int):=by rw[wI (by omega) (by omega)];omega
 have wd:IntKind.i64.wrap (((m+2:Nat):Int)-2)=(m:Int):=by rw[wI (by omega) (by omega)];omega
 have ra:IntKind.i64.wrap (IntKind.i64.wrap ((j:Int)+((m+2:Nat):Int))-1)=((j+(m+1):Nat):Int):=by rw[w0,wa]
 have rb:IntKind.i64.wrap (IntKind.i64.wrap ((j:Int)+((m+2:Nat):Int))-2)=((j+m:Nat):Int):=by rw[w0,wb]
 obtain⟨a1,T,q0,r0,k1,k2,k3,k4,G0,hr0⟩:=pE S;have v0:¬(v1:Int)=0:=by have:=S.top;omega
 have hvl:=S.lv;refine sR 0 ?_;refine sZ 100 ?_;refine AU ev ?_;refine AC.seq ?_;refine B7 w1 200 [0,1,2,3,4,5,6,7,8,9,10,11,12,13] [14,15] (by kernel_rfl) ?_;refine AE (BY w0 wa ra kN) ?_;refine Bq kT u2 ?_;refine AE (BY w0 wa ra kN) ?_;refine Bq kT u1 ?_;refine AE (Dp w0 wa ra kN k1 k2) ?_;refine AC.seq ?_;refine B7 w1 300 [0,1,2,3,4,5,6,7,8,9,10,11,12,13,14] [15] (by kernel_rfl) ?_;refine AE (Ah wc kN) ?_;refine Bq kT y1 ?_;refine AE (Ah wc kN) ?_;refine Bq kT y1 ?_;refine AE (BY wc kN k3 k4) ?_;refine C4 (α:=Nat×Nat) (λp=>⟨[(9,Ab p.1)],[],p.2⟩) (λp=>p.1<RB/\AO ((U.drop j).take (m+3))<(p.1+1)*AO v/\p.1*AO v<=AO ((U.drop j).take (m+3))+AO v) ?_ ?_
 ·refine AC.block ?_
  refine GY (α:=Nat×Nat×Nat) (λp=>⟨[(0,.sl false 1 (U.map Ab)),(1,.sl false 1 (v.map Ab)),(2,Ab j),(7,i64 ((m+2:Nat):Int)),(9,Ab p.1),(10,Ab p.2.1)],[],p.2.2⟩) (λp=>p.1)
   (λp F'=>F'=F/\JR (AO ((U.drop j).take (m+3))) (AO v) (p1+RB*p2) v1 p1 p.1 p.2.1/\p.2.1<RB) (q0,r0,_) ⟨rfl,G0,hr0⟩ AJ ?_
  rintro⟨t,r,n⟩ F' ⟨rfl,G,hr⟩;dsimp only at G hr⊢;clear G0 hr0 k1 k2 k3 k4 u1 u2 ra wa;have htl:=G.qle S.top;obtain⟨b,hb⟩:∃b,b=decide (RB<=t\/r*RB+p0<t*v2):=⟨_,rfl⟩
  refine AC.seq ?_;refine C4 (α:=Nat) (λn=>⟨[(0,.sl false 1 (U.map Ab)),(1,.sl false 1 (v.map Ab)),(2,Ab j),(7,i64 ((m+2:Nat):Int)),(9,Ab t),(10,Ab r),(63,Aq b)],[],n⟩) (λ_=>True) ?_ ?_
  ·rcases BH t RB with h|h
   ·have e1:decide ((t:Int)>=1000000000)=false:=Ag (by unfold RB at h;omega)
    obtain⟨a1,a2,a3,q1,q2,q3,q4⟩:=mH h hr lv2 l0;rw[<-hb]at q4;clear hb;rw[<-q4];refine B7 w1 400 [0,1,2,3,4,5,6,7,8,9,10,11,12,13,14,15,16,17,18,19] [20,21] (by kernel_rfl) ?_;refine AE e1 ?_;refine AE (As kF wd kN) ?_;refine Bq kF y2 ?_;refine AE (CH kF w0 wb rb kN) ?_;refine Bq kF u0 ?_;refine AE (BY kF q1 q2 q3) ?_;refine AE kF ?_;exact⟨trivial,_,trivial,AJ⟩
   ·have e1:decide ((t:Int)>=1000000000)=true:=AX (by unfold RB at h;omega)
    have e2:b=true:=hb.trans (AX (.inl h));subst e2;refine B7 w1 400 [0,1,2,3,4,5,6,7,8,9,10,11,12,13,14,15,16,17,18,19] [20,21] (by kernel_rfl) ?_;refine AE e1 ?_;refine AE kT ?_;refine AE kT ?_;exact⟨trivial,_,trivial,AJ⟩
  rintro n2 -;cases b with
  |true=>
   have hc:=DE hb.symm;obtain⟨t0,G2⟩:=iI S G hc;have j1:IntKind.i64.wrap ((t:Int)-1)=((t-1:Nat):Int):=by rw[wI (by omega) (by unfold RB at htl;omega)];omega
   have j2:IntKind.i64.wrap ((r:Int)+(v1:Int))=((r+v1:Nat):Int):=by rw[wI (by omega) (by unfold RB at hr lv1;omega)];omega
   clear hc hb;refine AM ?_;refine An ?_;refine AC.block ?_;refine sZ 500 ?_;refine AU j1 ?_;refine sZ 600 ?_;refine AE (Ah wc kN) ?_;refine Bq kT y1 ?_;refine AE j2 ?_;refine AC.seq ?_;rcases BH (r+v1) RB with h|h
   ·have e3:decide (((r+v1:Nat):Int)>=1000000000)=false:=Ag (by unfold RB at h;omega)
    refine Ao w1 700 (by kernel_rfl) ?_;refine AU e3 ?_;refine AM ?_;refine An ?_;exact⟨(t-1,r+v1,_),⟨rfl,G2,h⟩,by dsimp only;omega,AJ⟩
   ·have e3:decide (((r+v1:Nat):Int)>=1000000000)=true:=AX (by unfold RB at h;omega)
    obtain⟨g1,g2⟩:=WK S G2 (.inl h);refine Ao w1 700 (by kernel_rfl) ?_;refine AU e3 ?_;refine AM ?_;refine sR 800 ?_;refine Ai ?_;exact⟨_,.refl _,AA.out,t-1,rfl,g1,G2.up,g2⟩
  |false=>
   have hc:=DS hb.symm;obtain⟨g1,g2⟩:=WK S G (.inr (oz hc));clear hc hb;refine AM ?_;refine B9 ?_;exact⟨rfl,⟨t,_⟩,⟨g1,G.up,g2⟩,AJ⟩
 rintro⟨q,n⟩ ⟨g1,g2,g3⟩;dsimp only at g1 g2 g3⊢;refine sR 900 ?_;refine Ai ?_;exact⟨_,.refl _,AA.out,q,rfl,g1,g2,g3⟩
def Oy (k g k' n:Nat)(env:Ar):Ar->Prop
 | []=>True
 |(t,d)::r=>(d=env.get t\/∃sz i len,env.get t=.osl k g sz i len/\d=.osl k' n sz i len)/\Oy k g k' n env r
theorem Oy.get {k g k' n:Nat}{env:Ar}:∀ {env':Ar},Oy k g k' n env env'->∀t,env'.get t=.any\/env'.get t=env.get t\/∃sz i len,env.get t=.osl k g sz i len/\env'.get t=.osl k' n sz i len
 | [],_,t=>.inl rfl
 |(t0,d)::r,h,t=>by
  simp only[Ar.get];cases hb:Nat.beq t0 t with
  |true=>
   obtain rfl:=B5 hb;rcases h.1 with h1|h1
   ·exact .inr (.inl h1)
   ·exact .inr (.inr h1)
  |false=>exact Oy.get h.2 t
section
variable {C:BC} {B F:Aa} {rd:Option Nat} {Q:Exit->Aa->St->Prop}
theorem zL {c:Code}{env:Ar}{k g k' T sz n:Nat}{es:List D}(env':Ar)(he:Oy k g k' n env env')(h:AC C B rd F c ⟨env',[⟨k',n,T,sz,es⟩],n+1⟩ Q):AC C B rd F c ⟨env,[⟨k,g,T,sz,es⟩],n⟩ Q:=by
 refine⟨λhB hd ρ a w hs=>?_⟩;obtain⟨ρ',hl,hk,hf⟩:∃ρ':Lk,(∀k1 g1 b,ρ k1 g1=some b->ρ' k1 g1=some b)/\ρ' k' n=ρ k g/\Iy ρ' (n+1):=by
  cases hb:ρ k g with
  |none=>exact⟨ρ,λ_ _ _ h=>h,hs.fresh _ _ (Af _),λk1 g1 h=>hs.fresh _ _ (Nat.le_of_succ_le h)⟩
  |some b=>exact⟨ρ.put k' n b,λk1 g1 b1 h1=>NR (hs.fresh _ _ (Af _)) h1,EN _ _ _ _,λk1 g1 h1=>by
    unfold Lk.put;split
    ·rename_i hh;omega
    ·exact hs.fresh _ _ (Nat.le_of_succ_le h1)⟩
 have hO:AN F.X ρ' [⟨k',n,T,sz,es⟩]=AN F.X ρ [⟨k,g,T,sz,es⟩]:=funext λb=>propext (by simp[AN,hk])
 have x:BW ρ (AN F.X ρ [⟨k,g,T,sz,es⟩]) w ρ' (AN F.X ρ' [⟨k',n,T,sz,es⟩]) w:=⟨Af _,hl,λb _ hb=>⟨by rw[hO];exact hb,rfl⟩,λ_ cs _ _ h=>⟨cs,_,h,rfl⟩⟩
 refine h.out hB hd ρ' a w ⟨⟨⟨λe he'=>?_,by simp,λe he' b hb=>?_⟩,hs.mem.os,hs.mem.tape,hs.mem.output,hs.mem.size,hs.mem.blk,hs.mem.xlt,hs.mem.g0,hs.mem.gn,hs.mem.gw,λk1 g1 b h1=>hl _ _ _ (hs.mem.lnk _ _ _ h1),hs.mem.shp⟩,hf,λe he'=>?_,λt=>?_,hs.nt,hs.dfr⟩
 ·simp only[BG,Db,or_false]at he'
  subst he';rcases hs.mem.hok.ent ⟨k,g,T,sz,es⟩ (by simp)with⟨h1,h2⟩|⟨b,cs,h1,h2,h3⟩
  ·exact .inl ⟨h1,by rw[show ρ' k' n=ρ k g from hk];exact h2⟩
  ·refine .inr ⟨b,cs,hk.trans h1,h2,?_⟩
   have h4:=h3.mono x;exact⟨h4.len,h4.siz,h4.one,h4.rep⟩
 ·simp only[BG,Db,or_false]at he'
  subst he';exact hs.mem.hok.own ⟨k,g,T,sz,es⟩ (by simp) b (hk.symm.trans hb)
 ·simp only[BG,Db,or_false]at he'
  subst he';exact HQ _
 ·have h0:=(hs.env t).mono x
  rcases he.get t with h1|h1|⟨sz',i,len,h1,h2⟩
  ·show AV _ _ _ (env'.get t) _
   rw[h1];exact .any _
  ·show AV _ _ _ (env'.get t) _
   rw[h1];exact h0
  ·show AV _ _ _ (env'.get t) _
   rw[h2];have h5:=hs.env t;change AV _ _ _ (env.get t) _ at h5;rw[h1]at h5;generalize a.tmps.getD t undef=v at*;cases h5 with
   |onil=>exact .onil _ _ _
   |osl hr hb hc hs' hm=>exact .osl (hk.trans hr) hb hc hs' hm
end
theorem yJ {b m y:Nat}(hl:(AY b).length=m+1)(hy:(AY b)[m]?=some y):∃f,f=1000000000/(y+1)/\0<f/\f<RB/\(AY (b*f)).length=m+1:=by
 have hy0:=P9 b hl hy;have hyl:y<RB:=Ee b y (Aw hy);have hf0:0<1000000000/(y+1):=Nat.div_pos (by unfold RB at hyl;omega) (by omega);have hf1:1000000000/(y+1)<RB:=H3 (by decide) (by omega);have hm:=Nat.div_mul_le_self 1000000000 (y+1);refine⟨_,rfl,hf0,hf1,?_⟩;generalize 1000000000/(y+1)=f at*;refine iY ?_ ?_
 ·exact BX (S5 hl) (Nat.le_mul_of_pos_right _ hf0)
 ·have h2:=Uw hl hy
  have h3:=GD ((Ee b).take m);rw[Bd,hl,FC (by omega)]at h3;rw[D6]at h2;have h4:b<RB^m*(y+1):=by rw[BN,EF];omega
  have h5:b*f<RB^m*(y+1)*f:=SU h4 hf0;have h6:RB^m*(y+1)*f=RB^m*(f*(y+1)):=by rw[Bz,BT (y+1)]
  have h7:RB^m*(f*(y+1))<=RB^m*RB:=Cb _ hm;rw[CN];omega
theorem jV {a b f:Nat}{U v:List Nat}{k lu lq:Nat}(hf:0<f)(hU:AO U=a*f)(hv:AO v=b*f)(wU:Rd U)(lU:U.length=lu){q:List Nat}(hq:q=List.replicate lq 0)(hk:lq<=k)
  (hab:a<RB^k*b):L3 (a*f) v U q lu lq k:=by
 subst hq;refine⟨lU,HT,wU,S6 _,?_,?_⟩
 ·rw[HS (by rw[HT];exact hk)]
  rw[show AO []=0 from rfl,Eb,Gz,BV,hU]
 ·rcases BH (AO (U.drop k)) (AO v)with h|h
  ·exact h
  ·exfalso
   have e0:AO U=AO (U.take k)+RB^(U.take k).length*AO (U.drop k):=by
    conv=>lhs;rw[<-E7 k U]
    rw[JH]
   have h3:a*f<RB^k*b*f:=SU hab hf;rw[Bz,<-hv]at h3;rcases BH U.length k with hl|hl
   ·rw[HS (by omega)]at h
    rw[show AO []=0 from rfl]at h;rw[Nat.le_zero.1 h,Eb]at h3;omega
   ·rw[Bd,FC hl]at e0
    have:=Cb (RB^k) h
    omega
theorem lJ {a b f:Nat}{v U q:List Nat}{lu lq:Nat}(hf:0<f)(I:L3 (a*f) v U q lu lq 0)(hv:AO v=b*f):AO q=a/b/\AO U=a%b*f:=by
 obtain⟨lU,lQ,wU,wq,val,less⟩:=I;simp only[MD,JD,FW]at val less;obtain⟨h1,h2⟩:=QS val less;rw[hv,Pi _ _ hf]at h1;rw[hv,Pj]at h2;exact⟨h1,h2⟩
theorem pt {P V q N Pn c z W:Nat}(hI:N+q*V=Pn+W*c)(hP:P=Pn+W*z)(hc:c<=z)(hup:P<(q+1)*V):P/V=q/\P%V=N+W*(z-c):=by
 have e:W*z=W*c+W*(z-c):=by rw[<-BN];congr 1;omega
 exact TT (N:=N+W*(z-c)) (by omega) hup
theorem pu {P V q N Pn N2 c c2 z W:Nat}(hI:N+q*V=Pn+W*c)(hP:P=Pn+W*z)(hz:z<c)(hN:N<W)(hdn:q*V<=P+V)(hN2:N2+W*c2=N+V)(hc2:c2<=1)(hN2l:N2<W)(hVW:V<W):
  0<q/\P/V=q-1/\P%V=N2/\(z:Int)-c+c2=0:=by
 obtain⟨e,rfl⟩:∃e,c=z+1+e:=⟨c-z-1,by omega⟩
 have h1:W*(z+1+e)=W*z+W+W*e:=by rw[BN,BN,EF]
 have he:e=0:=by
  rcases Do e with h|h
  ·exact h
  ·have:=Cb W h
   omega
 subst he;rw[Eb]at h1;obtain⟨a1,a2,a3⟩:=Xg (U:=P) (V:=V) (q:=q) (N:=N) (N3:=N2) (T:=W) (c:=c2) (by omega) hN hdn hN2 hc2 hN2l;refine⟨a1,a2,a3,?_⟩
 have:c2=1:=by
  rcases Do c2 with h|h
  ·exfalso
   subst h;rcases Do q with h0|h0
   ·subst h0;omega
   ·obtain⟨k,rfl⟩:∃k,q=k+1:=⟨q-1,by omega⟩
    rw[Bx,JD]at hI hdn;omega
  ·omega
 subst this;omega
def blk (A N:List Nat)(top:Int)(Z:List Nat):List D:=A.map Ab++(N.map Ab++(i64 top::Z.map Ab))
theorem Zs {A N Z:List Nat}{top:Int}{i z:Nat}(h:N[i]?=some z):(blk A N top Z)[A.length+i]?=some (Ab z):=by
 have hi:i<N.length:=(List.getElem?_eq_some_iff.1 h).1;unfold blk;rw[En (by rw[Ac];omega),Ac,Kx,Fj (by rw[Ac];exact hi)];exact Dv h
theorem Yn {A N Z:List Nat}{top:Int}{i d:Nat}(h:i<N.length):(blk A N top Z).set (A.length+i) (Ab d)=blk A (N.set i d) top Z:=by
 unfold blk;rw[Ph _ _ (by rw[Ac];omega),Ac,Kx,List.set_append_left _ _ (by rw[Ac];exact h),M1]
theorem Tu {A N Z:List Nat}{top:Int}{n:Nat}(h:N.length=n):(blk A N top Z)[A.length+n]?=some (i64 top):=by
 unfold blk;rw[En (by rw[Ac];omega),Ac,Kx,En (by rw[Ac];omega),Ac,h,Nat.sub_self];rfl
theorem Xp {A N Z:List Nat}{top t:Int}{n:Nat}(h:N.length=n):(blk A N top Z).set (A.length+n) (i64 t)=blk A N t Z:=by
 unfold blk;rw[Ph _ _ (by rw[Ac];omega),Ac,Kx,Ph _ _ (by rw[Ac];omega),Ac,h,Nat.sub_self];rfl
theorem Tt {A N Z:List Nat}{t:Nat}:blk A N (t:Int) Z=(A++((N++[t])++Z)).map Ab:=by
 unfold blk;simp[Cq]
theorem nK {t x c z:Nat}(ht:t<RB)(hx:x<RB)(hc:c<=RB)(hz:z<RB):∃p lo hi x' d c':Nat,IntKind.i64.wrap ((t:Int)*(x:Int))=(p:Int)/\IntKind.i64.wrap ((p:Int)+(c:Int))=(x':Int)/\((x':Int)).tmod 1000000000=(lo:Int) /\
  IntKind.i64.wrap (((x':Int)).tdiv 1000000000)=(hi:Int)/\IntKind.i64.wrap ((z:Int)-(lo:Int))=(z:Int)-lo/\d<RB/\c'<=RB/\d+t*x+c=z+RB*c' /\
  ((c'=hi/\(z:Int)-lo=d)\/(c'=hi+1/\(z:Int)-lo<0/\IntKind.i64.wrap ((z:Int)-lo+1000000000)=d/\IntKind.i64.wrap ((hi:Int)+1)=((hi+1:Nat):Int))):=by
 have h3:t*x<=999999999*999999999:=Ie (by unfold RB at ht;omega) (by unfold RB at hx;omega);have e:=Eo (t*x+c) 1000000000;have l:=B3 (t*x+c) (show 1000000000>0 by decide);have k0:IntKind.i64.wrap ((t:Int)*(x:Int))=((t*x:Nat):Int):=by rw[<-F6,wI (by omega) (by omega)]
 unfold RB at*;have k1:IntKind.i64.wrap (((t*x:Nat):Int)+(c:Int))=((t*x+c:Nat):Int):=by rw[wI (by omega) (by omega)];omega
 have k2:((t*x+c:Nat):Int).tmod 1000000000=(((t*x+c)%1000000000:Nat):Int):=Rw _ 1000000000;have k3:IntKind.i64.wrap (((t*x+c:Nat):Int).tdiv 1000000000)=(((t*x+c)/1000000000:Nat):Int):=PE _ 1000000000 (by omega);generalize t*x=p at*;generalize(p+c)%1000000000=lo at*;generalize(p+c)/1000000000=hi at*;rcases BH z lo with h|h
 ·exact⟨_,_,_,_,z+1000000000-lo,hi+1,k0,k1,k2,k3,wI (by omega) (by omega),by omega,by omega,by omega,.inr ⟨rfl,by omega,by rw[wI (by omega) (by omega)];omega,by rw[wI (by omega) (by omega)];omega⟩⟩
 ·exact⟨_,_,_,_,z-lo,hi,k0,k1,k2,k3,wI (by omega) (by omega),by omega,by omega,by omega,.inl ⟨rfl,by omega⟩⟩
theorem nA {z x c:Nat}(hz:z<RB)(hx:x<RB)(hc:c<=1):∃p s d c':Nat,IntKind.i64.wrap ((z:Int)+(x:Int))=(p:Int)/\IntKind.i64.wrap ((p:Int)+(c:Int))=(s:Int)/\((s:Int)).tmod 1000000000=(d:Int) /\
  IntKind.i64.wrap (((s:Int)).tdiv 1000000000)=(c':Int)/\d<RB/\c'<=1/\d=(z+x+c)%RB/\c'=(z+x+c)/RB:=by
 have e:=Eo (z+x+c) 1000000000;have l:=B3 (z+x+c) (show 1000000000>0 by decide);unfold RB at*;have k0:IntKind.i64.wrap ((z:Int)+(x:Int))=((z+x:Nat):Int):=by rw[wI (by omega) (by omega)];omega
 have k1:IntKind.i64.wrap (((z+x:Nat):Int)+(c:Int))=((z+x+c:Nat):Int):=by rw[wI (by omega) (by omega)];omega
 have k2:((z+x+c:Nat):Int).tmod 1000000000=(((z+x+c)%1000000000:Nat):Int):=Rw _ 1000000000;have k3:IntKind.i64.wrap (((z+x+c:Nat):Int).tdiv 1000000000)=(((z+x+c)/1000000000:Nat):Int):=PE _ 1000000000 (by omega);exact⟨_,_,_,_,k0,k1,k2,k3,l,by omega,rfl,rfl⟩
set_option maxHeartbeats 2000000
theorem oZ:rD 0=.sl false 1 []:=by unfold rD;rw[Gg];rfl
theorem T3 {H:Hp}{K g T:Nat}{l:List Nat}{N:Nat}(hl:l.length=N)(he:Hp.get H K=some ⟨K,g,T,1,l.map Ab⟩:=by exact rfl):Fz H [] (.osl K g 1 0 N) (.sl false 1 (l.map Ab)):=by
 subst hl;have key:∀(j:Nat) (d d':D),(l.map Ab)[0+j]?=some d->(l.map Ab)[j]?=some d'->d=d':=λj d d' h1 h2=>by
  rw[BV]at h1;rw[h1]at h2;exact F7 h2
 refine .osl (e:=⟨K,g,T,1,l.map Ab⟩) he rfl rfl rfl (by simp) (by simp) (λj d d' h1 h2=>by rw[key j d d' h1 h2]) λj d d' q c c' h1 h2 h3 h4=>?_
 rw[key j d d' h1 h2]at h3;rw[h3]at h4;cases h4;exact Fz.refl _
theorem lK (a b:Nat)(hab:a<b)(ha:(AY a).length<1000000)(hb:(AY b).length<1000000):AK C0 157 [rD a,rD b] (.tup [rD (a/b),rD (a%b)]):=by
 rw[HP hab,Di hab,oZ];refine Ak.walk w1 UX rfl λF=>?_
 have cc:=Ro a b (by omega) (by omega);have e1:=Yz hab;refine sR 0 ?_;refine AC.seq ?_;refine sR 100 ?_;refine cI cc ?_;rw[e1];refine AM ?_;refine sR 200 ?_;refine Ai ?_;exact⟨_,bw (.nil 1) (.refl _),YG (.sl λe he=>by cases he) (Oe _),rfl⟩
theorem nF (a b:Nat)(hab:b<=a)(ha:(AY a).length<1000000)(hb:(AY b).length=1)(hb0:b≠0):AK C0 157 [rD a,rD b] (.tup [rD (a/b),rD (a%b)]):=by
 have cc:=Ro a b (by omega) (by omega);have e1:=Qo hab;have hbl:b<RB:=by
  have:=Il b
  rw[hb,Nat.pow_one]at this;exact this
 have hlb:(AY b)[0]?=some b:=by rw[P4 hb0 hbl];rfl
 have hb':=Dv hlb;have cd:=WW a b (D4 hb0) hbl ha;have e3:(((((AY b).map Ab).length:Nat):Int)==1)=true:=by rw[Ac,hb];rfl
 have hml:a%b<RB:=F3 (B3 _ (D4 hb0)) hbl;have hv:AO [a%b]=a%b:=by simp[AO]
 refine Ak.walk w1 UX rfl λF=>?_
 generalize a/b=q at*;generalize a%b=r at*;unfold rD rL at cc cd⊢;change AC C0 F none F _ _ (Rl X1.tt _ (· = .tup [rD q,rD r]));generalize AY a=la at*;generalize AY b=lb at*;refine sR 0 ?_;refine AC.seq ?_;refine sR 100 ?_;refine cI cc ?_;rw[e1];refine AM ?_;refine An ?_;refine AC.seq ?_;refine sZ 300 ?_;refine AU e3 ?_;refine AM ?_;refine sZ 400 ?_;refine AE kN ?_;refine Bq kT hb' ?_;refine AE kN ?_;refine BE.same _ cd AI ?_;refine BP ?_;refine sR 500 ?_;have hrl:Rd [r]:=λa ha=>by
  simp only[BG,Db,or_false]at ha;subst ha;exact hml
 refine BE.pure [rL [r]] _ ⟨.nn true 1 _,trivial⟩ (Ln [r] hrl (by simp)) AI ?_;refine BP ?_;refine Ai ?_;exact AL (by rw[hv];rfl) AA.out
theorem xe {H:Hp}{d1 d2 d3 e1 e2 e3:D}(h1:DT H d1 e1)(h2:DT H d2 e2)(h3:DT H d3 e3):∀(i:Nat) (a b:D),[d1,d2,d3][i]?=some a->[e1,e2,e3][i]?=some b->DT H a b
 | 0,_,_,ha,hb=>by cases ha;cases hb;exact h1
 | 1,_,_,ha,hb=>by cases ha;cases hb;exact h2
 | 2,_,_,ha,hb=>by cases ha;cases hb;exact h3
 |_+3,_,_,ha,_=>by cases ha
theorem ip {P v:List Nat}(d:D)(h:Xm P v d):Jf d:=by
 obtain⟨q,rfl,_⟩:=h;exact Jf.prim _
theorem pv {v N Pn:List Nat}{t i c z x:Nat}(hz:N[i]?=some z)(hx:v[i]?=some x)(ht:t<RB)(hxl:x<RB)(hc:c<=RB)(hzl:z<RB)(hI:AO N+t*AO (v.take i)=AO Pn+RB^i*c):
  ∃(p x' lo hi d c':Nat) (e:Int),IntKind.i64.wrap ((t:Int)*(x:Int))=(p:Int)/\IntKind.i64.wrap ((p:Int)+(c:Int))=(x':Int)/\((x':Int)).tmod 1000000000=(lo:Int) /\
  IntKind.i64.wrap (((x':Int)).tdiv 1000000000)=(hi:Int)/\IntKind.i64.wrap ((z:Int)-(lo:Int))=e/\d<RB/\c'<=RB/\AO (N.set i d)+t*AO (v.take (i+1))=AO Pn+RB^(i+1)*c' /\
  ((decide (e<0)=false/\e=(d:Int)/\hi=c')\/(decide (e<0)=true/\IntKind.i64.wrap (e+1000000000)=(d:Int)/\IntKind.i64.wrap ((hi:Int)+1)=(c':Int))):=by
 obtain⟨p,lo,hi,x',d,c',k1,k2,k3,k4,k5,k6,k7,k8,k9⟩:=nK ht hxl hc hzl;have J:=gZ (b:=0) (c':=0) (lo:=t*x+c) (b':=c') (d:=d) (A:=N) (P:=Pn) (v:=v) (q:=t) hz hx hI rfl (by rw[<-k8];exact Ea d (t*x) c ▸ rfl);refine⟨p,x',lo,hi,d,c',_,k1,k2,k3,k4,k5,k6,k7,by rw[J,BV],?_⟩;rcases k9 with⟨h1,h2⟩|⟨h1,h2,h3,h4⟩
 ·exact .inl ⟨Ag (by rw[h2];exact Int.not_lt.2 (Int.natCast_nonneg d)),h2,h1.symm⟩
 ·exact .inr ⟨AX h2,h3,by rw[h1];exact h4⟩
theorem pd {v N Nb:List Nat}{i c z x:Nat}(hz:N[i]?=some z)(hx:v[i]?=some x)(hxl:x<RB)(hc:c<=1)(hzl:z<RB)(hI:AO N+RB^i*c=AO Nb+AO (v.take i)):
  ∃(p s d c':Nat),IntKind.i64.wrap ((z:Int)+(x:Int))=(p:Int)/\IntKind.i64.wrap ((p:Int)+(c:Int))=(s:Int)/\((s:Int)).tmod 1000000000=(d:Int) /\
  IntKind.i64.wrap (((s:Int)).tdiv 1000000000)=(c':Int)/\d<RB/\c'<=1/\AO (N.set i d)+RB^(i+1)*c'=AO Nb+AO (v.take (i+1)):=by
 obtain⟨p,s,d,c',k1,k2,k3,k4,k5,k6,rfl,rfl⟩:=nA hzl hxl hc;exact⟨p,s,_,_,k1,k2,k3,k4,k5,k6,gW hz hx hI⟩
theorem jU {U:List Nat}{k:Nat}(h:AO U<RB^k)(hk:k<=U.length):AO (U.take k)=AO U:=by
 have e:AO U=AO (U.take k)+RB^k*AO (U.drop k):=by
  conv=>lhs;rw[<-E7 k U]
  rw[JH,Bd,FC hk]
 rcases Do (AO (U.drop k))with h0|h0
 ·rw[h0,Eb,DW]at e;exact e.symm
 ·exfalso
  have:=Cb (RB^k) h0
  omega
theorem jT {P v:List Nat}{m p0 p1 p2 v2 v1:Nat}(S:KZ P v m p0 p1 p2 v2 v1):∃Pn,P=Pn++[p2]/\Pn.length=m+2/\Rd Pn/\AO P=AO Pn+RB^(m+2)*p2:=by
 have hl:=S.lP;have e:P=P.take (m+2)++[p2]:=by
  rw[<-FG S.h2,B8 (by omega)]
 have hn:(P.take (m+2)).length=m+2:=by rw[Bd];omega
 refine⟨P.take (m+2),e,hn,S.wP.take _,?_⟩
 conv=>lhs;rw[e]
 rw[G5 hn]
theorem bX {P N:List Nat}{m z V:Nat}(hl:N.length=m+2)(hN:Rd N)(hz:z<RB)(hv:AO N+RB^(m+2)*z=AO P%V):(N++[z]).length=m+3/\Rd (N++[z])/\AO (N++[z])=AO P%V:=by
 refine⟨by rw[Bc,hl];rfl,Rd.append hN λa ha=>?_,by rw[G5 hl,hv]⟩;simp only[BG,Db,or_false]at ha;subst ha;exact hz
set_option maxHeartbeats 4000000
theorem lL (a b m:Nat)(hab:b<=a)(ha:(AY a).length<1000000)(hb:(AY b).length=m+2):AK C0 157 [rD a,rD b] (.tup [rD (a/b),rD (a%b)]):=by
 have hlen:=Ik b a hab;have cc:=Ro a b (by omega) (by omega);have e1:=Qo hab;obtain⟨y,hy⟩:=CV (l:=AY b) (i:=m+1) (by omega);have yl:y<RB:=Ee b y (Aw hy);obtain⟨f,ef,f0,fl,hvl⟩:=yJ hb hy;have wf:IntKind.i64.wrap ((1000000000:Int).tdiv ((y+1:Nat):Int))=(f:Int):=by
  rw[ef];exact PE 1000000000 (y+1) (BX (Gx _ _) (by decide))
 have wy:IntKind.i64.wrap ((y:Int)+1)=((y+1:Nat):Int):=wI (by omega) (by unfold RB at yl;omega);have lf:AY f=[f]:=P4 (Nat.pos_iff_ne_zero.1 f0) fl;have cv:=VC b f (by omega) (by rw[lf];exact(by decide:1<1000000));have cu:=VC a f (by omega) (by rw[lf];exact(by decide:1<1000000));have hu1:=Su a f;have hu2:=Ik a (a*f) (Nat.le_mul_of_pos_right _ f0);rw[lf]at hu1;change _<=_+1 at hu1;obtain⟨v,hv⟩:∃v,v=AY (b*f):=⟨_,rfl⟩
 have wv:Rd v:=by rw[hv];exact Ee _
 have vv:AO v=b*f:=by rw[hv];exact D6 _
 rw[<-hv]at hvl;obtain⟨U0,hU0⟩:∃U0,U0=AY (a*f):=⟨_,rfl⟩
 have wU0:Rd U0:=by rw[hU0];exact Ee _
 have vU0:AO U0=a*f:=by rw[hU0];exact D6 _
 rw[<-hU0]at hu1 hu2;obtain⟨v1,h1⟩:=CV (l:=v) (i:=m+1) (by omega);obtain⟨v2,h2⟩:=CV (l:=v) (i:=m) (by omega);have v10:v1≠0:=P9 (b*f) (by rw[<-hv];exact hvl) (by rw[<-hv];exact h1);have b0:0<b:=by
  refine D4 λh=>?_
  subst h;rw[Gg]at hb;cases hb
 have vpos:0<AO v:=by rw[vv];exact HW b0 f0
 have hup:=Il a;have hbge:=S5 hb;unfold rD rL at cc cv cu;rw[lf,<-hv]at cv;rw[lf,<-hU0]at cu;refine Ak.walk w1 UX rfl λF=>?_
 change AC C0 F none F _ ⟨DN 0 [.sl false 1 ((AY a).map Ab),.sl false 1 ((AY b).map Ab)],[],0⟩ _;generalize AY a=la at*;generalize AY b=lb at*;obtain⟨lq,hlq⟩:∃lq,la.length=lq+(m+2):=⟨la.length-(m+2),by omega⟩
 have hy':=Dv hy;have e3:((((lb.map Ab).length:Nat):Int)==1)=false:=by rw[Ac,hb];exact Br.2 (by omega)
 have elb:(((lb.map Ab).length:Nat):Int)=((m+2:Nat):Int):=by rw[Ac,hb]
 have wlb0:IntKind.i64.wrap (((m+2:Nat):Int)-1)=((m+1:Nat):Int):=by rw[wI (by omega) (by omega)];omega
 have wlb:IntKind.i64.wrap ((((lb.map Ab).length:Nat):Int)-1)=((m+1:Nat):Int):=by rw[elb];exact wlb0
 have ea:(((la.map Ab).length:Nat):Int)=(la.length:Int):=by rw[Ac]
 have ev:(((v.map Ab).length:Nat):Int)=((m+2:Nat):Int):=by rw[Ac,hvl]
 have eu:(((U0.map Ab).length:Nat):Int)=(U0.length:Int):=by rw[Ac]
 have wa1:IntKind.i64.wrap ((la.length:Int)+1)=((la.length+1:Nat):Int):=wI (by omega) (by omega);have wq0:IntKind.i64.wrap (((la.length+1:Nat):Int)-((m+2:Nat):Int))=((lq+1:Nat):Int):=by rw[wI (by omega) (by omega)];omega
 have wq1:IntKind.i64.wrap (((lq+1:Nat):Int)-1)=((lq+1:Nat):Int)-1:=wI (by omega) (by omega);have wraw:IntKind.i64.wrap (IntKind.i64.wrap (((la.length+1:Nat):Int)-((m+2:Nat):Int))-1)=((lq+1:Nat):Int)-1:=by rw[wq0,wq1]
 have r3:List.replicate (lq+1) (ofV (.int .i64 0))=(List.replicate (lq+1) 0).map Ab:=by rw[Jo];rfl
 refine sR 0 ?_;refine AC.seq ?_;refine sR 100 ?_;refine cI cc ?_;rw[e1];refine AM ?_;refine An ?_;refine AC.seq ?_;refine sZ 300 ?_;refine AU e3 ?_;refine AM ?_;refine An ?_;refine sZ 600 ?_;refine AE (BY wlb elb wlb0 kN) ?_;refine Bq kT hy' ?_;refine AE (As wy wf kN) ?_;refine sR 700 ?_;refine BE.pure [rL lb,rL [f]] _ ⟨.refl _,.nn true 1 _,trivial⟩ cv AI ?_;refine BP ?_;refine sZ 800 ?_;refine AU ev ?_;clear cc e1 e3 elb wlb wlb0 hy' yl hy wy wf hb;refine C4 (α:=Nat×Nat) (λp=>⟨[(0,.sl false 1 (la.map Ab)),(8,.sl true 1 [Ab f]),(9,.sl false 1 (v.map Ab)),(10,i64 ((m+2:Nat):Int)),(11,.osl 904 p.1 1 0 U0.length)],[⟨904,p.1,3,1,U0.map Ab⟩],p.2⟩) (λ_=>True) ?_ ?_
 ·refine rI 900 ?_
  refine BE.pure [rL la,rL [f]] _ ⟨.refl _,.nn true 1 _,trivial⟩ cu AI ?_;refine BP ?_;exact⟨rfl,⟨_,_⟩,trivial,AJ⟩
 rintro⟨g,n2⟩ -;dsimp only;refine C4 (α:=Nat×Nat×List Nat×Nat) (λp=>⟨[(0,.sl false 1 (la.map Ab)),(8,.sl true 1 [Ab f]),(9,.sl false 1 (v.map Ab)),(10,i64 ((m+2:Nat):Int)),(11,.osl p.1 p.2.1 1 0 (la.length+1))],[⟨p.1,p.2.1,3,1,p.2.2.1.map Ab⟩],p.2.2.2⟩) (λp=>p.2.2.1.length=la.length+1/\Rd p.2.2.1/\AO p.2.2.1=a*f) ?_ ?_
 ·refine AC.block ?_
  rcases Nat.eq_or_lt_of_le hu1 with hl|hl
  ·have eN:decide (((la.length+1:Nat):Int)<((la.length+1:Nat):Int))=false:=Ag (by omega)
   rw[hl];refine GY (α:=Nat) (λn=>⟨[(0,.sl false 1 (la.map Ab)),(8,.sl true 1 [Ab f]),(9,.sl false 1 (v.map Ab)),(10,i64 ((m+2:Nat):Int)),(11,.osl 904 g 1 0 (la.length+1))],[⟨904,g,3,1,U0.map Ab⟩],n⟩) (λ_=>0) (λ_ F'=>F'=F) n2 rfl AJ ?_;rintro n3 F' rfl;refine AC.seq ?_;refine sZ 1000 ?_;refine AU (As ea wa1 eN) ?_;refine AM ?_;refine B9 ?_;exact⟨rfl,⟨904,g,U0,_⟩,⟨hl,wU0,vU0⟩,AJ⟩
  ·have hl2:U0.length=la.length:=by omega
   have eN:decide (((la.length+1:Nat):Int)<((la.length+1:Nat):Int))=false:=Ag (by omega);have eY:decide ((la.length:Int)<((la.length+1:Nat):Int))=true:=AX (by omega);have hap:List.take la.length (U0.map Ab)++[D.prim (Value.int IntKind.i64 0)]=(U0++[0]).map Ab:=by
    rw[B8 (by rw[Ac];omega),Cq];rfl
   rw[hl2];refine GY (α:=Bool×Nat×Nat) (λp=>match p with
    |(false,_,n)=>⟨[(0,.sl false 1 (la.map Ab)),(8,.sl true 1 [Ab f]),(9,.sl false 1 (v.map Ab)),(10,i64 ((m+2:Nat):Int)),(11,.osl 904 g 1 0 la.length)],[⟨904,g,3,1,U0.map Ab⟩],n⟩
    |(true,g1,n)=>⟨[(0,.sl false 1 (la.map Ab)),(8,.sl true 1 [Ab f]),(9,.sl false 1 (v.map Ab)),(10,i64 ((m+2:Nat):Int)),(11,.osl 1102 g1 1 0 (la.length+1))],[⟨1102,g1,3,1,(U0++[0]).map Ab⟩],n⟩) (λp=>cond p.1 0 1) (λ_ F'=>F'=F) (false,0,n2) rfl AJ ?_
   rintro⟨_|_,g1,n3⟩ F' rfl
   ·dsimp only
    refine AC.seq ?_;refine sZ 1000 ?_;refine AU (As ea wa1 eY) ?_;refine AM ?_;refine An ?_;refine AC.block ?_;refine rI 1100 ?_;refine⟨(true,n3+8,n3+10),rfl,(by decide:(0:Nat)<1),?_⟩;dsimp only;rw[hap];exact AJ
   ·dsimp only
    refine AC.seq ?_;refine sZ 1000 ?_;refine AU (As ea wa1 eN) ?_;refine AM ?_;refine B9 ?_;refine⟨rfl,⟨1102,g1,U0++[0],_⟩,⟨by rw[Bc,hl2];rfl,Rd.append wU0 λa ha=>?_,by rw[UI];exact vU0⟩,AJ⟩;simp only[BG,Db,or_false]at ha;subst ha;decide
 rintro⟨K,gK,U1,n3⟩ ⟨lU1,wU1,vU1⟩;dsimp only at lU1 wU1 vU1⊢;refine zL [(8,.sl true 1 [Ab f]),(9,.sl false 1 (v.map Ab)),(10,i64 ((m+2:Nat):Int)),(11,.osl 1102 n3 1 0 (la.length+1))] ⟨.inl rfl,.inl rfl,.inl rfl,.inr ⟨_,_,_,rfl,rfl⟩,trivial⟩ ?_;clear cu hU0 vU0 wU0 hu1 hu2 cv;refine C4 (α:=Nat×Nat) (λp=>⟨[(8,.sl true 1 [Ab f]),(9,.sl false 1 (v.map Ab)),(10,i64 ((m+2:Nat):Int)),(11,.osl 1102 n3 1 0 (la.length+1)),(12,.osl 1204 p.1 1 0 (lq+1))],[⟨1204,p.1,3,1,(List.replicate (lq+1) 0).map Ab⟩,⟨1102,n3,3,1,U1.map Ab⟩],p.2⟩) (λ_=>True) ?_ ?_
 ·refine Ao w1 1200 (by kernel_rfl) ?_
  refine AU (As wq0 kN r3) ?_;exact⟨trivial,⟨_,_⟩,trivial,by rw[<-r3];exact AJ⟩
 rintro⟨g,n2⟩ -;dsimp only;have I0:L3 (a*f) v U1 (List.replicate (lq+1) 0) (la.length+1) (lq+1) (lq+1):=by
  refine jV f0 vU1 vv wU1 lU1 rfl (Af _) ?_
  have:RB^(lq+1)*RB^(m+1)<=RB^(lq+1)*b:=Cb _ hbge
  rw[<-F5,show lq+1+(m+1)=la.length by omega]at this;omega
 clear hup hbge;refine AC.seq ?_;refine sZ 1300 ?_;refine AU wraw ?_;refine AC.block ?_;refine AC.loop (α:=Nat×List Nat×List Nat×Nat) (λp=>⟨[(8,.sl true 1 [Ab f]),(9,.sl false 1 (v.map Ab)),(10,i64 ((m+2:Nat):Int)),(11,.osl 1102 n3 1 0 (la.length+1)),(12,.osl 1204 g 1 0 (lq+1)),(13,i64 ((p.1:Int)-1))],[⟨1204,g,3,1,p.2.2.1.map Ab⟩,⟨1102,n3,3,1,p.2.1.map Ab⟩],p.2.2.2⟩) (λp=>p.1)
  (λp=>p.1<=lq+1/\L3 (a*f) v p.2.1 p.2.2.1 (la.length+1) (lq+1) p.1) (lq+1,U1,List.replicate (lq+1) 0,_) ⟨Af _,I0⟩ AJ ?_
 rintro⟨k,u,q,n4⟩ F ⟨hk,I⟩;dsimp only at hk I⊢;clear I0 wq0 wq1 wraw r3 ea eu wU1 vU1 lU1;refine AC.seq ?_;refine sR 1400 ?_;refine AM ?_
 (refine By (λh20=>?_) (λh20=>?_))<;>(try simp only[Bj,Bw]at h20)<;>(try simp only[h20])
 ·obtain⟨j,rfl⟩:∃j,k=j+1:=⟨k-1,by
   have:(k:Int)-1>=0:=by simpa using h20
   omega⟩
  have wj:((j+1:Nat):Int)-1=(j:Int):=by omega
  obtain⟨p0,p1,p2,SI,hz,hP⟩:=jS I hvl wv v1 v2 h2 h1 (D4 v10) (by omega);have lu:=I.lU;have cg:=om u v j m p0 p1 p2 v2 v1 SI (by omega) (by omega);rw[wj];refine An ?_;refine AC.seq ?_;refine AC.block ?_;refine sR 1600 ?_;refine BE.own _ (zg cg rfl (xe (DT.of (T3 lu)) (DT.of (.refl _)) (DT.of (.refl _))) AI ip) ?_;rintro d H' n5 ⟨⟨t,rfl,ht1,ht2,ht3⟩,rfl,rfl⟩;refine BP ?_;obtain⟨Pn,eP,lPn,wPn,vPn⟩:=jT SI;have hA:(u.take j).length=j:=by rw[Bd];omega
  have p2l:=SI.p2l;have hdl:AO ((u.drop j).take (m+3))/AO v<RB:=E8 SI.less;have hU:u.map Ab=blk (u.take j) Pn (p2:Int) (u.drop (j+(m+3))):=by rw[Tt,<-eP,<-fS]
  have J:=λP' h1 h2 h3=>jR (P':=P') I vpos (by omega) (by omega) hz hP h1 h2 h3 hdl
  obtain⟨zq,hzq⟩:=CV (l:=q) (i:=j) (by rw[I.lQ];omega);have hzq':=Dv hzq;have wi':IntKind.i64.wrap ((j:Int)-1)=(j:Int)-1:=wI (by omega) (by omega);have wjn:IntKind.i64.wrap ((j:Int)+((m+2:Nat):Int))=((j+(m+2):Nat):Int):=by rw[wI (by omega) (by omega)];omega
  have hVW:=GD wv;rw[show v.length=m+2 from hvl]at hVW;rw[hU];clear hU cg hP hz SI eP h20 wj I h1 h2 v10;generalize(u.drop j).take (m+3)=P at*;generalize u.take j=A at*;generalize u.drop (j+(m+3))=Z at*;refine sR 1700 ?_;refine AC.seq ?_;refine sR 1800 ?_;refine AC.block ?_;refine AC.loop (α:=Nat×Nat×List Nat×Nat) (λp=>⟨[(8,.sl true 1 [Ab f]),(9,.sl false 1 (v.map Ab)),(10,i64 ((m+2:Nat):Int)),(11,.osl 1102 n3 1 0 (la.length+1)),(12,.osl 1204 g 1 0 (lq+1)),(13,i64 (j:Int)),(14,Ab t),(15,Ab p.2.1),(16,i64 p.1)],[⟨1204,g,3,1,q.map Ab⟩,⟨1102,n3,3,1,blk A p.2.2.1 (p2:Int) Z⟩],p.2.2.2⟩) (λp=>m+2-p.1)
   (λp=>p.1<=m+2/\p.2.1<=RB/\p.2.2.1.length=m+2/\Rd p.2.2.1/\AO p.2.2.1+t*AO (v.take p.1)=AO Pn+RB^p.1*p.2.1) (0,0,Pn,_) ⟨BU _,BU _,lPn,wPn,by simp[AO]⟩ AJ ?_
  rintro⟨i,c,N,n6⟩ F ⟨hi,hc,hNl,hNw,hI⟩;dsimp only at hi hc hNl hNw hI⊢;refine AC.seq ?_;refine sR 1900 ?_;refine AM ?_
  (refine By (λhlt=>?_) (λhlt=>?_))<;>(try simp only[Bj,Bw]at hlt)<;>(try simp only[hlt])
  ·have hi2:i<m+2:=by
    have:=DE hlt
    omega
   obtain⟨x,hx⟩:=CV (l:=v) (i:=i) (by omega);have hx':=Dv hx;have hxl:x<RB:=wv x (Aw hx);obtain⟨z,hz⟩:=CV (l:=N) (i:=i) (by omega);have hzl:=hNw z (Aw hz);have hz':=Zs (A:=A) (Z:=Z) (top:=(p2:Int)) hz;rw[hA]at hz';obtain⟨p,x',lo,hi',d,c',e,k1,k2,k3,k4,k5,dl,cl,hI',hb⟩:=pv hz hx ht1 hxl hc hzl hI;have hset:(blk A N (p2:Int) Z).set (j+i) (Ab d)=blk A (N.set i d) (p2:Int) Z:=by
    have:=Yn (A:=A) (Z:=Z) (top:=(p2:Int)) (i:=i) (d:=d) (N:=N) (by omega)
    rwa [hA]at this
   have wij:IntKind.i64.wrap ((i:Int)+(j:Int))=((j+i:Nat):Int):=by rw[wI (by omega) (by omega)];omega
   have wi:IntKind.i64.wrap ((i:Int)+1)=((i+1:Nat):Int):=wI (by omega) (by omega);clear hI J hVW vPn ht2 ht3 hdl;refine An ?_;refine AC.seq ?_;refine AC.block ?_;refine sZ 2100 ?_;refine AE kN ?_;refine Bq kT hx' ?_;refine AE (As kN k1 k2) ?_;refine sZ 2200 ?_;refine AE (Dp wij kN BV hz' k3 k5) ?_;refine sZ 2300 ?_;refine AU k4 ?_;rcases hb with⟨b1,b2,b3⟩|⟨b1,b2,b3⟩
   ·refine AC.seq ?_
    refine sZ 2400 ?_;refine AU b1 ?_;refine AM ?_;refine An ?_;subst b2 b3;refine Ao w1 2700 (by kernel_rfl) ?_;refine AE (BY wij kN BV hz') ?_;rw[hset];refine Ao w1 2000 (by kernel_rfl) ?_;refine AU wi ?_;exact⟨(i+1,hi',N.set i d,_),⟨hi2,cl,by dsimp only;rw[DH];exact hNl,hNw.set dl,hI'⟩,by dsimp only;omega,AJ⟩
   ·refine AC.seq ?_
    refine sZ 2400 ?_;refine AU b1 ?_;refine AM ?_;refine sZ 2500 ?_;refine AU b2 ?_;refine Ao w1 2600 (by kernel_rfl) ?_;refine AU b3 ?_;refine Ao w1 2700 (by kernel_rfl) ?_;refine AE (BY wij kN BV hz') ?_;rw[hset];refine Ao w1 2000 (by kernel_rfl) ?_;refine AU wi ?_;exact⟨(i+1,c',N.set i d,_),⟨hi2,cl,by dsimp only;rw[DH];exact hNl,hNw.set dl,hI'⟩,by dsimp only;omega,AJ⟩
  ·have hi2:i=m+2:=by
    have:=DS hlt
    omega
   subst hi2;rw[B8 (by omega)]at hI;have hNlt:=GD hNw;rw[hNl]at hNlt;have htop:=Tu (A:=A) (Z:=Z) (top:=(p2:Int)) hNl;have hstop:=Xp (A:=A) (Z:=Z) (top:=(p2:Int)) (t:=(p2:Int)-(c:Int)) hNl;have htop2:=Tu (A:=A) (Z:=Z) (top:=(p2:Int)-(c:Int)) hNl;rw[hA]at htop hstop htop2;have p2l9:p2<1000000000:=p2l;have hc9:c<=1000000000:=hc;have wzc:IntKind.i64.wrap ((p2:Int)-(c:Int))=(p2:Int)-(c:Int):=wI (by omega) (by omega);refine B9 ?_;refine sZ 2800 ?_;refine AE (CH wjn kN BV htop wzc) ?_;rw[hstop];rcases BH p2 c with h|h
   ·have e29:decide ((p2:Int)-(c:Int)<0)=true:=AX (by omega)
    have ht9:t<1000000000:=ht1;have wt:IntKind.i64.wrap ((t:Int)-1)=(t:Int)-1:=wI (by omega) (by omega);refine AC.seq ?_;refine sZ 2900 ?_;refine AE (CH wjn kN BV htop2 e29) ?_;refine AM ?_;refine sZ 3000 ?_;refine AU wt ?_;refine sR 3100 ?_;refine AC.seq ?_;refine sR 3200 ?_;refine AC.block ?_;refine AC.loop (α:=Nat×Nat×List Nat×Nat) (λp=>⟨[(8,.sl true 1 [Ab f]),(9,.sl false 1 (v.map Ab)),(10,i64 ((m+2:Nat):Int)),(11,.osl 1102 n3 1 0 (la.length+1)),(12,.osl 1204 g 1 0 (lq+1)),(13,i64 (j:Int)),(14,i64 ((t:Int)-1)),(19,Ab p.2.1),(20,i64 p.1)],[⟨1204,g,3,1,q.map Ab⟩,⟨1102,n3,3,1,blk A p.2.2.1 ((p2:Int)-(c:Int)) Z⟩],p.2.2.2⟩) (λp=>m+2-p.1)
     (λp=>p.1<=m+2/\p.2.1<=1/\p.2.2.1.length=m+2/\Rd p.2.2.1/\AO p.2.2.1+RB^p.1*p.2.1=AO N+AO (v.take p.1)) (0,0,N,_) ⟨BU _,BU _,hNl,hNw,by simp[AO]⟩ AJ ?_
    rintro⟨i,c2,N2,n7⟩ F ⟨hi,hc2,hNl2,hNw2,hI2⟩;dsimp only at hi hc2 hNl2 hNw2 hI2⊢;clear htop hstop;refine AC.seq ?_;refine sR 3300 ?_;refine AM ?_
    (refine By (λhlt2=>?_) (λhlt2=>?_))<;>(try simp only[Bj,Bw]at hlt2)<;>(try simp only[hlt2])
    ·have hi2:i<m+2:=by
      have:=DE hlt2
      omega
     obtain⟨x,hx⟩:=CV (l:=v) (i:=i) (by omega);have hx':=Dv hx;have hxl:x<RB:=wv x (Aw hx);obtain⟨z,hz⟩:=CV (l:=N2) (i:=i) (by omega);have hzl:=hNw2 z (Aw hz);have hz':=Zs (A:=A) (Z:=Z) (top:=(p2:Int)-(c:Int)) hz;rw[hA]at hz';obtain⟨p,s,d,c',k1,k2,k3,k4,dl,cl,hI'⟩:=pd hz hx hxl hc2 hzl hI2;have hset:(blk A N2 ((p2:Int)-(c:Int)) Z).set (j+i) (Ab d)=blk A (N2.set i d) ((p2:Int)-(c:Int)) Z:=by
      have:=Yn (A:=A) (Z:=Z) (top:=(p2:Int)-(c:Int)) (i:=i) (d:=d) (N:=N2) (by omega)
      rwa [hA]at this
     have wij:IntKind.i64.wrap ((i:Int)+(j:Int))=((j+i:Nat):Int):=by rw[wI (by omega) (by omega)];omega
     have wi:IntKind.i64.wrap ((i:Int)+1)=((i+1:Nat):Int):=wI (by omega) (by omega);clear hI2 hI J hVW vPn ht2 ht3 hdl;refine An ?_;refine AC.seq ?_;refine AC.block ?_;refine AC.seq ?_;refine B7 w1 3500 [0,1,2,3,4,5,6,7,8,9,10,11] [12,13] (by kernel_rfl) ?_;refine AE (BY wij kN BV hz') ?_;refine Bq kT hx' ?_;refine AE (As kN k1 k2) ?_;refine sZ 3600 ?_;refine AE (CH wij kN BV hz' k3) ?_;rw[hset];refine Ao w1 3700 (by kernel_rfl) ?_;refine AU k4 ?_;refine Ao w1 3400 (by kernel_rfl) ?_;refine AU wi ?_;exact⟨(i+1,c',N2.set i d,_),⟨hi2,cl,by dsimp only;rw[DH];exact hNl2,hNw2.set dl,hI'⟩,by dsimp only;omega,AJ⟩
    ·have hi2:i=m+2:=by
      have:=DS hlt2
      omega
     subst hi2;rw[B8 (by omega)]at hI2;have hNlt2:=GD hNw2;rw[hNl2]at hNlt2;obtain⟨t0,g1,g2,g3⟩:=pu hI vPn h hNlt ht3 hI2 hc2 hNlt2 hVW;have htop3:=Tu (A:=A) (Z:=Z) (top:=(p2:Int)-(c:Int)) hNl2;have hstop3:=Xp (A:=A) (Z:=Z) (top:=(p2:Int)-(c:Int)) (t:=((0:Nat):Int)) hNl2;rw[hA]at htop3 hstop3;have wfin:IntKind.i64.wrap ((p2:Int)-(c:Int)+(c2:Int))=((0:Nat):Int):=by rw[g3];rfl
     have et:(t:Int)-1=((t-1:Nat):Int):=by omega
     obtain⟨f1,f2,f3⟩:=bX (P:=P) (V:=AO v) hNl2 hNw2 (z:=0) (by decide) (by rw[Eb,DW];exact g2.symm);have J1:=J _ f1 f2 f3;rw[g1]at J1;refine B9 ?_;refine Ao w1 3800 (by kernel_rfl) ?_;refine AE (CH wjn kN BV htop3 wfin) ?_;rw[hstop3,Tt,et];refine Ao w1 3900 (by kernel_rfl) ?_;refine AE (As kN BV hzq') ?_;rw[M1];refine Ao w1 1500 (by kernel_rfl) ?_;refine AU wi' ?_;exact⟨(j,A++((N2++[0])++Z),q.set j (t-1),_),⟨by dsimp only;omega,J1⟩,by dsimp only;omega,AJ⟩
   ·have e29:decide ((p2:Int)-(c:Int)<0)=false:=Ag (by omega)
    obtain⟨g1,g2⟩:=pt hI vPn h ht2;have ezc:(p2:Int)-(c:Int)=((p2-c:Nat):Int):=by omega
    obtain⟨f1,f2,f3⟩:=bX hNl hNw (z:=p2-c) (by omega) g2.symm;have J1:=J _ f1 f2 f3;rw[g1]at J1;refine AC.seq ?_;refine sZ 2900 ?_;refine AE (CH wjn kN BV htop2 e29) ?_;refine AM ?_;refine An ?_;rw[ezc,Tt];refine Ao w1 3900 (by kernel_rfl) ?_;refine AE (As kN BV hzq') ?_;rw[M1];refine Ao w1 1500 (by kernel_rfl) ?_;refine AU wi' ?_;exact⟨(j,A++((N++[p2-c])++Z),q.set j t,_),⟨by dsimp only;omega,J1⟩,by dsimp only;omega,AJ⟩
 ·have hk:k=0:=by
   have:¬((k:Int)-1>=0):=by simpa using h20
   omega
  subst hk;obtain⟨q1,q2⟩:=lJ f0 I vv;have wu:=I.wU;have wqq:=I.wq;have lu:=I.lU;have lqq:=I.lQ;have hlt:AO u<RB^(m+2):=by
   have:=I.less
   rw[FW]at this;have h:=GD wv;rw[show v.length=m+2 from hvl]at h;omega
  have hta:=jU hlt (by omega);have hll:=LB hlt;rw[q2]at hll hta;have ed:a%b*f/f=a%b:=Nat.mul_div_cancel _ f0;have cd:=WW (a%b*f) f f0 fl (by omega);rw[ed]at cd;clear I;refine B9 ?_;refine AC.weak ⟨[(8,.sl true 1 [Ab f]),(10,i64 ((m+2:Nat):Int)),(11,.sl false 1 (u.map Ab)),(12,.sl false 1 (q.map Ab))],[],_⟩ ⟨.drop (.drop .nil),⟨.refl _,.refl _,T3 lu,T3 lqq,trivial⟩,Af _⟩ ?_;have e5:List.take (m+2) (u.map Ab)=(u.take (m+2)).map Ab:=by
   rw[NY]
  have eu2:(u.map Ab).length=la.length+1:=by rw[Ac];omega
  have ct:=Ln (u.take (m+2)) (wu.take _) (by rw[Bd];omega);rw[hta]at ct;refine AC.seq ?_;refine B7 w1 4000 [0,1,2,3,4,5,6,7,8,9,10,11] [12] (by kernel_rfl) ?_;refine AE (BY kN Nat.sub_zero (@FW D) e5) ?_;refine BZ.same _ ct AI ?_;have hf0:([Ab f]:List D)[0]?=some (Ab f):=rfl;refine AE kN ?_;refine Bq kT hf0 ?_;refine AE kN ?_;refine BZ.same _ cd AI ?_;refine AE kN ?_;refine sR 4100 ?_;refine BE.same _ (Ln q wqq (by omega)) AI ?_;refine BP ?_;refine Ai ?_;exact AL (by rw[q1]) AA.out
theorem VZ (a b:Nat)(hb:b≠0)(ha:(AY a).length<1000000)(hbl:(AY b).length<1000000):AK C0 157 [rD a,rD b] (.tup [rD (a/b),rD (a%b)]):=by
 rcases BH a b with h|h
 ·exact lK a b h ha hbl
 ·rcases hl:(AY b).length with _|m
  ·have:=Il b
   rw[hl]at this;simp at this;exact Ad this hb
  ·rcases m with _|m
   ·exact nF a b h ha hl hb
   ·exact lL a b m h ha hl
abbrev rZ (z:Int):D:=.agg [Aq (decide (z<0)),rD z.natAbs]
def sg (neg:Bool)(n:Nat):Int:=if neg then -(n:Int)else n
theorem mG {n:Nat}:0<(AY n).length↔n≠0:=by
 constructor
 ·rintro h rfl
  rw[Gg]at h;cases h
 ·intro h
  rw[In h,Bo];exact Nat.succ_pos _
theorem XF (n:Nat):decide (((((AY n).map Ab).length:Nat):Int)>0)=decide (n≠0):=by
 have:=@mG n
 rw[Ac];exact C8.2 ⟨λh=>this.1 (by omega),λh=>by have:=this.2 h;omega⟩
theorem xn (neg:Bool)(n:Nat):rZ (sg neg n)=.agg [Aq (neg&&decide (n≠0)),rD n]:=by
 unfold rZ sg;cases neg
 ·simp only[E9,if_false,HV,ER]
  rw[Ag (by omega)]
 ·simp only[if_true,Gd,MC,ER]
  congr 3
  exact C8.2 (by omega)
theorem Rf (z:Int):sg (decide (z<0)) z.natAbs=z:=by
 unfold sg
 by_cases h:z<0
 ·rw[AX h,AG rfl];omega
 ·rw[Ag h,AF (by decide)];omega
theorem Uu (b:Bool)(n:Nat):B6 (.agg [Aq b,.sl false 1 ((AY n).map Ab)]):=.agg λd hd=>by
 simp only[BG,Db,or_false]at hd;rcases hd with rfl|rfl
 ·exact .prim _
 ·exact Oe _
def Gu (z:Int):Prop:=(AY z.natAbs).length<1000000
instance  (b:Bool)(n:Nat):AA (.agg [Aq b,rD n]):=⟨Uu b n⟩
theorem Xu (a b:Nat)(fa:(AY a).length<1000000)(fb:(AY b).length<1000000):AK C0 117 [rD a,rD b] (rD (Nat.gcd a b)):=by
 refine Ak.walk w1 rA rfl λF=>?_
 change AC C0 F none F _ ⟨DN 0 [.sl false 1 ((AY a).map Ab),.sl false 1 ((AY b).map Ab)],[],0⟩ _;refine sR 0 ?_;refine AC.seq ?_;refine AC.block ?_;refine AC.loop (α:=Nat×Nat×Nat) (λp=>⟨[(0,.sl false 1 ((AY p.1).map Ab)),(1,.sl false 1 ((AY p.2.1).map Ab))],[],p.2.2⟩) (λp=>p.2.1)
  (λp=>Nat.gcd p.1 p.2.1=Nat.gcd a b/\(AY p.1).length<1000000/\(AY p.2.1).length<1000000) (a,b,_) ⟨rfl,fa,fb⟩ AJ ?_
 rintro⟨x,y,n⟩ F ⟨h1,h2,h3⟩;dsimp only at h1 h2 h3⊢;have et:=XF y;refine AC.seq ?_;refine sZ 100 ?_;refine AU et ?_
 by_cases hy:y=0
 ·rw[Ag (by simpa using hy)]
  subst hy;refine AM ?_;refine B9 ?_;refine sR 400 ?_;refine Ai ?_;refine AL (d0:=rD x) ?_ AA.out;rw[<-h1,Nat.gcd_zero_right]
 ·rw[AX hy]
  have cd:=VZ x y hy h2 h3;refine AM ?_;refine An ?_;refine AC.block ?_;refine sR 200 ?_;refine cI cd ?_;refine rI 300 ?_;refine⟨(y,x%y,_),⟨?_,h3,?_⟩,B3 x (by omega),AJ⟩
  ·dsimp only
   rw[<-h1,Na x y,Nat.gcd_rec y x,Na]
  ·exact Dd (Ik _ _ (Nat.mod_le x y)) h2
theorem YY (neg:Bool)(l:List Nat)(h:Rd l)(hl:l.length<1000000000):AK C0 211 [Aq neg,rL l] (rZ (sg neg (AO l))):=by
 refine Ak.walk w1 aS rfl λF=>?_
 rw[xn];have ct:=Ln l h (by omega);generalize AO l=n at*;have et:=XF n;unfold rD at ct⊢;unfold rL at ct⊢;refine sR 0 ?_;refine sR 100 ?_;refine cI ct ?_;refine AC.seq ?_;cases neg
 ·refine Ao w1 200 (by kernel_rfl) ?_
  refine AE et ?_;refine Ai ?_;exact AL (by simp) (Uu _ n)
 ·refine Ao w1 200 (by kernel_rfl) ?_
  refine AE et ?_;refine Ai ?_;exact AL (by simp) (Uu _ n)
theorem LV (neg:Bool)(n:Nat)(h:(AY n).length<1000000000):AK C0 211 [Aq neg,rD n] (rZ (sg neg n)):=by
 have:=YY neg (AY n) (Ee n) h
 rwa [D6]at this
theorem Y9 (z:Int)(h:Gu z):AK C0 219 [rZ z] (rZ (-z)):=by
 have cs:=LV (!decide (z<0)) z.natAbs (F3 h (by decide));have e:rZ (sg (!decide (z<0)) z.natAbs)=rZ (-z):=by
  congr 1
  unfold sg
  by_cases hz:z<0
  ·rw[AX hz];simp;omega
  ·rw[Ag hz];simp;omega
 rw[e]at cs;refine Ak.walk w1 tN rfl λF=>?_
 refine sR 0 ?_;refine sR 100 ?_;refine cI cs ?_;refine Ai ?_;exact AL rfl AA.out
theorem UQ (x y:Int)(hx:Gu x)(hy:Gu y):AK C0 162 [rZ x,rZ y] (rZ (x*y)):=by
 have cm:=VC x.natAbs y.natAbs hx hy;have hl:(AY (x.natAbs*y.natAbs)).length<1000000000:=Dd (Su _ _) (by unfold Gu at hx hy;omega);have cs:=λb=>LV b (x.natAbs*y.natAbs) hl
 have e:sg (decide (x<0) != decide (y<0)) (x.natAbs*y.natAbs)=x*y:=by
  conv=>rhs;rw[<-Rf x,<-Rf y]
  generalize decide (x<0)=a;generalize decide (y<0)=b;unfold sg;cases a<;>cases b<;>simp[Int.neg_mul,Int.mul_neg]
 rw[<-e];refine Ak.walk w1 rX rfl λF=>?_
 refine sR 0 ?_;refine AC.seq ?_;refine B7 w1 100 [0,1,2,3,4,5,6,7,8,9] [10,11] (by kernel_rfl) ?_;refine AE kN ?_;refine BZ.same _ cm AI ?_;refine AE kN ?_;refine BE.same _ (cs _) AI ?_;refine BP ?_;refine Ai ?_;exact AL rfl AA.out
theorem l8 {a b:Nat}(h:b<=a):decide (Dz (a:Int) (b:Int)>=0)=true:=AX (by unfold Dz;split<;>(try split)<;>omega)
theorem l9 {a b:Nat}(h:a<b):decide (Dz (a:Int) (b:Int)>=0)=false:=Ag (by unfold Dz;split<;>(try split)<;>omega)
theorem vJ (x y:Int)(hx:Gu x)(hy:Gu y):AK C0 161 [rZ x,rZ y] (rZ (x+y)):=by
 refine Ak.walk w1 rW rfl λF=>?_
 unfold Gu at hx hy;cases hs:(decide (x<0)==decide (y<0))
 ·have hs':decide (x<0)≠decide (y<0):=by simpa using hs
  have hs2:(x<0/\¬y<0)\/(¬x<0/\y<0):=by
   by_cases h1:x<0<;>by_cases h2:y<0<;>simp_all
  have cc:=Ro x.natAbs y.natAbs (by omega) (by omega);refine sR 0 ?_;refine AC.seq ?_;refine sZ 100 ?_;refine AU hs ?_;refine AM ?_;refine An ?_;refine AC.seq ?_;refine sR 300 ?_;refine cI cc ?_;rcases BH x.natAbs y.natAbs with h|h
  ·have cb:=fE y.natAbs x.natAbs (Jt h) hy
   have cs:=LV (decide (y<0)) (y.natAbs-x.natAbs) (Dd (Wg _ _) (by omega));have e:sg (decide (y<0)) (y.natAbs-x.natAbs)=x+y:=by
    unfold sg
    by_cases hy0:y<0
    ·rw[AX hy0,AG rfl];omega
    ·rw[Ag hy0,AF (by decide)];omega
   rw[e]at cs;rw[l9 h];refine AM ?_;refine An ?_;refine AC.seq ?_;refine B7 w1 500 [0,1,2,3,4,5,6] [7,8] (by kernel_rfl) ?_;refine AE kN ?_;refine BZ.same _ cb AI ?_;refine AE kN ?_;refine BE.same _ cs AI ?_;refine BP ?_;refine Ai ?_;exact AL rfl AA.out
  ·have cb:=fE x.natAbs y.natAbs h hx
   have cs:=LV (decide (x<0)) (x.natAbs-y.natAbs) (Dd (Wg _ _) (by omega));have e:sg (decide (x<0)) (x.natAbs-y.natAbs)=x+y:=by
    unfold sg
    by_cases hx0:x<0
    ·rw[AX hx0,AG rfl];omega
    ·rw[Ag hx0,AF (by decide)];omega
   rw[e]at cs;rw[l8 h];refine AM ?_;refine AC.seq ?_;refine B7 w1 400 [0,1,2,3,4,5,6] [7,8] (by kernel_rfl) ?_;refine AE kN ?_;refine BZ.same _ cb AI ?_;refine AE kN ?_;refine BE.same _ cs AI ?_;refine BP ?_;refine Ai ?_;exact AL rfl AA.out
 ·have hs':decide (x<0)=decide (y<0):=by simpa using hs
  have ca:=vg x.natAbs y.natAbs hx hy;have cs:=LV (decide (x<0)) (x.natAbs+y.natAbs) (Dd (Wf _ _) (by omega));have e:sg (decide (x<0)) (x.natAbs+y.natAbs)=x+y:=by
   unfold sg
   by_cases hx0:x<0
   ·have hy0:y<0:=DE (hs'.symm.trans (AX hx0))
    rw[AX hx0,AG rfl];omega
   ·have hy0:¬y<0:=DS (hs'.symm.trans (Ag hx0))
    rw[Ag hx0,AF (by decide)];omega
  rw[e]at cs;refine sR 0 ?_;refine AC.seq ?_;refine sZ 100 ?_;refine AU hs ?_;refine AM ?_;refine AC.seq ?_;refine B7 w1 200 [0,1,2,3,4,5,6] [7,8] (by kernel_rfl) ?_;refine AE kN ?_;refine BZ.same _ ca AI ?_;refine AE kN ?_;refine BE.same _ cs AI ?_;refine BP ?_;refine Ai ?_;exact AL rfl AA.out
theorem iE (k m:Nat):Es (k+1) m []=Es k (m/10) []++[UInt8.ofNat (48+m%10)]:=by
 rw[<-WS (k+1) m [] (.inr (Nat.succ_pos k))];unfold Es L6
 by_cases h:m/10=0
 ·rw[AG h,AG h];simp
 ·rw[AF h,AF h]
  rw[C5,Bc,Ek,Nat.add_sub_add_right,De]
theorem Tv:∀(k hi d:Nat),hi≠0->d<10^k->Lib.decDigits (hi*10^k+d)=Lib.decDigits hi++Es k d []
 | 0,hi,d,_,hd=>by
  have h0:d=0:=by simpa using hd
  subst h0;rw[MD,EF,DW];simp[Es,L6]
 |k+1,hi,d,hh,hd=>by
  have e1:hi*10^(k+1)=10*(hi*10^k):=by rw[CN,<-Bz,BT]
  have h1:1<=10^k:=Nat.pow_pos (by decide);have h2:1<=hi*10^k:=HW (D4 hh) h1;have h3:¬hi*10^(k+1)+d<10:=by omega
  have h4:d/10<10^k:=by rw[CN]at hd;omega
  rw[iE,<-De,<-Tv k hi (d/10) hh h4];rw[Lib.decDigits,dif_neg h3,e1]
  congr 2
  ·omega
  ·congr 1;omega
theorem qg (hi d:Nat)(h:hi≠0)(hd:d<RB):Lib.decDigits (d+RB*hi)=Lib.decDigits hi++Es 9 d []:=by
 have:=Tv 9 hi d h (CX hd (by decide))
 rw[<-this]
 congr 1
 rw[BT,Kz]
theorem Oc {l:List Nat}(h:Rd l):(Lib.decDigits (AO l)).length<=9*l.length+1:=by
 have h1:=GD h;have e:RB^l.length=10^(9*l.length):=by rw[Nat.pow_mul]
 rw[e]at h1;refine MK _ _ (F3 h1 ?_);exact Nat.pow_lt_pow_right (by decide) (HQ _)
theorem ZN (neg:Bool)(n:Nat)(h:neg=true->n≠0):Lib.itoa (sg neg n)=if neg then 45::Lib.decDigits n else Lib.decDigits n:=by
 unfold Lib.itoa sg;cases neg
 ·simp only[E9,if_false]
  rw[AF (by omega)];rfl
 ·have:=h rfl
  simp only[if_true];rw[AG (by omega),MC];rfl
theorem uu (neg:Bool)(n:Nat)(h:neg=true->n≠0)(hl:(AY n).length<1000000):AK C0 220 [.agg [Aq neg,rD n]] (str (sb (Lib.itoa (sg neg n)))):=by
 refine Ak.walk w1 tO rfl λF=>?_
 rw[ZN neg n h];change AC C0 F none F _ ⟨DN 0 [.agg [Aq neg,.sl false 1 ((AY n).map Ab)]],[],0⟩ _;have vn:=D6 n;have wn:=Ee n;have tp:=λk a=>P9 n (k:=k) (a:=a)
 generalize AY n=l at*;subst vn;rcases hc:l.length with _|m
 ·have e0:l=[]:=FU hc
  subst e0;have hn:neg=false:=by cases neg;rfl;exact Ad rfl (h rfl)
  subst hn;have e1:Lib.decDigits (AO [])=[48]:=by unfold Lib.decDigits AO;rw[dif_pos (by decide)];rfl
  rw[AF (by decide),e1];refine sR 0 ?_;refine AC.seq ?_;refine sR 100 ?_;refine AM ?_;refine sR 200 ?_;refine Ai ?_;exact AL rfl AA.out
 ·obtain⟨y,hy⟩:=CV (l:=l) (i:=m) (by omega)
  have yl:=wn y (Aw hy);have y0:=tp m y hc hy;have hy':=Dv hy;have el:(((l.map Ab).length:Nat):Int)=((m+1:Nat):Int):=by rw[Ac,hc]
  have et:(((m+1:Nat):Int)==0)=false:=Br.2 (by omega);have w0:IntKind.i64.wrap (((m+1:Nat):Int)-1)=(m:Int):=by rw[wI (by omega) (by omega)];omega
  have w2:IntKind.i64.wrap (((m+1:Nat):Int)-2)=(m:Int)-1:=by rw[wI (by omega) (by omega)];omega
  have cd:=P8 y 1 (by unfold RB at yl;omega);rw[Y1]at cd;have wr0:IntKind.i64.wrap ((((l.map Ab).length:Nat):Int)-1)=(m:Int):=by rw[el,w0]
  have ed:l.drop m=[y]:=by
   rw[ET (by omega),HS (by omega)];rw[A9 (by omega)]at hy;rw[F7 hy]
  refine sR 0 ?_;refine AC.seq ?_;refine sZ 100 ?_;refine AU (Ah el et) ?_;refine AM ?_;refine An ?_;refine sZ 300 ?_;refine AE (BY el w0 wr0 kN) ?_;refine Bq kT hy' ?_;refine AE kN ?_;refine BE.same _ cd AI ?_;refine BP ?_;have ev:AO (l.drop m)=y:=by rw[ed];simp[AO]
  refine AC.seq ?_;refine sZ 400 ?_;refine AU (Ah el w2) ?_;refine AC.block ?_;refine AC.loop (α:=Nat×Nat) (λp=>⟨[(1,.optr 0 0 2 0 0),(3,str (sb (Lib.decDigits (AO (l.drop p.1))))),(4,i64 ((p.1:Int)-1))],[⟨0,0,160,2,[.agg [Aq neg,.sl false 1 (l.map Ab)]]⟩],p.2⟩) (λp=>p.1)
   (λp=>p.1<=m/\AO (l.drop p.1)≠0) (m,_) ⟨Af _,by dsimp only;rw[ev];exact y0⟩ (by dsimp only;rw[ev];exact AJ) ?_
  rintro⟨k,n1⟩ F ⟨h1,h2⟩;dsimp only at h1 h2⊢;clear cd;refine AC.seq ?_;refine sR 500 ?_;refine AM ?_
  (refine By (λh20=>?_) (λh20=>?_))<;>(try simp only[Bj,Bw]at h20)<;>(try simp only[h20])
  ·obtain⟨j,rfl⟩:∃j,k=j+1:=⟨k-1,by
    have:(k:Int)-1>=0:=by simpa using h20
    omega⟩
   have wj:((j+1:Nat):Int)-1=(j:Int):=by omega
   obtain⟨d,hd⟩:=CV (l:=l) (i:=j) (by omega);have hd':=Dv hd;have dl:=wn d (Aw hd);have c9:=P8 d 9 (by unfold RB at dl;omega);have eD:Lib.decDigits (AO (l.drop (j+1)))++Es 9 d []=Lib.decDigits (AO (l.drop j)):=by rw[QE hd,qg _ _ h2 dl]
   have hlen:=Oc (l:=l.drop j) λa ha=>wn a (Jn ha)
   rw[<-eD,Bc,Dh]at hlen;have h3:AO (l.drop j)≠0:=by
    rw[QE hd]
    have:0<RB*AO (l.drop (j+1)):=HW (by decide) (D4 h2)
    omega
   have z1:=Cg (Lib.decDigits (AO (l.drop (j+1))));have z2:=Oa (Es 9 d []);have wi:IntKind.i64.wrap ((j:Int)-1)=(j:Int)-1:=wI (by omega) (by omega);rw[wj];refine An ?_;refine AC.seq ?_;refine AC.block ?_;refine Ao w1 700 (by kernel_rfl) ?_;refine AE kN ?_;refine Bq kT hd' ?_;refine AE kN ?_;refine BE.same _ c9 AI ?_;refine BP ?_;rw[Ix,eD];refine Ao w1 600 (by kernel_rfl) ?_;refine AU wi ?_;exact⟨(j,_),⟨by dsimp only;omega,h3⟩,by dsimp only;omega,AJ⟩
  ·have hk:k=0:=by
    have:¬((k:Int)-1>=0):=by simpa using h20
    omega
   subst hk;rw[FW]at h2⊢;have hlen:=Oc wn;have z1:=Cg (Lib.decDigits (AO l));have z2:(⟨#[45]⟩:ByteArray).size=1:=rfl;refine B9 ?_;refine AC.seq ?_;refine AC.seq ?_;cases neg
   ·refine rI 800 ?_
    refine AM ?_;refine An ?_;rw[AF (by decide)];refine sR 1000 ?_;refine Ai ?_;exact AL rfl AA.out
   ·refine rI 800 ?_
    refine AM ?_;rw[AG rfl];refine sR 900 ?_;refine Ai ?_;refine AL ?_ AA.out;show str ((⟨([45]:List UInt8).toArray⟩:ByteArray)++⟨(Lib.decDigits (AO l)).toArray⟩)=_;rw[Ix];rfl
theorem cj (z:Int)(h:Gu z):AK C0 220 [rZ z] (str (sb (Lib.itoa z))):=by
 have:=uu (decide (z<0)) z.natAbs (λh=>by have:=DE h;omega) h
 rwa [Rf]at this
theorem NS {C:BC}{f:Nat}{ds ds':List D}{Φ:D->Prop}{H:Hp}{n:Nat}(Hf:Hp)(hc:Ak C f ds' Φ)(hH:Cm H Hf H Hf)(hv:Ed H Hf ds ds')
  (hp:Aj ds'):Cd C f ds H n (λd' H' n'=>Φ d'/\H'=Hf/\n'=n+1):=by
 refine⟨hc.1,λF ρ w vs m hfr hg hvs hr=>?_⟩;obtain⟨m',hO,hN⟩:=hH.mem m;obtain⟨l1,l2⟩:=hv.spec;refine(hc.2 (AN F.X ρ Hf) w vs m.g (BX m.gn m.size) (λb hb=>m'.own_lt hb) (by omega) λi x hx=>?_).mono ?_
 ·have hi:i<ds'.length:=(List.getElem?_eq_some_iff.1 hx).1
  have hd0:ds[i]?=some ds[i]:=A9 (by omega);exact hp.out x (Aw hx) _ _ _ _ _ ((l2 i _ x hd0 hx).rep m hO hN (hr i _ hd0))
 ·rintro e w' ⟨v,d',rfl,hb,hd',rep⟩
  have hb2:∀(b:Nat) (cs:Array Value) (T:Nat) (fz:Nat×Nat),w.heap[b]?=some (.cells cs T fz)->∃(cs':Array Value) (fz':Nat×Nat),w'.heap[b]?=some (.cells cs' T fz')/\cs'.size=cs.size:=λb cs T fz hh=>⟨cs,_,by
   rw[hb.block b (Array.getElem?_eq_some_iff.1 hh).1];exact hh,rfl⟩
  have x:BW ρ (AN F.X ρ H) w ρ (AN F.X ρ Hf) w':=⟨hb.size,λ_ _ _ h=>h,λb hb' hO2=>⟨λh=>hO2 (hO b h),hb.block b hb'⟩,hb2⟩
  have x':BW ρ (AN F.X ρ Hf) w ρ (AN F.X ρ Hf) w':=⟨hb.size,λ_ _ _ h=>h,λb hb' hO2=>⟨hO2,hb.block b hb'⟩,hb2⟩
  refine⟨v,_,Hf,n+1,ρ,rfl,⟨hd',rfl,rfl⟩,m'.same x' hb.os hb.tape hb.output hb.block,x,λk g hg'=>hfr k g (by omega),λe he=>?_,rep.mono ⟨Af _,λ_ _ _ h=>(by cases h),λb _ hO2=>⟨hO2,rfl⟩,λb cs T fz h=>⟨cs,_,h,rfl⟩⟩⟩;obtain⟨e',h1,h2,h3,_⟩:=hH.names e he
  have:=hg e' h1
  omega
theorem jY {l:List UInt8}{i:Nat}{c:UInt8}(hc:l[i]?=some c)(hi:i<=BL l):(((c.toNat:Nat):Int)==47)=decide (i=BL l):=by
 have e1:(((c.toNat:Nat):Int)==47)=(c==47):=by
  rw[Fk,EE,EE,<-UInt8.toNat_inj];exact⟨λh=>(show c.toNat=47 by omega),λh=>by rw[h];rfl⟩
 rw[e1];unfold BL at hi⊢;clear e1
 induction l generalizing i with
 |nil=>cases hc
 |cons a l ih=>
  rw[PZ]at hi⊢;cases i with
  |zero=>
   cases hc
   by_cases h:c=47
   ·subst h;rfl
   ·have h1:(c != 47)=true:=by simpa using h
    have h2:(c==47)=false:=by simpa using h
    rw[AG h1,h2,Bo,Ag (by omega)]
  |succ i=>
   by_cases h:a=47
   ·subst h
    exact Ad hi (by simp)
   ·have h1:(a != 47)=true:=by simpa using h
    rw[AG h1,Bo]at hi⊢;rw[ih hc (by omega)];exact C8.2 (by omega)
theorem Qz (l:List UInt8)(h:l.all Bg=true)(hl:l.length<=18):AK C0 210 [str (sb l)] (i64 (dv l:Int)):=by
 refine Ak.walk w1 tG rfl λF=>?_
 have hsz:=Cg l;refine sR 0 ?_;refine sR 100 ?_;refine AC.seq ?_;refine sR 200 ?_;refine AC.block ?_;refine AC.loop (α:=Nat×Nat) (λp=>⟨[(0,str (sb l)),(3,i64 (dv (l.take p.1):Int)),(4,i64 (p.1:Int))],[],p.2⟩) (λp=>l.length-p.1) (λp=>p.1<=l.length) (0,_) (BU _) AJ ?_;rintro⟨i,n⟩ F hi;dsimp only at hi⊢;refine AC.seq ?_;refine sZ 300 ?_;refine AU hsz ?_;refine AM ?_
 (refine By (λhlt=>?_) (λhlt=>?_))<;>(try simp only[Bj,Bw]at hlt)<;>(try simp only[hlt])
 ·have hi2:i<l.length:=by
   have:=DE hlt
   omega
  obtain⟨c,hc⟩:∃c,l[i]?=some c:=⟨l[i],A9 hi2⟩
  have hcd:Bg c=true:=CQ.1 h c (Aw hc);obtain⟨c1,c2⟩:=LH hcd;have hg:(sb l).data.toList.getD i 0=c:=by
   show(l.toArray.toList).getD i 0=c;simp[hc]
  have hdl:dv (l.take i)<10^17:=by
   have:=GK (l.take i) (CQ.2 λa ha=>CQ.1 h a (Fy ha))
   rw[Bd,FC hi]at this;exact CX this (FT (by decide) (by omega))
  have hnx:dv (l.take (i+1))=dv (l.take i)*10+(c.toNat-48):=by
   rw[Da,hc];show dv (l.take i++[c])=_;rw[N0];simp[dv,Gw]
  have k1:IntKind.i64.wrap (10*(dv (l.take i):Int))=((10*dv (l.take i):Nat):Int):=by rw[wI (by omega) (by omega)];omega
  have k2:IntKind.i64.wrap ((c.toNat:Nat):Int)=((c.toNat:Nat):Int):=wI (by omega) (by omega);have k3:IntKind.i64.wrap (((10*dv (l.take i):Nat):Int)+((c.toNat:Nat):Int))=((10*dv (l.take i)+c.toNat:Nat):Int):=by rw[wI (by omega) (by omega)];omega
  have k4:IntKind.i64.wrap (((10*dv (l.take i)+c.toNat:Nat):Int)-48)=((dv (l.take (i+1)):Nat):Int):=by rw[hnx,wI (by omega) (by omega)];omega
  have wi:IntKind.i64.wrap ((i:Int)+1)=((i+1:Nat):Int):=wI (by omega) (by omega);refine An ?_;refine AC.seq ?_;refine AC.block ?_;refine Ao w1 500 (by kernel_rfl) ?_;refine AU (Dp kN hg k1 k2 k3 k4) ?_;refine Ao w1 400 (by kernel_rfl) ?_;refine AU wi ?_;exact⟨(i+1,_),hi2,by dsimp only;omega,AJ⟩
 ·have hi2:i=l.length:=by
   have:=DS hlt
   omega
  subst hi2;rw[B8 (Af _)];refine B9 ?_;refine sR 600 ?_;refine Ai ?_;exact AL rfl AA.out
theorem UL (l:List UInt8)(hl:l.length<=1000000000):AK C0 114 [str (sb l)] (i64 (BL l:Int)):=by
 refine Ak.walk w1 sC rfl λF=>?_
 have hsz:=Cg l;refine sR 0 ?_;refine AC.seq ?_;refine sR 100 ?_;refine AC.block ?_;refine AC.loop (α:=Nat×Nat) (λp=>⟨[(0,str (sb l)),(3,i64 (p.1:Int))],[],p.2⟩) (λp=>l.length-p.1) (λp=>p.1<=BL l) (0,_) (BU _) AJ ?_;rintro⟨i,n⟩ F hi;dsimp only at hi⊢;have hsl:=LK l;refine AC.seq ?_;refine sZ 200 ?_;refine AU hsz ?_;refine AM ?_
 (refine By (λhlt=>?_) (λhlt=>?_))<;>(try simp only[Bj,Bw]at hlt)<;>(try simp only[hlt])
 ·have hi2:i<l.length:=by
   have:=DE hlt
   omega
  obtain⟨c,hc⟩:∃c,l[i]?=some c:=⟨l[i],A9 hi2⟩
  have hg:(sb l).data.toList.getD i 0=c:=by
   show(l.toArray.toList).getD i 0=c;simp[hc]
  have wi:IntKind.i64.wrap ((i:Int)+1)=((i+1:Nat):Int):=wI (by omega) (by omega);have ht:(((c.toNat:Nat):Int)==47)=decide (i=BL l):=jY hc hi;refine An ?_;refine AC.seq ?_;refine AC.block ?_;refine sZ 400 ?_;refine AU (As kN hg ht) ?_
  by_cases he:i=BL l
  ·rw[AX he]
   refine AM ?_;refine sR 500 ?_;refine Ai ?_;exact AL (by rw[he]) AA.out
  ·rw[Ag he]
   refine AM ?_;refine An ?_;refine Ao w1 300 (by kernel_rfl) ?_;refine AU wi ?_;exact⟨(i+1,_),by dsimp only;omega,by dsimp only;omega,AJ⟩
 ·have hi2:i=l.length:=by
   have:=DS hlt
   omega
  refine B9 ?_;refine sZ 600 ?_;refine AU hsz ?_;refine Ai ?_;exact AL (by congr 3;omega) AA.out
theorem YT {H Hf:Hp}{K g T:Nat}{l:List Nat}{N:Nat}(hl:l.length=N)(he:Hp.get H K=some ⟨K,g,T,1,l.map Ab⟩:=by exact rfl)(hn:Hp.get Hf K=none:=by exact rfl):Fz H Hf (.osl K g 1 0 N) (.sl false 1 (l.map Ab)):=by
 subst hl;have key:∀(j:Nat) (d d':D),(l.map Ab)[0+j]?=some d->(l.map Ab)[j]?=some d'->d=d':=λj d d' h1 h2=>by
  rw[BV]at h1;rw[h1]at h2;exact F7 h2
 refine .osl (e:=⟨K,g,T,1,l.map Ab⟩) he hn rfl rfl (by simp) (by simp) (λj d d' h1 h2=>by rw[key j d d' h1 h2]) λj d d' q c c' h1 h2 h3 h4=>?_
 rw[key j d d' h1 h2]at h3;rw[h3]at h4;cases h4;exact Fz.refl _
theorem Qg (c:UInt8)(l:List UInt8):(((c.toNat:Nat):Int)==45)=DO (c::l):=by
 show _=(c==45);rw[Fk,EE,EE,<-UInt8.toNat_inj];exact⟨λh=>(show c.toNat=45 by omega),λh=>by rw[h];rfl⟩
abbrev M4:Ay:=⟨0,0,160,2,[.agg [Aq false,CT]]⟩
theorem rh {x:List UInt8}(h:9<x.length):dv x=dv (x.take (x.length-9))*RB+dv (x.drop (x.length-9)):=by
 conv=>lhs;rw[<-E7 (x.length-9) x,N0,Dh,show x.length-(x.length-9)=9 by omega]
theorem vL (A B t n v:Nat):(A*B+t)*B^n+v=A*B^(n+1)+(v+B^n*t):=by
 rw[Bx,Bz,CN,BT B,BT t];omega
theorem W3 {x x0:List UInt8}{w:List Nat}(h9:9<x.length)(g1:x.all Bg=true)(g2:x.length+w.length*9=x0.length)(g3:Rd w)(g4:dv x0=dv x*RB^w.length+AO w):
  (x.take (x.length-9)).all Bg=true/\(x.take (x.length-9)).length+(w++[dv (x.drop (x.length-9))]).length*9=x0.length/\Rd (w++[dv (x.drop (x.length-9))]) /\
  dv x0=dv (x.take (x.length-9))*RB^(w++[dv (x.drop (x.length-9))]).length+AO (w++[dv (x.drop (x.length-9))]):=by
 refine⟨CQ.2 λa ha=>CQ.1 g1 a (Fy ha),?_,Rd.append g3 λa ha=>?_,?_⟩
 ·rw[Bd,Bc,Ek];omega
 ·simp only[BG,Db,or_false]at ha
  subst ha
  have:=GK (x.drop (x.length-9)) (CQ.2 λa ha=>CQ.1 g1 a (Jn ha))
  rwa [Dh,show x.length-(x.length-9)=9 by omega]at this
 ·rw[g4,rh h9,G5 rfl,Bc,Ek]
  exact vL _ _ _ _ _
theorem kz {x x0:List UInt8}{w:List Nat}(h9:x.length<=9)(g1:x.all Bg=true)(g3:Rd w)(g4:dv x0=dv x*RB^w.length+AO w):Rd (w++[dv x])/\AO (w++[dv x])=dv x0:=by
 refine⟨Rd.append g3 λa ha=>?_,?_⟩
 ·simp only[BG,Db,or_false]at ha
  subst ha;exact CX (GK x g1) (FT (by decide) h9)
 ·rw[g4,G5 rfl,BT,Kz]
theorem Yj {w:List Nat}{a:Nat}:List.take w.length (w.map Ab)++[i64 (a:Int)]=(w++[a]).map Ab:=by
 rw[B8 (by rw[Ac];exact Af _),Cq];rfl
theorem ZY (l:List UInt8)(hd:(Bp l).all Bg=true)(hl:l.length<=1000000):AK C0 155 [str (sb l)] (rZ (rv l)):=by
 have er:rv l=sg (DO l) (dv (Bp l)):=rfl;rw[er];refine Ak.walk w1 rQ rfl λF=>?_
 have hsz:=Cg l;have hdl:(Bp l).length<=l.length:=by
  unfold Bp;split
  ·rw[Dh];omega
  ·exact Af _
 refine sR 0 ?_;refine C4 (α:=Nat) (λn=>⟨[(0,str (sb l)),(2,.optr 0 0 2 0 0),(3,Aq (DO l))],[M4],n⟩) (λ_=>True) ?_ ?_
 ·cases l with
  |nil=>
   have e0:(sb []).size=0:=rfl;have e1:decide (((0:Nat):Int)>0)=false:=rfl;refine Ao w1 100 (by kernel_rfl) ?_;refine AE (Ah e0 e1) ?_;refine AE (Ah kF e1) ?_;exact⟨trivial,_,trivial,AJ⟩
  |cons c l=>
   have hpos:(sb (c::l)).size=l.length+1:=hsz;have e0:decide (((sb (c::l)).size:Int)>0)=true:=AX (by omega);have e1:((((c::l).getD (Int.toNat 0) 0).toNat:Int)==45)=DO (c::l):=Qg c l;refine Ao w1 100 (by kernel_rfl) ?_;refine AE e0 ?_;refine AE (As kT e0 e1) ?_;exact⟨trivial,_,trivial,AJ⟩
 rintro n0 -;refine C4 (α:=Nat) (λn=>⟨[(0,str (sb (Bp l))),(2,.optr 0 0 2 0 0),(3,Aq (DO l))],[M4],n⟩) (λ_=>True) ?_ ?_
 ·refine sR 200 ?_
  cases hb:DO l
  ·have ed:Bp l=l:=by unfold Bp;rw[hb];rfl
   rw[ed];refine AM ?_;refine An ?_;exact⟨rfl,_,trivial,AJ⟩
  ·have ed:Bp l=l.drop 1:=by unfold Bp;rw[hb];rfl
   have hl0:1<=l.length:=by
    cases l with
    |nil=>cases hb
    |cons c l=>rw[Bo];omega
   have ee:(sb l).extract (Int.toNat 1) l.length=sb (Bp l):=by
    rw[Eu,B8 (Af _),ed];rfl
   refine AM ?_;refine Ao w1 300 (by kernel_rfl) ?_;refine AE (Ah hsz kN) ?_;rw[ee];exact⟨trivial,_,trivial,AJ⟩
 rintro n1 -;generalize DO l=neg at*;generalize Bp l=x0 at*;clear er hsz;have hx0:x0.length<=1000000:=BX hdl hl;clear hdl hl l;refine sR 400 ?_;refine AC.seq ?_;refine AC.block ?_;refine AC.loop (α:=Bool×List UInt8×List Nat×Nat×Nat) (λp=>match p with
  |(false,x,_,_,n)=>⟨[(0,str (sb x)),(2,.optr 0 0 2 0 0),(3,Aq neg),(4,CT)],[M4],n⟩
  |(true,x,w,g,n)=>⟨[(0,str (sb x)),(2,.optr 0 0 2 0 0),(3,Aq neg),(4,.osl 608 g 1 0 w.length)],[⟨608,g,3,1,w.map Ab⟩,M4],n⟩) (λp=>p.2.1.length)
  (λp=>p.2.1.all Bg=true/\p.2.1.length+p.2.2.1.length*9=x0.length/\Rd p.2.2.1/\dv x0=dv p.2.1*RB^p.2.2.1.length+AO p.2.2.1/\(p.1=false->p.2.2.1=[]))
  (false,x0,[],0,_) ⟨hd,rfl,(λa ha=>by cases ha),by simp[AO],λ_=>rfl⟩ AJ ?_
 rintro⟨t,x,w,g,n2⟩ F ⟨g1,g2,g3,g4,g5⟩;dsimp only at g1 g2 g3 g4 g5;have hsz:=Cg x
 by_cases h9:9<x.length
 ·have ht:decide ((x.length:Int)>9)=true:=AX (by omega)
  have cv:=Qz (x.drop (x.length-9)) (CQ.2 λa ha=>CQ.1 g1 a (Jn ha)) (by rw[Dh];omega);have wk:IntKind.i64.wrap ((x.length:Int)-9)=((x.length-9:Nat):Int):=by rw[wI (by omega) (by omega)];omega
  have wr:IntKind.i64.wrap (((sb x).size:Int)-9)=((x.length-9:Nat):Int):=by rw[hsz,wk]
  have e1:(sb x).extract (x.length-9) x.length=sb (x.drop (x.length-9)):=by rw[Eu,B8 (Af _)]
  have e2:(sb x).extract 0 (x.length-9)=sb (x.take (x.length-9)):=by rw[Eu,FW]
  cases t
  ·dsimp only
   obtain rfl:=g5 rfl;refine AC.seq ?_;refine sZ 500 ?_;refine AU (Ah hsz ht) ?_;refine AM ?_;refine An ?_;refine AC.block ?_;refine sZ 600 ?_;refine AE (CH hsz wk wr kN e1) ?_;refine BE.same _ cv AI ?_;refine BP ?_;have J:=W3 h9 g1 g2 g3 g4;rw[EZ]at J;refine Ao w1 700 (by kernel_rfl) ?_;refine AE (BY hsz wk wr kN) ?_;refine AE e2 ?_;exact⟨(true,x.take (x.length-9),[dv (x.drop (x.length-9))],n2+11,_),⟨J.1,J.2.1,J.2.2.1,J.2.2.2,λh=>by cases h⟩,by dsimp only;rw[Bd];omega,AJ⟩
  ·dsimp only
   clear g5;have J:=W3 h9 g1 g2 g3 g4;have ew:(w.map Ab).length=w.length:=Ac _;have el:w.length+1=(w++[dv (x.drop (x.length-9))]).length:=by rw[Bc];rfl
   refine AC.seq ?_;refine sZ 500 ?_;refine AU (Ah hsz ht) ?_;refine AM ?_;refine An ?_;refine AC.block ?_;refine sZ 600 ?_;refine AE (CH hsz wk wr kN e1) ?_;refine BE.same _ cv AI ?_;refine BP ?_;rw[Yj,el];refine Ao w1 700 (by kernel_rfl) ?_;refine AE (BY hsz wk wr kN) ?_;refine AE e2 ?_;exact⟨(true,x.take (x.length-9),w++[dv (x.drop (x.length-9))],n2+11,_),⟨J.1,J.2.1,J.2.2.1,J.2.2.2,λh=>by cases h⟩,by dsimp only;rw[Bd];omega,AJ⟩
 ·have ht:decide ((x.length:Int)>9)=false:=Ag (by omega)
  have cv:=Qz x g1 (by omega);obtain⟨r1,r2⟩:=kz (by omega) g1 g3 g4;have cs:=YY neg (w++[dv x]) r1 (by rw[Bc,Ek];omega);rw[r2]at cs;cases t
  ·dsimp only
   obtain rfl:=g5 rfl;refine AC.seq ?_;refine sZ 500 ?_;refine AU (Ah hsz ht) ?_;refine AM ?_;refine B9 ?_;refine sR 800 ?_;refine BE.same _ cv AI ?_;refine BP ?_;refine BE.own _ (NS [M4] cs (.drop (.keep .nil)) ⟨.refl _,YT rfl,trivial⟩ AI) ?_;rintro d H' n' ⟨rfl,rfl,rfl⟩;refine BP ?_;refine Ai ?_;exact AL rfl AA.out
  ·dsimp only
   clear g5;have ew:(w.map Ab).length=w.length:=Ac _;have el:w.length+1=(w++[dv x]).length:=by rw[Bc];rfl
   refine AC.seq ?_;refine sZ 500 ?_;refine AU (Ah hsz ht) ?_;refine AM ?_;refine B9 ?_;refine sR 800 ?_;refine BE.same _ cv AI ?_;refine BP ?_;rw[Yj,el];refine BE.own _ (NS [M4] cs (.drop (.keep .nil)) ⟨.refl _,YT rfl,trivial⟩ AI) ?_;rintro d H' n' ⟨rfl,rfl,rfl⟩;refine BP ?_;refine Ai ?_;exact AL rfl AA.out
def Vr (o:Option D):Bool:=match o with
 |some (.agg [.prim (.bool false),.sl false 1 [.prim (.int .i64 1)]])=>true
 |_=>false
theorem ly {o:Option D}(h:Vr o=true):o=some (rZ 1):=by
 have h1:AY 1=[1]:=P4 (by decide) (by decide);unfold Vr at h;split at h
 ·show _=some (D.agg [Aq (decide ((1:Int)<0)),rL (AY 1)])
  rw[h1];rfl
 ·cases h
theorem j9:Vr ((Ge X1 1000 60).1 156 [i64 1])=true:=by kernel_rfl
theorem lj:AK C0 156 [i64 1] (rZ 1):=CF DY 1000 60 (ly j9)
def PQ (l:List UInt8):Int:=rv (B1 l)
def PK (l:List UInt8):Int:=if Cv l then rv (Ba l)else 1
instance  (x y:Int):AA (.tup [rZ x,rZ y]):=⟨.tup λd hd=>by
 simp only[BG,Db,or_false]at hd;rcases hd with rfl|rfl
 ·exact AA.out
 ·exact AA.out⟩
theorem UH (l:List UInt8)(hn:(Bp (B1 l)).all Bg=true)(hd:(Bp (Ba l)).all Bg=true)(hl:l.length<=1000000):AK C0 116 [str (sb l)] (.tup [rZ (PQ l),rZ (PK l)]):=by
 refine Ak.walk w1 sF rfl λF=>?_
 have hsz:=Cg l;have cs:=UL l (by omega);have hsl:=LK l;have c1:=ZY (B1 l) hn (by unfold B1;rw[Bd];omega);have c2:=ZY (Ba l) hd (by unfold Ba;rw[Dh];omega);have cw:=lj;unfold PQ PK;refine sR 0 ?_;refine sR 100 ?_;refine sR 200 ?_;refine cI cs ?_;cases hh:Cv l
 ·have he:BL l=l.length:=by
   unfold Cv at hh
   have:=DS hh
   omega
  have e0:(((BL l:Nat):Int)==(l.length:Int))=true:=EE.2 (by omega);have en:B1 l=l:=by unfold B1;rw[he,B8 (Af _)]
  rw[en]at c1⊢;refine AC.seq ?_;refine sZ 300 ?_;refine AU (Ah hsz e0) ?_;refine AM ?_;refine sR 400 ?_;refine cI c1 ?_;refine BE.same _ cw AI ?_;refine BP ?_;refine Ai ?_;exact AL rfl AA.out
 ·have he:BL l<l.length:=DE hh
  have e0:(((BL l:Nat):Int)==(l.length:Int))=false:=Br.2 (by omega);have x1:(sb l).extract 0 (BL l)=sb (B1 l):=by rw[Eu,FW];rfl
  have x2:(sb l).extract (BL l+1) l.length=sb (Ba l):=by rw[Eu,B8 (Af _)];rfl
  have wk:IntKind.i64.wrap (((BL l:Nat):Int)+1)=((BL l+1:Nat):Int):=wI (by omega) (by omega);refine AC.seq ?_;refine sZ 300 ?_;refine AU (Ah hsz e0) ?_;refine AM ?_;refine An ?_;refine AC.seq ?_;refine B7 w1 500 [0,1,2,3,4,5,6,7] [8,9,10] (by kernel_rfl) ?_;refine AE (CH hsz wk kN x1 x2) ?_;refine BZ.same _ c1 AI ?_;refine AE (CH hsz wk kN x1 x2) ?_;refine BE.same _ c2 AI ?_;refine BP ?_;refine Ai ?_;exact AL rfl AA.out
def BO (r:Rat):List UInt8:=if r.den=1 then Lib.itoa r.num else Lib.itoa r.num++47::Lib.decDigits r.den
def qZ (x y:Int):Rat:=mkRat (if y<0 then -x else x) y.natAbs
theorem Tr {x:Int}{d:Nat}(hd:d≠0):(mkRat x d).num=sg (decide (x<0)) (x.natAbs/Nat.gcd x.natAbs d)/\(mkRat x d).den=d/Nat.gcd x.natAbs d:=by
 rw[mkRat,dif_neg hd,Rat.normalize_eq];refine⟨?_,rfl⟩;dsimp only;have hg:0<Nat.gcd x.natAbs d:=Pd _ (D4 hd);obtain⟨p,hp⟩:=Nat.gcd_dvd_left x.natAbs d;have e1:x.natAbs/Nat.gcd x.natAbs d=p:=by
  refine Nat.div_eq_of_eq_mul_right hg hp
 have e2:x=(Nat.gcd x.natAbs d:Int)*sg (decide (x<0)) p:=by
  have h0:(x.natAbs:Int)=(Nat.gcd x.natAbs d:Int)*(p:Int):=by rw[<-F6,<-hp]
  unfold sg
  by_cases hx:x<0
  ·rw[AX hx,AG rfl,Int.mul_neg,<-h0];omega
  ·rw[Ag hx,AF (by decide),<-h0];omega
 rw[e1]
 conv=>lhs;arg 1;rw[e2]
 rw[Int.mul_ediv_cancel_left _ (by omega)]
theorem YB (q:Nat):((((((AY q).map Ab).length:Nat):Int)==1)=true/\∃a,(AY q)[0]?=some a/\(((a:Nat):Int)==1)=decide (q=1))\/((((((AY q).map Ab).length:Nat):Int)==1)=false/\q≠1):=by
 rw[Ac]
 by_cases h:(AY q).length=1
 ·refine .inl ⟨EE.2 (by omega),?_⟩
  obtain⟨a,ha⟩:=CV (l:=AY q) (i:=0) (by omega);refine⟨a,ha,?_⟩;have e:AY q=[a]:=by
   obtain⟨b,hb⟩:=List.length_eq_one_iff.1 h;rw[hb]at ha⊢;cases ha;rfl
  have e2:q=a:=by rw[<-D6 q,e];simp[AO]
  rw[e2];rw[Fk,EE,decide_eq_true_iff];omega
 ·refine .inr ⟨Br.2 (by omega),λhq=>h ?_⟩
  rw[hq,P4 (by decide) (by decide)];rfl
theorem io (x y:Int)(hy0:y≠0)(hx:Gu x)(hy:Gu y):AK C0 160 [rZ x,rZ y] (str (sb (BO (qZ x y)))):=by
 refine Ak.walk w1 rV rfl λF=>?_
 unfold qZ;refine sR 0 ?_;refine C4 (α:=Nat) (λn=>⟨[(2,.optr 0 0 2 0 0),(3,.optr 1 1 2 0 0)],[⟨1,1,160,2,[.agg [Aq false,rD y.natAbs]]⟩,⟨0,0,160,2,[rZ (if y<0 then -x else x)]⟩],n⟩) (λ_=>True) ?_ ?_
 ·by_cases h:y<0
  ·have cx:=Y9 x hx
   have cy:=Y9 y hy;have e1:rZ (-y)=.agg [Aq false,rD y.natAbs]:=by
    show D.agg [Aq (decide (-y<0)),rD (-y).natAbs]=_;rw[Ag (by omega),MC]
   rw[e1]at cy;rw[AG h];refine sZ 100 ?_;refine AU (AX h) ?_;refine AM ?_;refine B7 w1 200 [0,1,2] [3,4,5] (by kernel_rfl) ?_;refine AE kN ?_;refine BZ.same _ cx AI ?_;refine AE kN ?_;refine BE.same _ cy AI ?_;refine BP ?_;exact⟨trivial,_,trivial,AJ⟩
  ·have e1:rZ y=.agg [Aq false,rD y.natAbs]:=by
    show D.agg [Aq (decide (y<0)),rD y.natAbs]=_;rw[Ag h]
   rw[AF h];refine sZ 100 ?_;refine AU (Ag h) ?_;refine AM ?_;refine An ?_;refine⟨rfl,5,trivial,?_⟩;rw[<-e1];exact AJ
 rintro n0 -;obtain⟨z,hz⟩:∃z,z=(if y<0 then -x else x):=⟨_,rfl⟩
 have hza:z.natAbs=x.natAbs:=by rw[hz];split<;>omega
 obtain⟨d,hd⟩:∃d,d=y.natAbs:=⟨_,rfl⟩
 have hd0:d≠0:=by omega
 unfold Gu at hx hy;rw[<-hza]at hx;rw[<-hd]at hy;rw[<-hz,<-hd];clear hz hza hd hy0;clear x y;have cg:=Xu z.natAbs d hx hy;obtain⟨qn,qd⟩:=Tr (x:=z) hd0;have hg:0<Nat.gcd z.natAbs d:=Pd _ (D4 hd0);have hgl:(AY (Nat.gcd z.natAbs d)).length<1000000:=Dd (Ik _ _ (Nat.gcd_le_right _ (D4 hd0))) hy;have c4:=VZ z.natAbs (Nat.gcd z.natAbs d) (by omega) hx hgl;have c5:AK C0 157 [rD d,rD (Nat.gcd z.natAbs d)] (.tup [.sl false 1 ((AY (d/Nat.gcd z.natAbs d)).map Ab),rD (d%Nat.gcd z.natAbs d)]):=VZ d (Nat.gcd z.natAbs d) (by omega) hy hgl;have hpl:(AY (z.natAbs/Nat.gcd z.natAbs d)).length<1000000:=Dd (Ik _ _ (Gx _ _)) hx;have hql:(AY (d/Nat.gcd z.natAbs d)).length<1000000:=Dd (Ik _ _ (Gx _ _)) hy;have etx:BO (mkRat z d)=if d/Nat.gcd z.natAbs d=1 then Lib.itoa (sg (decide (z<0)) (z.natAbs/Nat.gcd z.natAbs d))else Lib.itoa (sg (decide (z<0)) (z.natAbs/Nat.gcd z.natAbs d))++47::Lib.decDigits (d/Nat.gcd z.natAbs d):=by
  unfold BO;rw[qn,qd]
 rw[etx];clear etx qn qd hg hgl;generalize z.natAbs/Nat.gcd z.natAbs d=p at*;generalize d/Nat.gcd z.natAbs d=q at*;generalize z.natAbs%Nat.gcd z.natAbs d=r1 at*;generalize d%Nat.gcd z.natAbs d=r2 at*;generalize Nat.gcd z.natAbs d=gg at*;have c6:=LV (decide (z<0)) p (by omega);have hab:(sg (decide (z<0)) p).natAbs=p:=by unfold sg;split<;>omega
 have c7:=cj (sg (decide (z<0)) p) (by unfold Gu;rw[hab];exact hpl);have c8:=LV false q (by omega);have c9:=cj (sg false q) (by unfold Gu;show(AY q).length<1000000;exact hql);have e9:Lib.itoa (sg false q)=Lib.decDigits q:=by rw[ZN false q (by simp)];rfl
 rw[e9]at c9;have l1:=Oc (Ee p);rw[D6]at l1;have l2:=Oc (Ee q);rw[D6]at l2;have l3:(Lib.itoa (sg (decide (z<0)) p)).length<=(Lib.decDigits p).length+1:=by
  unfold Lib.itoa;split
  ·rw[hab,Bo];exact Af _
  ·rw[show(sg (decide (z<0)) p).toNat=p by omega];omega
 generalize sg (decide (z<0)) p=pz at*;have s1:=Cg (Lib.itoa pz);have s2:=Cg (Lib.decDigits q);have s3:(⟨#[47]⟩:ByteArray).size=1:=rfl;have s4:(sb (Lib.itoa pz)++(⟨#[47]⟩:ByteArray)).size=(sb (Lib.itoa pz)).size+(⟨#[47]⟩:ByteArray).size:=ByteArray.size_append;generalize Lib.itoa pz=t1 at*;generalize Lib.decDigits q=t2 at*;refine sR 300 ?_;refine cI cg ?_;refine sR 400 ?_;refine cI c4 ?_;refine sR 500 ?_;refine cI c5 ?_;refine sR 600 ?_;refine cI c6 ?_;refine cI c7 ?_;have ht:=YB q;rcases ht with⟨h1,a,ha,h2⟩|⟨h1,h2⟩
 ·have ha':=Dv ha
  refine AC.seq ?_;refine sZ 700 ?_;refine AE h1 ?_;refine Bq kT ha' ?_;refine AE (Ah h1 h2) ?_
  by_cases hq:q=1
  ·rw[AX hq,AG hq]
   refine AM ?_;refine sR 800 ?_;refine Ai ?_;exact AL rfl AA.out
  ·rw[Ag hq,AF hq]
   refine AM ?_;refine An ?_;refine sR 900 ?_;refine BE.same _ c8 AI ?_;refine BP ?_;refine BE.same _ c9 AI ?_;refine BP ?_;refine Ai ?_;refine AL ?_ AA.out;show str ((⟨t1.toArray⟩++⟨([47]:List UInt8).toArray⟩:ByteArray)++⟨t2.toArray⟩)=_;rw[Ix,Ix,De];rfl
 ·rw[AF h2]
  refine AC.seq ?_;refine sZ 700 ?_;refine AU h1 ?_;refine AE kF ?_;refine AM ?_;refine An ?_;refine sR 900 ?_;refine BE.same _ c8 AI ?_;refine BP ?_;refine BE.same _ c9 AI ?_;refine BP ?_;refine Ai ?_;refine AL ?_ AA.out;show str ((⟨t1.toArray⟩++⟨([47]:List UInt8).toArray⟩:ByteArray)++⟨t2.toArray⟩)=_;rw[Ix,Ix,De];rfl
set_option maxHeartbeats 2000000
theorem QZ (k:Nat)(h:k<10):(UInt8.ofNat (48+k)).toNat=48+k:=by
 rw[UInt8.toNat_ofNat'];omega
theorem EU:∀n:Nat,(Lib.decDigits n).all Bg=true/\dv (Lib.decDigits n)=n/\(Lib.decDigits n)≠[]:=λn=>by
 induction n using Nat.strongRecOn with
 |_ n ih=>
  have one:∀k,k<10->Bg (UInt8.ofNat (48+k))=true:=λk hk=>by
   unfold Bg;rw[QZ k hk,BR];exact⟨Nat.ble_eq_true_of_le (by omega),Nat.ble_eq_true_of_le (by omega)⟩
  have vone:∀k,k<10->dv [UInt8.ofNat (48+k)]=k:=λk hk=>by
   show 0*10+((UInt8.ofNat (48+k)).toNat-48)=k;rw[QZ k hk];omega
  rw[Lib.decDigits];split
  ·rename_i h
   exact⟨by rw[Fl,one n h];rfl,vone n h,by simp⟩
  ·rename_i h
   obtain⟨h1,h2,h3⟩:=ih (n/10) (by omega);refine⟨by rw[Js,h1,Fl,one _ (B3 _ (by decide))];rfl,?_,by simp⟩;rw[N0,h2,vone _ (B3 _ (by decide)),Ek];omega
theorem mX {n:Nat}(h:n≠0):∃c l,Lib.decDigits n=c::l/\c≠48:=by
 induction n using Nat.strongRecOn with
 |_ n ih=>
  rw[Lib.decDigits];split
  ·rename_i h1
   refine⟨_,_,rfl,λhh=>?_⟩
   have:=congrArg UInt8.toNat hh
   rw[QZ n h1]at this
   have:48+n=48:=this
   omega
  ·rename_i h1
   obtain⟨c,l,e,hc⟩:=ih (n/10) (by omega) (by omega);rw[e];exact⟨c,l++_,rfl,hc⟩
theorem re {c:UInt8}(h:Bg c=true):c≠47/\c≠45:=by
 obtain⟨h1,h2⟩:=LH h;exact⟨λhh=>by subst hh;simp at h1,λhh=>by subst hh;simp at h1⟩
theorem MV (z:Int):DO (Lib.itoa z)=decide (z<0)/\Bp (Lib.itoa z)=Lib.decDigits z.natAbs:=by
 unfold Lib.itoa
 by_cases h:z<0
 ·rw[AG h,AX h]
  exact⟨rfl,rfl⟩
 ·rw[AF h,Ag h,show z.toNat=z.natAbs by omega]
  have h1:=S1 (EU z.natAbs).1;exact⟨h1,J4 (EU z.natAbs).1⟩
theorem ZU (z:Int):rv (Lib.itoa z)=z:=by
 unfold rv;rw[(MV z).1,(MV z).2,(EU z.natAbs).2.1]
 by_cases h:z<0
 ·rw[AX h,AG rfl];omega
 ·rw[Ag h,AF (by decide)];omega
theorem V7 (z:Int):∀c∈Lib.itoa z,(c != 47)=true:=λc hc=>by
 have hd:∀n,∀c∈Lib.decDigits n,(c != 47)=true:=λn c h=>by
  have:=(re (CQ.1 (EU n).1 c h)).1
  simpa using this
 unfold Lib.itoa at hc;split at hc
 ·rcases BG.1 hc with rfl|h
  ·rfl
  ·exact hd _ c h
 ·exact hd _ c hc
theorem Sp {p:UInt8->Bool}:∀ {l:List UInt8} (m:List UInt8),(∀c∈l,p c=true)->(l++m).takeWhile p=l++m.takeWhile p
 | [],_,_=>rfl
 |a::l,m,h=>by
  rw[ED,PZ,AG (h a CG),Sp m λc hc=>h c (CK _ hc)];rfl
theorem N8 (r:Rat):BL (BO r)=(Lib.itoa r.num).length:=by
 unfold BL BO;split
 ·have:=Sp (p:=(· != 47)) [] (V7 r.num)
  rw[C5]at this;rw[this];simp
 ·rw[Sp (p:=(· != 47)) _ (V7 r.num)]
  simp
theorem Of (r:Rat):B1 (BO r)=Lib.itoa r.num:=by
 unfold B1;rw[N8];unfold BO;split
 ·exact B8 (Af _)
 ·exact List.take_left' rfl
theorem Mj (r:Rat):Ba (BO r)=if r.den=1 then[]else Lib.decDigits r.den:=by
 unfold Ba;rw[N8];unfold BO;split
 ·exact HS (Nat.le_succ _)
 ·rw[List.drop_append]
  rw[HS (Nat.le_succ _),Kx];rfl
theorem Qy (r:Rat):Cv (BO r) = !decide (r.den=1):=by
 unfold Cv;rw[N8];unfold BO
 by_cases h:r.den=1
 ·rw[AG h,AX h,Ag (by omega)];rfl
 ·rw[AF h,Ag h,Bc,Bo,AX (by omega)];rfl
theorem Ye (r:Rat):PQ (BO r)=r.num:=by unfold PQ;rw[Of,ZU]
theorem nS (r:Rat):PK (BO r)=r.den:=by
 unfold PK;rw[Qy,Mj]
 by_cases h:r.den=1
 ·rw[AX h,h];rfl
 ·rw[Ag h,AF h,AG (show(!false)=true from rfl),M3 (EU _).1,(EU _).2.1]
theorem Yd (r:Rat):(Bp (B1 (BO r))).all Bg=true:=by rw[Of,(MV _).2];exact(EU _).1
theorem Yc (r:Rat):(Bp (Ba (BO r))).all Bg=true:=by
 rw[Mj];split
 ·rfl
 ·rw[J4 (EU _).1];exact(EU _).1
theorem ZM (z:Int):Lib.itoa z≠[]:=by
 unfold Lib.itoa;split
 ·simp
 ·exact(EU _).2.2
theorem cq (r:Rat):BO r≠[]:=by
 unfold BO;split
 ·exact ZM _
 ·simp
theorem T7 (r:Rat):DO (BO r)=decide (r.num<0):=by
 rw[<-(MV r.num).1];unfold BO;split
 ·rfl
 ·have:=ZM r.num
  cases h:Lib.itoa r.num with
  |nil=>exact Ad h this
  |cons c l=>rfl
theorem Yf (r:Rat):decide (BO r=[48])=decide (r.num=0):=by
 refine C8.2 ⟨λh=>?_,λh=>?_⟩
 ·have h1:=Ye r
  rw[h]at h1;rw[<-h1];decide
 ·have:r.den=1:=by
   have:=r.reduced
   rw[h]at this;simpa using this
  unfold BO;rw[AG this,h];show Lib.decDigits 0=[48];rw[Lib.decDigits,dif_pos (by decide)];rfl
abbrev rR (r:Rat):D:=str (sb (BO r))
def L9 (r:Rat):Prop:=(BO r).length<=1000000
theorem b5 (r:Rat)(hl:L9 r):AK C0 144 [rR r] (i64 (Gv r)):=by
 refine Ak.walk w1 rK rfl λF=>?_
 have hsz:=Cg (BO r);unfold L9 at hl;have ez:=Ex (BO r) [48];rw[Yf]at ez;have en:=T7 r;refine sR 0 ?_;refine AC.seq ?_;refine AC.seq ?_;have ez2:BK (sb (BO r)) ⟨#[48]⟩=decide (r.num=0):=ez;have hne:=cq r;refine Ao w1 100 (by kernel_rfl) ?_;refine AU ez2 ?_
 by_cases h0:r.num=0
 ·rw[AX h0]
  refine AM ?_;refine sR 200 ?_;refine Ai ?_;exact AL (by unfold Gv;rw[h0];rfl) AA.out
 ·rw[Ag h0]
  have hpos:0<(BO r).length:=List.length_pos_iff.2 hne;have e0:decide (((sb (BO r)).size:Int)>0)=true:=AX (by omega);have e1:((((BO r).getD (Int.toNat 0) 0).toNat:Int)==45)=decide (r.num<0):=by
   rw[<-en];cases ht:BO r with
   |nil=>exact Ad ht hne
   |cons c l=>exact Qg c l
  refine AM ?_;refine An ?_;refine AC.seq ?_;refine sZ 300 ?_;refine AE e0 ?_;refine AE (As kT e0 e1) ?_
  by_cases hn:r.num<0
  ·rw[AX hn]
   refine AM ?_;refine sR 400 ?_;refine Ai ?_;exact AL (by unfold Gv;congr 3;omega) AA.out
  ·rw[Ag hn]
   refine AM ?_;refine An ?_;refine sR 500 ?_;refine Ai ?_;exact AL (by unfold Gv;congr 3;omega) AA.out
theorem Zk {r:Rat}(h:r.num<0):(BO r).drop 1=BO (-r)/\(BO (-r)).length+1=(BO r).length:=by
 have e:Lib.itoa r.num=45::Lib.itoa (-r.num):=by
  unfold Lib.itoa;rw[AG h,AF (by omega),show(-r.num).toNat=r.num.natAbs by omega]
 have e2:BO r=45::BO (-r):=by
  unfold BO;rw[Rat.neg_den,Rat.neg_num,e];split<;>rfl
 rw[e2];exact⟨rfl,rfl⟩
def DG (r:Rat):Rat:=if r.num<0 then -r else r
theorem QV (r:Rat):(DG r).num=r.num.natAbs/\(DG r).den=r.den:=by
 unfold DG;split
 ·rw[Rat.neg_num,Rat.neg_den];exact⟨by omega,rfl⟩
 ·exact⟨by omega,rfl⟩
def qk (r:Rat):Bool:=!decide (20<(BO r).length) && !(decide (9<BL (BO (DG r)))||decide (10<(BO (DG r)).length-BL (BO (DG r))))
theorem lT (r:Rat):(BO (DG r)).length<=(BO r).length:=by
 unfold DG;split
 ·rename_i h
  have:=(Zk h).2
  omega
 ·exact Af _
theorem TJ (r:Rat):Lib.itoa (DG r).num=Lib.decDigits r.num.natAbs:=by
 rw[(QV r).1];unfold Lib.itoa;rw[AF (by omega)];rfl
theorem Ts {r:Rat}(h:qk r=true):r.num.natAbs<10^9/\r.den<10^9:=by
 unfold qk at h;simp only[BR,Bj,JC,If]at h;obtain⟨h1,h2,h3⟩:=h;have hs:=N8 (DG r);rw[TJ]at hs;have hd:=Mj (DG r);rw[(QV r).2]at hd;have hdl:(Ba (BO (DG r))).length=(BO (DG r)).length-(BL (BO (DG r))+1):=by unfold Ba;rw[Dh]
 have d1:=GK _ (EU r.num.natAbs).1;have d2:=GK _ (EU r.den).1;rw[(EU _).2.1]at d1 d2;refine⟨CX d1 (FT (by decide) (by omega)),?_⟩
 by_cases h1:r.den=1
 ·rw[h1];decide
 ·rw[AF h1]at hd
  rw[hd]at hdl;exact CX d2 (FT (by decide) (by omega))
theorem Za (r:Rat)(hl:L9 r):AK C0 158 [rR r] (.tup [i64 (if qk r then r.num else 0),i64 (if qk r then(r.den:Int)else 0),Aq (qk r)]):=by
 refine Ak.walk w1 rT rfl λF=>?_
 have hsz:=Cg (BO r);unfold L9 at hl;have hne:=cq r;have hpos:0<(BO r).length:=List.length_pos_iff.2 hne;refine sR 0 ?_;refine sR 100 ?_;refine AC.seq ?_;refine AC.seq ?_
 by_cases h20:20<(BO r).length
 ·have e2:decide (((BO r).length:Int)>20)=true:=AX (by omega)
  have eq:qk r=false:=by unfold qk;rw[AX h20];rfl
  rw[eq];refine Ao w1 200 (by kernel_rfl) ?_;refine AU (Ah hsz e2) ?_;refine AM ?_;refine sR 300 ?_;refine Ai ?_;exact AL rfl AA.out
 ·have e2:decide (((BO r).length:Int)>20)=false:=Ag (by omega)
  have eq:qk r = !(decide (9<BL (BO (DG r)))||decide (10<(BO (DG r)).length-BL (BO (DG r)))):=by unfold qk;rw[Ag h20];rfl
  have en:=T7 r;refine Ao w1 200 (by kernel_rfl) ?_;refine AU (Ah hsz e2) ?_;refine AM ?_;refine An ?_;refine C4 (α:=Nat) (λn=>⟨[(5,rR r),(6,Aq (decide (r.num<0)))],[],n⟩) (λ_=>True) ?_ ?_
  ·have e0:decide (((sb (BO r)).size:Int)>0)=true:=AX (by omega)
   have e1:((((BO r).getD (Int.toNat 0) 0).toNat:Int)==45)=decide (r.num<0):=by
    rw[<-en];cases ht:BO r with
    |nil=>exact Ad ht hne
    |cons c l=>exact Qg c l
   refine Ao w1 400 (by kernel_rfl) ?_;refine AE e0 ?_;refine AE (As kT e0 e1) ?_;exact⟨trivial,_,trivial,AJ⟩
  rintro n0 -;refine C4 (α:=Nat) (λn=>⟨[(5,rR (DG r)),(6,Aq (decide (r.num<0)))],[],n⟩) (λ_=>True) ?_ ?_
  ·refine sR 500 ?_
   by_cases h:r.num<0
   ·obtain⟨t1,t2⟩:=Zk h
    have ea:DG r = -r:=by unfold DG;rw[AG h]
    have ee:(sb (BO r)).extract (Int.toNat 1) (BO r).length=sb (BO (DG r)):=by
     rw[ea,Eu,B8 (Af _),<-t1];rfl
    rw[AX h];refine AM ?_;refine Ao w1 600 (by kernel_rfl) ?_;refine AE (Ah hsz kN) ?_;rw[ee];exact⟨trivial,_,trivial,AJ⟩
   ·have ea:DG r=r:=by unfold DG;rw[AF h]
    rw[Ag h,ea];refine AM ?_;refine An ?_;exact⟨rfl,_,trivial,AJ⟩
  rintro n1 -;have hal:=lT r;have hsa:=N8 (DG r);rw[TJ]at hsa;have hn:=Of (DG r);rw[TJ]at hn;have hd:=Mj (DG r);rw[(QV r).2]at hd;have hh:=Qy (DG r);rw[(QV r).2]at hh;unfold Cv at hh;have hle:=LK (BO (DG r));have cs:=UL (BO (DG r)) (by omega);have hszA:=Cg (BO (DG r));clear hsz hne hpos e2 en;generalize hT:BO (DG r)=T at*;have eR:rR (DG r)=str (sb T):=by rw[<-hT]
  rw[eR];clear hT eR;refine sR 700 ?_;refine cI cs ?_;have w8:IntKind.i64.wrap ((T.length:Int)-(BL T:Int))=((T.length-BL T:Nat):Int):=by rw[wI (by omega) (by omega)];omega
  have eb:decide (((T.length-BL T:Nat):Int)>10)=decide (10<T.length-BL T):=C8.2 (by omega)
  by_cases h9:9<BL T
  ·have e8:decide ((BL T:Int)>9)=true:=AX (by omega)
   rw[AX h9]at eq;have eq2:qk r=false:=eq;rw[eq2];refine AC.seq ?_;refine sZ 800 ?_;refine AU e8 ?_;refine AE kT ?_;refine AM ?_;refine sR 900 ?_;refine Ai ?_;exact AL rfl AA.out
  have e8:decide ((BL T:Int)>9)=false:=Ag (by omega);rw[Ag h9]at eq
  by_cases h10:10<T.length-BL T
  ·rw[AX h10]at eq eb
   have eq2:qk r=false:=eq;rw[eq2];refine AC.seq ?_;refine sZ 800 ?_;refine AU e8 ?_;refine AE (BY kF hszA w8 eb) ?_;refine AM ?_;refine sR 900 ?_;refine Ai ?_;exact AL rfl AA.out
  rw[Ag h10]at eq eb;have eq2:qk r=true:=eq;rw[eq2];refine AC.seq ?_;refine sZ 800 ?_;refine AU e8 ?_;refine AE (BY kF hszA w8 eb) ?_;refine AM ?_;refine An ?_;have hd1:=EU r.num.natAbs;have hd2:=EU r.den;have c1:=Qz (Lib.decDigits r.num.natAbs) hd1.1 (by omega);rw[hd1.2.1]at c1;have e10:(sb T).extract 0 (BL T)=sb (Lib.decDigits r.num.natAbs):=by
   rw[Eu,FW,<-hn];rfl
  refine sZ 1000 ?_;refine AE (Ah hszA kN) ?_;refine AE e10 ?_;refine BE.same _ c1 AI ?_;refine BP ?_;refine C4 (α:=Nat) (λn=>⟨[(6,Aq (decide (r.num<0))),(8,i64 (r.num.natAbs:Int)),(9,i64 (r.den:Int))],[],n⟩) (λ_=>True) ?_ ?_
  ·by_cases hden:r.den=1
   ·rw[AX hden]at hh
    have e11:decide ((BL T:Int)<(T.length:Int))=false:=Ag (by have:=DS (p:=BL T<T.length) hh;omega);rw[hden];refine sZ 1100 ?_;refine AU (Ah hszA e11) ?_;refine AM ?_;refine An ?_;exact⟨rfl,_,trivial,AJ⟩
   ·rw[Ag hden]at hh
    rw[AF hden]at hd;have hlt:=DE (p:=BL T<T.length) hh;have e11:decide ((BL T:Int)<(T.length:Int))=true:=AX (by omega);have wk:IntKind.i64.wrap (((BL T:Nat):Int)+1)=((BL T+1:Nat):Int):=wI (by omega) (by omega);have e12:(sb T).extract (BL T+1) T.length=sb (Lib.decDigits r.den):=by
     rw[Eu,B8 (Af _),<-hd];rfl
    have hdl:(Lib.decDigits r.den).length<=18:=by
     rw[<-hd];unfold Ba;rw[Dh];omega
    have c2:=Qz (Lib.decDigits r.den) hd2.1 hdl;rw[hd2.2.1]at c2;refine sZ 1100 ?_;refine AU (Ah hszA e11) ?_;refine AM ?_;refine Ao w1 1200 (by kernel_rfl) ?_;refine AE (As hszA wk kN) ?_;refine AE e12 ?_;refine BE.same _ c2 AI ?_;refine BP ?_;exact⟨trivial,_,trivial,AJ⟩
  rintro n2 -;obtain⟨b1,b2⟩:=Ts eq2;refine C4 (α:=Nat) (λn=>⟨[(8,i64 r.num),(9,i64 (r.den:Int))],[],n⟩) (λ_=>True) ?_ ?_
  ·refine sR 1300 ?_
   by_cases h:r.num<0
   ·have wn:IntKind.i64.wrap (0-(r.num.natAbs:Int))=r.num:=by rw[wI (by omega) (by omega)];omega
    rw[AX h];refine AM ?_;refine Ao w1 1400 (by kernel_rfl) ?_;refine AU wn ?_;exact⟨trivial,_,trivial,AJ⟩
   ·have en:(r.num.natAbs:Int)=r.num:=by omega
    rw[Ag h,en];refine AM ?_;refine An ?_;exact⟨rfl,_,trivial,AJ⟩
  rintro n3 -;refine sR 1500 ?_;refine Ai ?_;exact AL rfl AA.out
theorem kj (b:Bool)(n:Nat):(sg b n).natAbs=n:=by unfold sg;split<;>omega
theorem xv (z:Int)(d:Nat)(hz:z.natAbs<=4000000000000000000)(hd0:0<d)(hd:d<=4000000000000000000):AK C0 159 [i64 z,i64 (d:Int)] (rR (mkRat z d)):=by
 refine Ak.walk w1 rU rfl λF=>?_
 have hg:0<Nat.gcd z.natAbs d:=Pd _ hd0;have hgl:Nat.gcd z.natAbs d<=d:=Nat.gcd_le_right _ hd0;obtain⟨qn,qd⟩:=Tr (x:=z) (d:=d) (by omega);have etx:BO (mkRat z d)=if d/Nat.gcd z.natAbs d=1 then Lib.itoa (mkRat z d).num else Lib.itoa (mkRat z d).num++47::Lib.decDigits (d/Nat.gcd z.natAbs d):=by
  unfold BO;rw[qd]
 have q1:z.tdiv (Nat.gcd z.natAbs d:Nat)=(mkRat z d).num:=by
  rw[qn];obtain⟨p,hp⟩:=Nat.gcd_dvd_left z.natAbs d;have e1:z.natAbs/Nat.gcd z.natAbs d=p:=Nat.div_eq_of_eq_mul_right hg hp;have e2:z=(Nat.gcd z.natAbs d:Int)*sg (decide (z<0)) p:=by
   have h0:(z.natAbs:Int)=(Nat.gcd z.natAbs d:Int)*(p:Int):=by rw[<-F6,<-hp]
   unfold sg
   by_cases hx:z<0
   ·rw[AX hx,AG rfl,Int.mul_neg,<-h0];omega
   ·rw[Ag hx,AF (by decide),<-h0];omega
  rw[e1]
  conv=>lhs;arg 1;rw[e2]
  rw[Int.mul_tdiv_cancel_left _ (by omega)]
 have q2:(d:Int).tdiv (Nat.gcd z.natAbs d:Nat)=((d/Nat.gcd z.natAbs d:Nat):Int):=rfl;have q5:(mkRat z d).num.natAbs<=4000000000000000000:=by
  rw[qn];rw[kj];exact BX (Gx _ _) hz
 have q4:d/Nat.gcd z.natAbs d<=4000000000000000000:=BX (Gx _ _) hd;have hx:0<d/Nat.gcd z.natAbs d:=Nat.div_pos hgl hg;have ert:rR (mkRat z d)=str (sb (if d/Nat.gcd z.natAbs d=1 then Lib.itoa (mkRat z d).num else Lib.itoa (mkRat z d).num++47::Lib.decDigits (d/Nat.gcd z.natAbs d))):=by rw[<-etx]
 rw[ert];clear etx ert qn qd;generalize(mkRat z d).num=pz at*;refine fR 0 ?_;refine EX ⟨[(0,i64 z),(1,i64 d),(4,str ⟨#[]⟩)],[],50⟩ ?_ ?_
 ·refine AC.seq ?_
  have l1:(decide (z < -4000000000000000000))=false:=by apply Ag;omega
  have l2:(decide (z>4000000000000000000))=false:=by apply Ag;omega
  have l3:(decide ((d:Int) < -4000000000000000000))=false:=by apply Ag;omega
  have l4:(decide ((d:Int)>4000000000000000000))=false:=by apply Ag;omega
  refine Ao w1 100 (by kernel_rfl) ?_
  repeat'(first|(refine And.intro (by exact CC) ?_;(refine At ?_);(try simp only[NA,Rn,l1,l2,l3,l4]))|((refine By (λhb=>?_) (λhb=>?_))<;>(try simp only[Bj,Bw]at hb)<;>(try simp only[hb])<;>(refine At ?_)))
  refine AM ?_;refine An ?_;exact And.intro (by trivial) (AJ)
 refine EX ⟨[(0,i64 z),(1,i64 d),(4,str ⟨#[]⟩)],[],100⟩ ?_ ?_
 ·refine fR 300 ?_
  refine AM ?_;have e27:(decide ((d:Int)<0))=false:=by simp
  rw[e27];refine An ?_;exact And.intro (by trivial) (AJ)
 refine AC.seq ?_;have m1:max z (IntKind.i64.wrap (0-z))=(z.natAbs:Int):=by rw[wI (by omega) (by omega)];omega
 refine Ao w1 500 (by kernel_rfl) ?_;refine Jx m1 ?_;refine dI (pk z.natAbs d (by omega) (by omega)) ?_;refine AC.seq ?_;refine B7 w1 600 [0,1,2,3,4,5,6] [7] (by kernel_rfl) ?_;refine CA ?_;have w1p:IntKind.i64.wrap pz=pz:=wI (by omega) (by omega);rw[q1,q2,w1p,wN (BX q4 (by decide))];clear q1 q2 hg hgl;generalize d/Nat.gcd z.natAbs d=y at*;refine fR 700 ?_;have c1:=P8 pz.natAbs 1 (by omega);have c2:=P8 y 1 (by omega);rw[Y1]at c1 c2;have s1:=MK 18 pz.natAbs (Dd q5 (by decide));have s2:=MK 18 y (Dd q4 (by decide));have z1:=Oa (Lib.decDigits pz.natAbs);have z2:=Oa (Lib.decDigits y);have m1:max pz (IntKind.i64.wrap (0-pz))=(pz.natAbs:Int):=by rw[wI (by omega) (by omega)];omega
 refine C4 (α:=Nat) (λn=>⟨[(0,i64 pz),(1,i64 (y:Int)),(4,str ⟨#[]⟩),(6,str (sb (if pz<0 then[45]else[])))],[],n⟩) (λ_=>True) ?_ ?_
 ·refine fR 800 ?_
  by_cases h:pz<0
  ·rw[AX h,AG h]
   refine AM ?_;refine fI 900 ?_;exact⟨rfl,_,trivial,AJ⟩
  ·rw[Ag h,AF h]
   refine AM ?_;refine An ?_;exact⟨rfl,_,trivial,AJ⟩
 rintro n0 -;have ei:(if pz<0 then[45]else[])++Lib.decDigits pz.natAbs=Lib.itoa pz:=by
  unfold Lib.itoa;split
  ·rfl
  ·rw[show pz.toNat=pz.natAbs by omega];rfl
 have z3:=Cg (if pz<0 then[45]else[]);have z4:(if pz<0 then[45]else[]:List UInt8).length<=1:=by split<;>simp
 have z5:(Lib.itoa pz).length<=20:=by rw[<-ei,Bc];omega
 refine sZ 1000 ?_;refine Jx m1 ?_;refine dI c1 ?_;rw[Ix,ei];have z6:=Oa (Lib.itoa pz);generalize Lib.itoa pz=t1 at*;clear ei z3 z4;refine C4 (α:=Nat) (λn=>⟨[(6,str (sb (if y=1 then t1 else t1++47::Lib.decDigits y)))],[],n⟩) (λ_=>True) ?_ ?_
 ·refine fR 1100 ?_
  by_cases hy:y=1
  ·rw[AG hy]
   have e54:(decide ((y:Int)>1))=false:=by apply Ag;omega
   rw[e54];refine AM ?_;refine An ?_;exact⟨rfl,_,trivial,AJ⟩
  ·rw[AF hy]
   have e54:(decide ((y:Int)>1))=true:=by apply AX;omega
   have s3:(⟨#[47]⟩:ByteArray).size=1:=rfl;have sc:((⟨t1.toArray⟩:ByteArray)++(⟨#[47]⟩:ByteArray)).size=(⟨t1.toArray⟩:ByteArray).size+(⟨#[47]⟩:ByteArray).size:=ByteArray.size_append;rw[e54];refine AM ?_;refine fI 1200 ?_;refine dI c2 ?_;have e47:(⟨#[47]⟩:ByteArray)=⟨([47]:List UInt8).toArray⟩:=rfl;rw[e47,Ix,Ix,De,ED,EZ];exact⟨rfl,_,trivial,AJ⟩
 rintro n1 -;refine fR 1300 ?_;refine Ai ?_;exact AL rfl AA.out
theorem UA {n k:Nat}(h:(Ae n).length<=k):(AY n).length<=3*k:=by
 refine LB (CX (JL n) ?_);rw[Nat.pow_mul];exact BX (FT (by decide) h) (Ng (by decide) k)
theorem Ms {n k:Nat}(h:(Ae n).length<=k):(Lib.decDigits n).length<=27*k+1:=by
 have h1:=Oc (Ee n);rw[D6]at h1
 have:=UA h
 omega
theorem ov {z:Int}{k:Nat}(h:(Ae z.natAbs).length<=k):(Lib.itoa z).length<=27*k+2:=by
 have:=Ms h
 unfold Lib.itoa;split
 ·rw[Bo];omega
 ·rw[show z.toNat=z.natAbs by omega];omega
theorem UP {r:Rat}{k:Nat}(h:rk r k)(hk:k<=10000):L9 r:=by
 have h1:=ov h.1;have h2:=Ms h.2;unfold L9 BO;split
 ·omega
 ·rw[Bc,Bo];omega
def LZ (x:Int)(p:Nat):Prop:=(AY x.natAbs).length<=p
theorem LZ.mul {x y:Int}{p q:Nat}(hx:LZ x p)(hy:LZ y q):LZ (x*y) (p+q):=by
 unfold LZ at*;rw[NW]
 have:=Su x.natAbs y.natAbs
 omega
theorem LZ.add {x y:Int}{p q:Nat}(hx:LZ x p)(hy:LZ y q):LZ (x+y) (p+q+1):=by
 unfold LZ at*;have h1:=Ik (x+y).natAbs (x.natAbs+y.natAbs) (Int.natAbs_add_le x y);have h2:=Wf x.natAbs y.natAbs;omega
theorem LZ.few {x:Int}{p:Nat}(h:LZ x p)(hp:p<1000000):Gu x:=Dd h hp
theorem LZ.num {r:Rat}{k:Nat}(h:rk r k):LZ r.num (3*k):=UA h.1
theorem LZ.den {r:Rat}{k:Nat}(h:rk r k):LZ (r.den:Int) (3*k):=UA h.2
theorem vN (a b:Rat):qZ (a.num*b.den+b.num*a.den) ((a.den:Int)*b.den)=a+b:=by
 unfold qZ;have h:¬((a.den:Int)*b.den<0):=by
  rw[<-F6];omega
 rw[AF h,<-F6,ER,Rat.add_def',]
theorem TR {x y:Int}(hx:x.natAbs<10^9)(hy:y.natAbs<10^9):(x*y).natAbs<10^18:=by
 rw[NW];exact CX (Nat.mul_lt_mul'' hx hy) (by decide)
theorem fY (a b:Rat)(i j:Nat)(ha:rk a i)(hb:rk b j)(hij:i+j<=10000):AK C0 118 [rR a,rR b] (rR (a+b)):=by
 refine Ak.walk w1 rC rfl λF=>?_
 have ta:=UP ha (by omega);have tb:=UP hb (by omega);have qa:=Za a ta;have qb:=Za b tb
 by_cases hq:qk a=true/\qk b=true
 ·obtain⟨h1,h2⟩:=hq
  obtain⟨n1,d1⟩:=Ts h1;obtain⟨n2,d2⟩:=Ts h2;rw[h1,AG rfl,AG rfl]at qa;rw[h2,AG rfl,AG rfl]at qb;have p1:=TR n1 (y:=(b.den:Int)) (by omega);have p2:=TR n2 (y:=(a.den:Int)) (by omega);have p3:=TR (x:=(a.den:Int)) (y:=(b.den:Int)) (by omega) (by omega);have m1:IntKind.i64.wrap (a.num*(b.den:Int))=a.num*b.den:=wI (by omega) (by omega);have m2:IntKind.i64.wrap (b.num*(a.den:Int))=b.num*a.den:=wI (by omega) (by omega);have m3:IntKind.i64.wrap (a.num*(b.den:Int)+b.num*(a.den:Int))=a.num*b.den+b.num*a.den:=wI (by omega) (by omega);have m4:IntKind.i64.wrap ((a.den:Int)*(b.den:Int))=((a.den*b.den:Nat):Int):=by rw[wI (by omega) (by omega),F6]
  have p4:a.den*b.den<10^18:=by rw[<-F6,ER]at p3;exact p3
  have cf:=xv (a.num*b.den+b.num*a.den) (a.den*b.den) (by omega) (HW a.den_pos b.den_pos) (by omega);rw[<-Rat.add_def']at cf;refine sR 0 ?_;refine sR 100 ?_;refine cI qa ?_;refine sR 200 ?_;refine cI qb ?_;refine AC.seq ?_;refine sZ 300 ?_;refine AE kT ?_;refine AM ?_;refine sZ 400 ?_;refine AU (BY m1 m2 m3 m4) ?_;refine cI cf ?_;refine Ai ?_;exact AL rfl AA.out
 ·refine sR 0 ?_
  refine sR 100 ?_;refine cI qa ?_;refine sR 200 ?_;refine cI qb ?_;refine C4 (α:=Nat) (λn=>⟨[(0,rR a),(1,rR b)],[],n⟩) (λ_=>True) ?_ ?_
  ·cases h1:qk a
   ·refine sZ 300 ?_
    refine AE h1 ?_;refine AE kF ?_;refine AM ?_;refine An ?_;exact⟨rfl,_,trivial,AJ⟩
   ·have h2:qk b=false:=by
     cases h2:qk b
     ·rfl
     ·exact Ad ⟨h1,h2⟩ hq
    rw[h2];refine sZ 300 ?_;refine AE h1 ?_;refine AE kT ?_;refine AM ?_;refine An ?_;exact⟨rfl,_,trivial,AJ⟩
  rintro n0 -;clear qa qb hq;have pa:=UH (BO a) (Yd a) (Yc a) ta;have pb:=UH (BO b) (Yd b) (Yc b) tb;rw[Ye,nS]at pa pb;have lan:=LZ.num ha;have lad:=LZ.den ha;have lbn:=LZ.num hb;have lbd:=LZ.den hb;have da:=a.den_pos;have db:=b.den_pos;have c1:=UQ a.num b.den (lan.few (by omega)) (lbd.few (by omega));have c2:=UQ b.num a.den (lbn.few (by omega)) (lad.few (by omega));have c3:=vJ (a.num*b.den) (b.num*a.den) ((lan.mul lbd).few (by omega)) ((lbn.mul lad).few (by omega));have c4:=UQ (a.den:Int) b.den (lad.few (by omega)) (lbd.few (by omega));have c5:=io (a.num*b.den+b.num*a.den) ((a.den:Int)*b.den) (by rw[<-F6];have:=HW da db;omega) (((lan.mul lbd).add (lbn.mul lad)).few (by omega)) ((lad.mul lbd).few (by omega));rw[vN]at c5;refine sR 500 ?_;refine cI pa ?_;refine sR 600 ?_;refine cI pb ?_;refine AC.seq ?_;refine B7 w1 700 [0,1,2,3,4,5,6,7,8] [9,10,11] (by kernel_rfl) ?_;refine AE kN ?_
  first|refine BZ.same _ c1 AI ?_|refine BE.same _ c1 AI ?_
  refine AE kN ?_
  first|refine BZ.same _ c2 AI ?_|refine BE.same _ c2 AI ?_
  refine AE kN ?_
  first|refine BZ.same _ c3 AI ?_|refine BE.same _ c3 AI ?_
  refine AE kN ?_
  first|refine BZ.same _ c4 AI ?_|refine BE.same _ c4 AI ?_
  refine AE kN ?_
  first|refine BZ.same _ c5 AI ?_|refine BE.same _ c5 AI ?_
  refine AE kN ?_;refine Ai ?_;exact AL rfl AA.out
theorem lx (c:UInt8):Bg c=(!decide ((c.toNat:Int)<48) && !decide ((c.toNat:Int)>57)):=by
 unfold Bg;rw[Fk,BR,BR];simp only[Bj,If,Nat.ble_eq];omega
theorem gi {l:List UInt8}{i:Nat}{c:UInt8}(hc:l[i]?=some c)(h:(l.take i).all Bg=true):(l.take (i+1)).all Bg=Bg c:=by
 rw[Da,hc,Js,h];simp
theorem qt {l:List UInt8}{i:Nat}{c:UInt8}(hc:l[i]?=some c)(h:Bg c=false):l.all Bg=false:=by
 cases ha:l.all Bg
 ·rfl
 ·have:=CQ.1 ha c (Aw hc)
  rw[h]at this;cases this
theorem m9 (l:List UInt8)(hl:l.length<=1000000000):AK C0 154 [str (sb l)] (Aq (l.all Bg)):=by
 refine Ak.walk w1 rP rfl λF=>?_
 have hsz:=Cg l;refine sR 0 ?_;refine AC.seq ?_;refine sR 100 ?_;refine AC.block ?_;refine AC.loop (α:=Nat×Nat) (λp=>⟨[(0,str (sb l)),(3,i64 (p.1:Int))],[],p.2⟩) (λp=>l.length-p.1) (λp=>p.1<=l.length/\(l.take p.1).all Bg=true) (0,_) ⟨BU _,rfl⟩ AJ ?_;rintro⟨i,n⟩ F ⟨hi,ha⟩;dsimp only at hi ha⊢;refine AC.seq ?_;refine sZ 200 ?_;refine AU hsz ?_;refine AM ?_
 (refine By (λhlt=>?_) (λhlt=>?_))<;>(try simp only[Bj,Bw]at hlt)<;>(try simp only[hlt])
 ·have hi2:i<l.length:=by
   have:=DE hlt
   omega
  obtain⟨c,hc⟩:∃c,l[i]?=some c:=⟨l[i],A9 hi2⟩
  have hg:l.getD i 0=c:=by simp[hc]
  have wi:IntKind.i64.wrap ((i:Int)+1)=((i+1:Nat):Int):=wI (by omega) (by omega);have hid:=lx c;have hat:=gi hc ha;have hno:=qt hc;refine An ?_;refine AC.seq ?_;refine AC.block ?_;refine sZ 400 ?_;refine AU (Ah kN hg) ?_
  by_cases c1:(c.toNat:Int)<48
  ·rw[AX c1]at hid
   have e4:=AX c1;simp only[e4];refine AE kT ?_;refine AM ?_;refine sR 500 ?_;refine Ai ?_;exact AL (by rw[hno hid]) AA.out
  ·rw[Ag c1]at hid
   have e4:=Ag c1;simp only[e4];refine AE (As kF kN hg) ?_
   by_cases c2:(c.toNat:Int)>57
   ·rw[AX c2]at hid⊢
    refine AM ?_;refine sR 500 ?_;refine Ai ?_;exact AL (by rw[hno hid]) AA.out
   ·rw[Ag c2]at hid⊢
    refine AM ?_;refine An ?_;refine Ao w1 300 (by kernel_rfl) ?_;refine AU wi ?_;exact⟨(i+1,_),⟨hi2,hat.trans hid⟩,by dsimp only;omega,AJ⟩
 ·have hi2:i=l.length:=by
   have:=DS hlt
   omega
  subst hi2;rw[B8 (Af _)]at ha;refine B9 ?_;refine sR 600 ?_;refine Ai ?_;exact AL (by rw[ha]) AA.out
theorem kM (c:UInt8):(((c.toNat:Nat):Int)==48)=decide (c=48):=by
 rw[Fk,EE,decide_eq_true_iff,<-UInt8.toNat_inj];exact⟨λh=>(show c.toNat=48 by omega),λh=>by rw[h];rfl⟩
theorem bq (l:List UInt8)(hl:l.length<=1000000000):AK C0 115 [str (sb l)] (Aq (DA l)):=by
 refine Ak.walk w1 sE rfl λF=>?_
 have hsz:=Cg l;have cd:=m9 l hl;refine sR 0 ?_;refine AC.seq ?_;refine AC.seq ?_
 match l,hl,hsz,cd with
 | [],_,hsz,_=>
  have e1:((((sb []).size:Nat):Int)==0)=true:=rfl;refine Ao w1 100 (by kernel_rfl) ?_;refine AU e1 ?_;refine AE kT ?_;refine AM ?_;refine sR 200 ?_;refine Ai ?_;exact AL rfl AA.out
 | [c],hl,hsz,cd=>
  have e1:((((sb [c]).size:Nat):Int)==0)=false:=rfl;have e2:decide ((((sb [c]).size:Nat):Int)>1)=false:=rfl;have ep:DA [c]=[c].all Bg:=by
   unfold DA Kj
   by_cases h:c=48
   ·subst h;rfl
   ·simp[h]
  rw[ep];refine Ao w1 100 (by kernel_rfl) ?_;refine AU e1 ?_;refine AE kF ?_;simp only[e2];refine AE kF ?_;refine AM ?_;refine An ?_;refine sR 300 ?_;refine cI cd ?_;refine Ai ?_;exact AL rfl AA.out
 |c::d::l,hl,hsz,cd=>
  have hs2:(sb (c::d::l)).size=l.length+2:=hsz;have e1:((((sb (c::d::l)).size:Nat):Int)==0)=false:=Br.2 (by omega);have e2:decide ((((sb (c::d::l)).size:Nat):Int)>1)=true:=AX (by omega);have e3:((((c::d::l).getD (Int.toNat 0) 0).toNat:Int)==48)=decide (c=48):=kM c;have ep:DA (c::d::l)=if c=48 then false else(c::d::l).all Bg:=by
   unfold DA Kj
   by_cases h:c=48
   ·subst h;simp
   ·simp[h]
  rw[ep];refine Ao w1 100 (by kernel_rfl) ?_;refine AU e1 ?_;refine AE (Ah kF e2) ?_;refine AE (BY kT e2 e3 kF) ?_
  by_cases h:c=48
  ·rw[AX h,AG h]
   refine AM ?_;refine sR 200 ?_;refine Ai ?_;exact AL rfl AA.out
  ·rw[Ag h,AF h]
   refine AM ?_;refine An ?_;refine sR 300 ?_;refine cI cd ?_;refine Ai ?_;exact AL rfl AA.out
def Du (r:Rat):Bool:=decide (600<(Lib.decDigits r.num.natAbs).length)||decide (600<(Lib.decDigits r.den).length)
theorem ko (l:List UInt8):BL l=(B1 l).length:=by
 have:=LK l
 unfold B1;rw[Bd];omega
theorem S2 (l:List UInt8):B1 (Bp l)=B4 l/\Ba (Bp l)=Ba l/\Cv (Bp l)=Cv l/\decide (B1 l=[45,48])=(DO l&&decide (B4 l=[48])):=by
 cases hb:DO l
 ·have ed:Bp l=l:=by unfold Bp;rw[hb];rfl
  have en:DO (B1 l)=false:=by
   unfold B1;cases l with
   |nil=>rfl
   |cons c l=>
    cases hk:BL (c::l)with
    |zero=>rfl
    |succ k=>exact hb
  have es:B4 l=B1 l:=by unfold B4 Bp;rw[en];rfl
  rw[ed,es];refine⟨rfl,rfl,rfl,?_⟩;rw[HV];refine Ag λh=>?_
  rw[h]at en;cases en
 ·cases l with
  |nil=>cases hb
  |cons c m=>
   have hc:c=45:=by simpa[DO]using hb
   subst hc;have ed:Bp (45::m)=m:=rfl;have e1:BL (45::m)=BL m+1:=by
    unfold BL;rw[PZ,AG (by decide),Bo]
   have e2:B1 (45::m)=45::B1 m:=by unfold B1;rw[e1,List.take_succ_cons]
   have e3:Ba (45::m)=Ba m:=by unfold Ba;rw[e1,ST]
   have e4:Cv (45::m)=Cv m:=by unfold Cv;rw[e1,Bo];exact C8.2 (by omega)
   have e5:B4 (45::m)=B1 m:=by unfold B4;rw[e2];rfl
   rw[ed,e2,e3,e4,e5];refine⟨rfl,rfl,rfl,?_⟩;rw[Gd];exact C8.2 (by simp)
theorem P6 (l:List UInt8):JO l=((!DA (B4 l)||(DO l&&decide (B4 l=[48])))||(Cv l&&(!DA (Ba l)||decide (Ba l=[48])||decide (Ba l=[49])))):=by
 unfold JO;rw[(S2 l).2.2.2]
theorem mT {l:List UInt8}(h:DA l=true):l≠[]:=(J6 h).1
theorem bF {l:List UInt8}(h:0<l.length):(((l.getD (Int.toNat 0) 0).toNat:Int)==45)=DO l:=by
 cases l with
 |nil=>cases h
 |cons c l=>exact Qg c l
theorem vS (l:List UInt8)(hl:l.length<=100000):AK C0 72 [str (sb l)] (i64 (CY l)):=by
 refine Ak.walk w1 x9 rfl λF=>?_
 have hsz:=Cg l;obtain⟨p1,p2,p3,-⟩:=S2 l;have hdl:(Bp l).length<=l.length:=by
  unfold Bp;split
  ·rw[Dh];omega
  ·exact Af _
 have hbf:=P6 l;have hchk1:(!DA (B4 l)||(DO l&&decide (B4 l=[48])))=true->CY l=1:=λh=>by
  unfold CY;rw[hbf,h,Bool.true_or,AG rfl]
 have hchk2:(Cv l&&(!DA (Ba l)||decide (Ba l=[48])||decide (Ba l=[49])))=true->CY l=1:=λh=>by
  unfold CY;rw[hbf,h,Bool.or_true,AG rfl]
 have hne:DA (B4 l)=true->0<l.length:=λh=>by
  cases l with
  |nil=>exact Ad rfl (mT h)
  |cons c l=>rw[Bo];omega
 refine sR 0 ?_;refine sR 100 ?_;refine C4 (α:=Nat) (λn=>⟨[(0,str (sb l)),(3,str (sb (Bp l)))],[],n⟩) (λ_=>True) ?_ ?_
 ·rcases Do l.length with h0|h0
  ·have e0:l=[]:=FU h0
   have e1:decide (((sb []).size:Int)>0)=false:=rfl;have ed:Bp l=l:=by rw[e0];rfl
   rw[ed,e0];refine sZ 200 ?_;refine AU e1 ?_;refine AE kF ?_;refine AM ?_;refine An ?_;exact⟨rfl,_,trivial,AJ⟩
  ·have e0:decide (((sb l).size:Int)>0)=true:=AX (by omega)
   have e1:=bF h0;refine sZ 200 ?_;refine AE e0 ?_;refine AE (As kT e0 e1) ?_;cases hb:DO l
   ·have ed:Bp l=l:=by unfold Bp;rw[hb];rfl
    rw[ed];refine AM ?_;refine An ?_;exact⟨rfl,_,trivial,AJ⟩
   ·have ed:Bp l=l.drop 1:=by unfold Bp;rw[hb];rfl
    have ee:(sb l).extract (Int.toNat 1) l.length=sb (Bp l):=by
     rw[Eu,B8 (Af _),ed];rfl
    refine AM ?_;refine Ao w1 300 (by kernel_rfl) ?_;refine AE (Ah hsz kN) ?_;rw[ee];exact⟨trivial,_,trivial,AJ⟩
 rintro n0 -;have cs:=UL (Bp l) (by omega);have hle:=LK (Bp l);have hszS:=Cg (Bp l);have hhs:Cv l=decide (BL (Bp l)<(Bp l).length):=p3.symm;have e10:(sb (Bp l)).extract 0 (BL (Bp l))=sb (B4 l):=by rw[<-p1,Eu,FW];rfl
 have e11:(sb (Bp l)).extract (BL (Bp l)+1) (Bp l).length=sb (Ba l):=by rw[<-p2,Eu,B8 (Af _)];rfl
 have hNl:BL (Bp l)=(B4 l).length:=by rw[<-p1];exact ko _
 have hDl:(Ba l).length=(Bp l).length-(BL (Bp l)+1):=by rw[<-p2];unfold Ba;rw[Dh]
 have pp:=λh1 h2=>UH (Bp l) h1 h2 (by omega)
 unfold PQ PK at pp;rw[p1,p2,p3]at pp;have edef:CY l=if JO l then 1 else if 600<(B4 l).length\/600<(Ba l).length then 4 else if Cv l=true/\Nat.gcd (dv (B4 l)) (dv (Ba l))≠1 then 1 else 0:=rfl
 rw[hbf]at edef;generalize hN:B4 l=Nn at*;generalize hD:Ba l=Dn at*;generalize hH:Cv l=hv at*;generalize hK:CY l=KnV at*;generalize Bp l=Sn at*;generalize BL Sn=k at*;clear p1 p2 p3 hbf hN hD hH hK;have cf:=bq Nn (by omega);have cf2:=bq Dn (by omega);have q0:=Ex Nn [48];have q1:=Ex Dn [48];have q2:=Ex Dn [49];refine sR 400 ?_;refine cI cs ?_;refine C4 (α:=Nat) (λn=>⟨[(0,str (sb l)),(3,str (sb Sn)),(4,i64 (k:Int))],[],n⟩) (λ_=>(!DA Nn||(DO l&&decide (Nn=[48])))=false) ?_ ?_
 ·refine sZ 500 ?_
  refine AE (Ah hszS kN) ?_;refine AE e10 ?_;cases hp:DA Nn
  ·rw[hp]at cf
   refine BE.same _ cf AI ?_;refine BP ?_;simp only[SV];refine AE kT ?_;refine AM ?_;refine sR 600 ?_;refine Ai ?_;exact AL (by rw[hchk1 (by rw[hp];rfl)];rfl) AA.out
  ·rw[hp]at cf
   have hl0:=hne hp;have e1:=bF hl0;refine BE.same _ cf AI ?_;refine BP ?_;simp only[Pg];refine AE (As kF hsz e1) ?_;have q0':BK (sb Nn) ⟨#[48]⟩=decide (Nn=[48]):=q0;cases hb:DO l
   ·refine AE kF ?_
    refine AM ?_;refine An ?_;exact⟨rfl,_,rfl,AJ⟩
   ·refine AE (BY kT kF hszS kN) ?_
    refine AE (BY kT kF e10 q0') ?_
    by_cases h0:Nn=[48]
    ·rw[AX h0]
     refine AM ?_;refine sR 600 ?_;refine Ai ?_;exact AL (by rw[hchk1 (by simp[hp,hb,h0])];rfl) AA.out
    ·rw[Ag h0]
     refine AM ?_;refine An ?_;exact⟨rfl,_,by simp,AJ⟩
 rintro n1 hb1;clear hchk1 hne cf q0;refine C4 (α:=Nat) (λn=>⟨[(0,str (sb l)),(3,str (sb Sn)),(4,i64 (k:Int))],[],n⟩) (λ_=>(hv&&(!DA Dn||decide (Dn=[48])||decide (Dn=[49])))=false) ?_ ?_
 ·cases hv
  ·have e40:decide ((k:Int)<(Sn.length:Int))=false:=Ag (by have:=DS hhs.symm;omega)
   refine sZ 700 ?_;refine AU (Ah hszS e40) ?_;refine AE kF ?_;refine AM ?_;refine An ?_;exact⟨rfl,_,rfl,AJ⟩
  ·have hkl:=DE hhs.symm
   have e40:decide ((k:Int)<(Sn.length:Int))=true:=AX (by omega);have wk:IntKind.i64.wrap ((k:Int)+1)=((k+1:Nat):Int):=wI (by omega) (by omega);have q1':BK (sb Dn) ⟨#[48]⟩=decide (Dn=[48]):=q1;have q2':BK (sb Dn) ⟨#[49]⟩=decide (Dn=[49]):=q2;refine sZ 700 ?_;refine AU (Ah hszS e40) ?_;refine AE (BY kT wk hszS kN) ?_;simp only[e11];refine No kT ?_;cases hp:DA Dn
   ·rw[hp]at cf2
    refine BE.same _ cf2 AI ?_;refine AE kB ?_;refine AE kT ?_;refine AM ?_;refine sR 800 ?_;refine Ai ?_;exact AL (by rw[hchk2 (by simp[hp])];rfl) AA.out
   ·rw[hp]at cf2
    have e12:(sb Sn).extract (IntKind.i64.wrap ((k:Int)+1)).toNat (sb Sn).size=sb Dn:=by rw[wk,hszS,Ib];exact e11
    refine BE.same _ cf2 AI ?_;refine AE kB ?_;simp only[e12,q1']
    by_cases h48:Dn=[48]
    ·rw[AX h48]
     refine AE kT ?_;refine AM ?_;refine sR 800 ?_;refine Ai ?_;exact AL (by rw[hchk2 (by simp[h48])];rfl) AA.out
    ·rw[Ag h48]
     refine AE kB ?_;simp only[e12,q2']
     by_cases h49:Dn=[49]
     ·rw[AX h49]
      refine AM ?_;refine sR 800 ?_;refine Ai ?_;exact AL (by rw[hchk2 (by simp[h49])];rfl) AA.out
     ·rw[Ag h49]
      refine AM ?_;refine An ?_;exact⟨rfl,_,by simp,AJ⟩
 rintro n2 hb2;clear hchk2 cf2 q1 q2 e10 e11 hsz;have hpN:DA Nn=true:=by
  cases h:DA Nn
  ·rw[h]at hb1;simp at hb1
  ·rfl
 have hpD:hv=true->DA Dn=true:=λh0=>by
  cases h:DA Dn
  ·rw[h,h0]at hb2;simp at hb2
  ·rfl
 rw[hb1,hb2]at edef;rw[AF (by decide)]at edef;have wl1:IntKind.i64.wrap ((Sn.length:Int)-(k:Int))=(Sn.length:Int)-(k:Int):=wI (by omega) (by omega);have wl2:IntKind.i64.wrap ((Sn.length:Int)-(k:Int)-1)=(Sn.length:Int)-(k:Int)-1:=wI (by omega) (by omega);have e91:decide ((Sn.length:Int)-(k:Int)-1>600)=decide (600<Dn.length):=C8.2 (by omega);refine C4 (α:=Nat) (λn=>⟨[(3,str (sb Sn)),(4,i64 (k:Int))],[],n⟩) (λ_=>Nn.length<=600/\Dn.length<=600) ?_ ?_
 ·by_cases g1:600<k
  ·have e9:decide ((k:Int)>600)=true:=AX (by omega)
   rw[AG (.inl (by omega))]at edef;refine sZ 900 ?_;refine AU e9 ?_;refine AE kT ?_;refine AM ?_;refine sR 1000 ?_;refine Ai ?_;exact AL (by rw[edef];rfl) AA.out
  ·have e9:decide ((k:Int)>600)=false:=Ag (by omega)
   refine sZ 900 ?_;refine AU e9 ?_;refine AE (CH kF hszS wl1 wl2 e91) ?_
   by_cases g2:600<Dn.length
   ·rw[AG (.inr g2)]at edef
    rw[AX g2];refine AM ?_;refine sR 1000 ?_;refine Ai ?_;exact AL (by rw[edef];rfl) AA.out
   ·rw[Ag g2]
    refine AM ?_;refine An ?_;exact⟨rfl,_,⟨by omega,by omega⟩,AJ⟩
 rintro n3 ⟨g1,g2⟩;rw[AF (by omega)]at edef;clear e91 wl1 wl2 hb1 hb2;obtain⟨-,dN⟩:=J6 hpN;refine C4 (α:=Nat) (λn=>⟨[],[],n⟩) (λ_=>KnV=0) ?_ ?_
 ·cases hv
  ·have e40:decide ((k:Int)<(Sn.length:Int))=false:=Ag (by have:=DS hhs.symm;omega)
   rw[AF (by simp)]at edef;refine sZ 1100 ?_;refine AU (Ah hszS e40) ?_;refine AM ?_;refine An ?_;exact⟨rfl,_,edef,AJ⟩
  ·have hkl:=DE hhs.symm
   have e40:decide ((k:Int)<(Sn.length:Int))=true:=AX (by omega);obtain⟨-,dD⟩:=J6 (hpD rfl);have pa:=pp (by rw[J4 dN];exact dN) (by rw[J4 dD];exact dD);rw[AG rfl,M3 dN,M3 dD]at pa;have lN:(AY (dv Nn)).length<1000000:=Dd (LB (CX (GK Nn dN) (Ng (by decide) Nn.length))) (by omega);have lD:(AY (dv Dn)).length<1000000:=Dd (LB (CX (GK Dn dD) (Ng (by decide) Dn.length))) (by omega);have cg:AK C0 117 [rD ((dv Nn:Int)).natAbs,rD ((dv Dn:Int)).natAbs] (.sl false 1 ((AY (Nat.gcd (dv Nn) (dv Dn))).map Ab)):=Xu (dv Nn) (dv Dn) lN lD;have ht:=YB (Nat.gcd (dv Nn) (dv Dn));have ed1:Nat.gcd (dv Nn) (dv Dn)≠1->KnV=1:=λh=>by rw[AG ⟨rfl,h⟩]at edef;exact edef
   have ed0:Nat.gcd (dv Nn) (dv Dn)=1->KnV=0:=λh=>by rw[AF (λhh=>hh.2 h)]at edef;exact edef
   clear edef;generalize Nat.gcd (dv Nn) (dv Dn)=gg at*;refine sZ 1100 ?_;refine AU (Ah hszS e40) ?_;refine AM ?_;refine sR 1200 ?_;refine cI pa ?_;refine sR 1300 ?_;refine cI cg ?_;rcases ht with⟨t1,a,ha,t2⟩|⟨t1,t2⟩
   ·have ha':=Dv ha
    have t1n:((((AY gg).map Ab).length:Int) != 1)=false:=by unfold bne;rw[t1];rfl
    have t2n:((a:Int) != 1) = !decide (gg=1):=by unfold bne;rw[t2]
    refine sZ 1400 ?_;refine AU t1n ?_;refine AE kF ?_;refine Bq kF ha' ?_;refine AE (Ah kF t2n) ?_
    by_cases hg1:gg=1
    ·rw[AX hg1]
     refine AM ?_;refine An ?_;exact⟨rfl,_,ed0 hg1,AJ⟩
    ·rw[Ag hg1]
     refine AM ?_;refine sR 1500 ?_;refine Ai ?_;exact AL (by rw[ed1 hg1];rfl) AA.out
   ·have edf:=ed1 t2
    have t1n:((((AY gg).map Ab).length:Int) != 1)=true:=by unfold bne;rw[t1];rfl
    refine sZ 1400 ?_;refine AU t1n ?_;refine AE kT ?_;refine AM ?_;refine sR 1500 ?_;refine Ai ?_;exact AL (by rw[edf];rfl) AA.out
 rintro n4 h0;refine sR 1600 ?_;refine Ai ?_;exact AL (by rw[h0];rfl) AA.out
theorem m7 {n k:Nat}(hn:n≠0)(hk:k<10):Lib.decDigits (n*10+k)=Lib.decDigits n++[UInt8.ofNat (48+k)]:=by
 rw[Lib.decDigits,dif_neg (by omega)]
 congr 2
 ·omega
 ·congr 2;omega
theorem Xw {c:UInt8}(h:Bg c=true):UInt8.ofNat (48+(c.toNat-48))=c:=by
 obtain⟨h1,h2⟩:=LH h;rw[<-UInt8.toNat_inj,QZ _ (by omega)];omega
theorem oB (l:List UInt8)(c:UInt8):dv (l++[c])=dv l*10+(c.toNat-48):=by
 rw[N0];simp[dv,Gw]
theorem qh:∀(n:Nat) (l:List UInt8),l.length=n->l≠[]->l.all Bg=true->l.head? ≠ some 48->dv l≠0/\Lib.decDigits (dv l)=l:=λn=>by
 induction n with
 |zero=>intro l h0 h1;exact Ad (FU h0) h1
 |succ n ih=>
  intro l h0 h1 h2 h3;rcases SP l with rfl|⟨m,c,rfl⟩
  ·exact Ad rfl h1
  ·rw[SO]at h0 h1 h2 h3⊢
   rw[Js,BR]at h2;have hc:Bg c=true:=by simpa using h2.2
   obtain⟨c1,c2⟩:=LH hc;rw[oB]
   by_cases hm:m=[]
   ·subst hm
    have hc48:c≠48:=λh=>h3 (by rw[h];rfl)
    have hcn:c.toNat≠48:=λh=>hc48 (UInt8.toNat_inj.1 h)
    have e0:dv []*10+(c.toNat-48)=c.toNat-48:=by simp[dv,Gw]
    rw[e0];refine⟨by omega,?_⟩;rw[Lib.decDigits,dif_pos (by omega),Xw hc];rfl
   ·have hh:m.head? ≠ some 48:=by
     cases m with
     |nil=>exact Ad rfl hm
     |cons a m=>exact h3
    obtain⟨i1,i2⟩:=ih m (by rw[Bc,Ek]at h0;omega) hm h2.1 hh;refine⟨by omega,?_⟩;rw[m7 i1 (by omega),i2,Xw hc]
theorem TH {l:List UInt8}(h:DA l=true):Lib.decDigits (dv l)=l/\(l≠[48]->dv l≠0):=by
 obtain⟨h1,h2⟩:=J6 h
 by_cases h0:l=[48]
 ·subst h0
  refine⟨?_,λhh=>Ad rfl hh⟩;show Lib.decDigits 0=[48];rw[Lib.decDigits,dif_pos (by decide)];rfl
 ·have h3:l.head? ≠ some 48:=by
   unfold DA at h;rw[BR,Ag h0,Bool.false_or]at h
   have:=h.2
   simpa using this
  obtain⟨a,b⟩:=qh _ l rfl h1 h2 h3;exact⟨b,λ_=>a⟩
theorem YZ:∀ {l:List UInt8},BL l<l.length->l.drop (BL l)=47::l.drop (BL l+1)
 | [],h=>by cases h
 |c::l,h=>by
  by_cases hc:c=47
  ·subst hc;rfl
  ·have e1:BL (c::l)=BL l+1:=by
    unfold BL;rw[PZ,AG (by simpa using hc),Bo]
   rw[e1,Bo]at h;rw[e1,ST,ST];exact YZ (by omega)
def Gt (l:List UInt8):Nat:=if Cv l then dv (Ba l)else 1
def CR (l:List UInt8):Rat:=mkRat (rv (B1 l)) (Gt l)
theorem kC {n:Int}{d:Nat}(hd:d≠0)(h:Nat.gcd n.natAbs d=1):(mkRat n d).num=n/\(mkRat n d).den=d:=by
 obtain⟨q1,q2⟩:=Tr (x:=n) hd;rw[h,Nat.div_one]at q1 q2;rw[Rf]at q1;exact⟨q1,q2⟩
theorem QY {l:List UInt8}(h:CY l=0):JO l=false/\(B4 l).length<=600/\(Ba l).length<=600/\(Cv l=true->Nat.gcd (dv (B4 l)) (dv (Ba l))=1):=by
 unfold CY at h;cases hb:JO l
 ·rw[hb,AF (by decide)]at h
  split at h
  ·cases h
  ·rename_i h1
   split at h
   ·cases h
   ·rename_i h2
    refine⟨rfl,by omega,by omega,λh3=>?_⟩;rcases Nat.decEq (Nat.gcd (dv (B4 l)) (dv (Ba l))) 1 with h4|h4
    ·exact Ad ⟨h3,h4⟩ h2
    ·exact h4
 ·rw[hb,AG rfl]at h;cases h
theorem OG {l:List UInt8}(h:CY l=0):(CR l).num=rv (B1 l)/\(CR l).den=Gt l/\BO (CR l)=l/\(rv (B1 l)).natAbs=dv (B4 l):=by
 obtain⟨h1,h2,h3,h4⟩:=QY h;rw[P6]at h1;simp only[JC]at h1;obtain⟨⟨b1,b2⟩,b3⟩:=h1;have p1:DA (B4 l)=true:=by simpa using b1
 obtain⟨d1,d2⟩:=TH p1;have hab:(rv (B1 l)).natAbs=dv (B4 l):=by
  show(rv (B1 l)).natAbs=dv (Bp (B1 l));unfold rv;split<;>omega
 have hdd:Cv l=true->DA (Ba l)=true/\Ba l≠[48]/\Ba l≠[49]:=λhs=>by
  rw[hs,Gd]at b3;simp only[JC]at b3;exact⟨by simpa using b3.1.1,DS b3.1.2,DS b3.2⟩
 have hd0:Gt l≠0:=by
  unfold Gt;cases hs:Cv l
  ·simp
  ·obtain⟨e1,e2,e3⟩:=hdd hs
   simpa using(TH e1).2 e2
 have hg:Nat.gcd (rv (B1 l)).natAbs (Gt l)=1:=by
  rw[hab];unfold Gt;cases hs:Cv l
  ·simp
  ·simpa using h4 hs
 obtain⟨m1,m2⟩:=kC hd0 hg;refine⟨m1,m2,?_,hab⟩;have hi:Lib.itoa (rv (B1 l))=B1 l:=by
  cases hb:DO (B1 l)
  ·have e1:B4 l=B1 l:=by unfold B4 Bp;rw[hb];rfl
   rw[e1]at d1;have e2:rv (B1 l)=(dv (B1 l):Int):=by unfold rv Bp;rw[hb];rfl
   rw[e2];unfold Lib.itoa;rw[AF (by omega)];exact d1
  ·obtain⟨m,hm⟩:∃m,B1 l=45::m:=by
    cases hn:B1 l with
    |nil=>rw[hn]at hb;cases hb
    |cons c m=>
     rw[hn]at hb;exact⟨m,by rw[show c=45 by simpa[DO]using hb]⟩
   have e1:B4 l=m:=by unfold B4;rw[hm];rfl
   have hne:B4 l≠[48]:=λh=>by
    have:=(S2 l).2.2.2
    rw[b2,hm]at this;have h2:=DS this;rw[e1]at h;exact h2 (by rw[h])
   have hpos:=d2 hne;rw[e1]at d1 hpos;have e2:rv (B1 l) = -(dv m:Int):=by rw[hm];rfl
   rw[e2];unfold Lib.itoa;rw[AG (by omega),MC,ER,d1,hm]
 unfold BO;rw[show(CR l).num=rv (B1 l)from m1,show(CR l).den=Gt l from m2,hi];have hle:=LK l;cases hs:Cv l
 ·have e1:Gt l=1:=by unfold Gt;rw[hs];rfl
  have e2:=DS (p:=BL l<l.length) hs;rw[AG e1];unfold B1;exact B8 (by omega)
 ·obtain⟨e1,e2,e3⟩:=hdd hs
  have e4:Gt l=dv (Ba l):=by unfold Gt;rw[hs];rfl
  have e5:=(TH e1).1;have e6:dv (Ba l)≠1:=λh=>by
   rw[h,Lib.decDigits,dif_pos (by decide)]at e5;exact e3 e5.symm
  rw[e4,AF e6,e5];unfold B1 Ba;rw[<-YZ (DE hs),E7]
theorem P3 {l:List UInt8}(h:CY l=0):(B4 l).all Bg=true/\(Cv l=true->(Ba l).all Bg=true):=by
 obtain⟨h1,-,-,-⟩:=QY h;rw[P6]at h1;simp only[JC]at h1;obtain⟨⟨b1,-⟩,b3⟩:=h1;refine⟨(J6 (by simpa using b1)).2,λhs=>?_⟩;rw[hs,Gd]at b3;simp only[JC]at b3;exact(J6 (by simpa using b3.1.1)).2
theorem Mr {l:List UInt8}(h:CY l=0):rk (CR l) 600:=by
 obtain⟨m1,m2,-,m4⟩:=OG h;obtain⟨-,h2,h3,-⟩:=QY h;obtain⟨p1,p2⟩:=P3 h;have hb:∀k,(10:Nat)^k<=BB^k:=λk=>Ng (by decide) k
 refine⟨?_,?_⟩
 ·rw[m1,m4]
  exact BX (G4 (CX (GK _ p1) (hb _))) h2
 ·rw[m2]
  unfold Gt;cases hs:Cv l
  ·exact BX (G4 (n:=1) (k:=1) (by decide)) (by decide)
  ·exact BX (G4 (CX (GK _ (p2 hs)) (hb _))) h3
theorem RH {l:List UInt8}(h:CY l=0):FR (CR l) (GL l) 600:=by
 obtain⟨m1,m2,-,-⟩:=OG h;refine⟨⟨Ch _,?_,?_⟩,Mr h⟩
 ·show(AW (rv (B1 l))).z=_
  rw[Dq,m1]
 ·show(if Cv l then dv (Ba l)else 1)=_
  rw[m2];rfl
theorem RW {l:List UInt8}(hl:l.length<=100000)(h:CY l=0):AK C0 111 [str (sb l)] (GL l).D:=ob l hl (P3 h).1 (P3 h).2
end Go.Ide
